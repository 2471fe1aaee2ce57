import Derived.Lib.LaidTab
import Derived.Lib.ItoaNum
import Derived.Test.YticakdhfjeljkaaGreatDoorZ12
set_option linter.all false
set_option maxRecDepth 20000
open Option renaming some->O,none->Y
open Bool renaming true->W,false->F
open Go.Proofs.Tryz
noncomputable section
namespace Go.Ev
open Go
end Go.Ev
namespace Go.X
open Go Go.Ev
end Go.X
namespace Go.Proofs.Mo
open Go Go.Ev
def rl(w:af):Prop:=Lib.TabIs Tryz.prog w "internal/strconv.uint64pow10" .u64 Lib.pow10Tab/\∀a,a= "strconv.ErrSyntax" ∨a= "strconv.ErrRange" ->∀g,Tryz.prog.globalNamed a=O g->∃b c,w.cell? ⟨g,0,Y⟩=O (.iface b c)
structure oN(E:cd):Prop where
 ro:∀i,E.ro i=Y
 laid:∀w,E.hS w->rl w
theorem oN.bX {E:cd} (h:oN E) (A:Nat->V Ob) (I:aA):oN (E.bX A I):=⟨λ_=>rfl,h.laid⟩
def oN.plain {E:cd} (h:oN E):oN E.plain:=⟨λ_=>rfl,h.laid⟩
end Go.Proofs.Mo
namespace Go.Proofs.Mo
open Go Go.Ev Go.X
abbrev km:Ty:=.ptr 1
abbrev iX:Ty:=.ptr 10
abbrev jE:Ty:=.ptr 11
abbrev mn:Ty:=.ptr 2
abbrev lY:Ty:=.struct 1
abbrev fX:Ty:=.struct 12
abbrev fY:Ty:=.struct 13
abbrev fm:Ty:=.struct 14
abbrev bQ:Ty:=.struct 15
abbrev pn:Ty:=.struct 16
abbrev po:Ty:=.struct 17
abbrev pq:Ty:=.struct 19
abbrev pr:Ty:=.struct 20
abbrev cK:Ty:=.struct 21
abbrev cb:Ty:=.struct 22
abbrev cU:Ty:=.struct 23
abbrev eD:Ty:=.struct 24
abbrev eE:Ty:=.struct 25
abbrev fZ:Ty:=.struct 26
abbrev fo:Ty:=.struct 27
abbrev fp:Ty:=.struct 28
abbrev cg:Ty:=.struct 29
abbrev fq:Ty:=.struct 31
abbrev bg:Ty:=.struct 35
abbrev zO:Ty:=.struct 37
abbrev iH:Ty:=.struct 38
abbrev dM:Ty:=.struct 40
abbrev hH:Ty:=.struct 41
abbrev lp:Ty:=.cell .I
abbrev dH:Ty:=.cell km
abbrev ky:Ty:=.cell eE
abbrev fJ:Ty:=.cell cg
abbrev ec:Ty:=.bk .I
abbrev lZ:Ty:=.bk .str
abbrev eF:Ty:=.bk lY
abbrev gJ:Ty:=.bk fX
abbrev gK:Ty:=.bk fY
abbrev gL:Ty:=.bk fm
abbrev ed:Ty:=.bk bQ
abbrev iM:Ty:=.bk pn
abbrev iN:Ty:=.bk po
abbrev gN:Ty:=.bk pq
abbrev gO:Ty:=.bk pr
abbrev kz:Ty:=.bk cK
abbrev eR:Ty:=.bk eE
abbrev gQ:Ty:=.bk fZ
abbrev eS:Ty:=.bk fo
abbrev eT:Ty:=.bk fp
abbrev aY:Ty:=.bk cg
abbrev dh:Ty:=.bk zO
abbrev bf:Ty:=.ref fq
abbrev aI:Ty:=.int .i64
abbrev ir:Ty:=.int .u64
abbrev so:Ty:=.int .u8
abbrev et:Ty:=.cell aY
abbrev iu:Ty:=.bk aI
abbrev l6:Ty:=.iz .I .I
abbrev fi:Ty:=.iz .I .bool
structure l7 where
 kind:Int
 name:bP
 num:Int
 args:List Int
 deriving Inhabited
structure iO where
 deriving Inhabited
structure iP where
 deriving Inhabited
structure w4 where
 u0:iP
 v:Int
 deriving Inhabited
structure yC where
 w5:Int
 abD:Int
 deriving Inhabited
structure qU where
 u0:iO
 mu:yC
 deriving Inhabited
structure w6 where
 u0:iO
 done:w4
 m:qU
 deriving Inhabited
structure nK where
 deriving Inhabited
structure Ib where
 u0:iP
 u1:nK
 v:Int
 deriving Inhabited
structure AM where
 pH:Option Nat
 rm:Option (Nat×Nat)
 ready:w6
 bits:Option (Nat×Nat)
 ny:Ib
 deriving Inhabited
structure dP where
 e0:Int
 e1:Int
 deriving Inhabited
structure fO where
 name:bP
 type:Int
 deriving Inhabited
structure hZ where
 role:bP
 au:bP
 min:Int
 max:Int
 deriving Inhabited
structure gR where
 role:bP
 au:bP
 aet:Bool
 deriving Inhabited
structure dQ where
 name:bP
 dI:bP
 mL:Bool
 bd:List fO
 aD:List hZ
 bK:List gR
 deriving Inhabited
structure Cell where
 kind:Int
 text:bP
 mark:bP
 deriving Inhabited
structure w7 where
 kind:Int
 text:bP
 mark:bP
 deriving Inhabited
structure hJ where
 au:dQ
 tu:bP
 up:Option Nat
 number:Int
 h4:Option Nat
 eu:Option (Nat×Nat)
 equations:Option (Nat×Nat)
 cells:List Cell
 eU:List w7
 rn:Bool
 nj:Bool
 deriving Inhabited
structure Ku where
 name:bP
 value:bP
 deriving Inhabited
structure Rf where
 role:bP
 target:Int
 deriving Inhabited
structure Nd where
 iD:Int
 au:bP
 cu:Int
 role:bP
 bd:List Ku
 aD:List Int
 bK:List Rf
 deriving Inhabited
structure gB where
 next:Int
 aj:List Nd
 deriving Inhabited
structure cY where
 kind:Int
 text:bP
 int:Int
 aD:List Int
 deriving Inhabited
structure oF where
 aj:List cY
 deriving Inhabited
structure rz where
 au:bP
 name:bP
 scope:Bool
 Qp:bP
 deriving Inhabited
structure dA where
 au:bP
 left:List l7
 right:List l7
 deriving Inhabited
structure eV where
 au:bP
 cells:List Cell
 deriving Inhabited
structure cR where
 au:bP
 eU:List w7
 deriving Inhabited
structure dc where
 name:bP
 version:Int
 tv:List bP
 bC:List dQ
 eu:List rz
 equations:List dA
 eL:List eV
 c7:List cR
 deriving Inhabited
structure Wi where
 ls:List dc
 m:gB
 self:Int
 bj:Int
 deriving Inhabited
structure h9 where
 Yq:Int
 Ic:Int
 part:Int
 ka:Int
 deriving Inhabited
structure MV where
 e0:Int
 e1:Int
 e2:Int
 deriving Inhabited
structure MW where
 e0:Option Nat
 e1:Option Nat
 e2:Option Nat
 e3:Option Nat
 deriving Inhabited
structure Dm where
 Qp:bP
 deriving Inhabited
structure dw where
 kind:Int
 int:Int
 text:bP
 bool:Bool
 node:Int
 bk:List Int
 deriving Inhabited
structure fv where
 ls:List dc
 m:gB
 e:oF
 self:Int
 left:Int
 deriving Inhabited
structure jT where
 name:bP
 node:Int
 deriving Inhabited
structure tW where
 kind:Int
 text:bP
 int:Int
 Ic:Int
 deriving Inhabited
structure Vv where
 t:Option Nat
 m:gB
 e:oF
 pH:Option Nat
 self:Int
 bj:Int
 Kv:Int
 deriving Inhabited
structure cV where
 e:Int
 deriving Inhabited
structure eh where
 f:h9
 deriving Inhabited
structure Hp where
 jn:List (Option (List dP))
 fP:List AM
 eY:List hJ
 jU:List (List (bP×Option Nat))
 zP:List (List (bP×Dm))
 vx:List (Option (List bP))
 FX:List (Option (List rz))
 Ie:List (Option (List dA))
 all:List (List (bP×dQ))
 nX:List Int
 sY:List Vv
 nY:List fv
 vy:List (List (Int×Nd))
 EG:List (Option (Nat×Nat))
 Dn:List (Option (List Int))
 deriving Inhabited
@[reducible] noncomputable def CC:Nat->Type
  |0=>Hp|1=>l7
  |2=>iO|3=>iP
  |4=>w4|5=>yC
  |6=>qU|7=>w6
  |8=>nK|9=>Ib
  |10=>AM|11=>dP
  |12=>fO|13=>hZ
  |14=>gR|15=>dQ
  |16=>Cell|17=>w7
  |18=>hJ|19=>Ku
  |20=>Rf|21=>Nd
  |22=>gB|23=>cY
  |24=>oF|25=>rz
  |26=>dA|27=>eV
  |28=>cR|29=>dc
  |30=>Wi|31=>h9
  |32=>MV|33=>MW
  |34=>Dm|35=>dw
  |36=>fv|37=>jT
  |38=>tW|39=>Vv
  |40=>cV|41=>eh
  |_+42=>ab
@[reducible] noncomputable def UF:Nat->Z Ty
  |0=>[]|1=>[aI,.str,aI,iu]
  |2=>[]|3=>[]
  |4=>[(.struct 3),(.int .u32)]|5=>[(.int .i32),(.int .u32)]
  |6=>[(.struct 2),(.struct 5)]|7=>[(.struct 2),(.struct 4),(.struct 6)]
  |8=>[]|9=>[(.struct 3),(.struct 8),aI]
  |10=>[(.mp 3),(.hs 5),(.struct 7),(.hs 0),(.struct 9)]|11=>[ir,ir]
  |12=>[.str,aI]|13=>[.str,.str,aI,aI]
  |14=>[.str,.str,.bool]|15=>[.str,.str,.bool,gJ,gK,gL]
  |16=>[aI,.str,.str]|17=>[aI,.str,.str]
  |18=>[bQ,.str,mn,aI,(.mp 4),(.hs 6),(.hs 7),iM,iN,.bool,.bool]|19=>[.str,.str]
  |20=>[.str,aI]|21=>[aI,.str,aI,.str,gN,iu,gO]
  |22=>[aI,kz]|23=>[aI,.str,aI,iu]
  |24=>[(.bk cU)]|25=>[.str,.str,.bool,.str]
  |26=>[.str,eF,eF]|27=>[.str,iM]
  |28=>[.str,iN]|29=>[.str,aI,lZ,ed,eR,gQ,eS,eT]
  |30=>[aY,cb,aI,aI]|31=>[aI,aI,aI,aI]
  |32=>[aI,aI,aI]|33=>[(.mp 1000),(.mp 1000),(.mp 1000),(.mp 1000)]
  |34=>[.str]|35=>[aI,aI,.str,.bool,aI,iu]
  |36=>[aY,cb,eD,aI,aI]|37=>[.str,aI]
  |38=>[aI,.str,aI,aI]|39=>[km,cb,eD,(.mp 12),aI,aI,aI]
  |40=>[aI]|41=>[fq]
  |_+42=>[]
noncomputable def UU:(n:Nat)->CC n->HL CC (UF n)
 |0,_=>()|1,x=>(x.kind,x.name,x.num,x.args)
 |2,x=>()|3,x=>()
 |4,x=>(x.u0,x.v)|5,x=>(x.w5,x.abD)
 |6,x=>(x.u0,x.mu)|7,x=>(x.u0,x.done,x.m)
 |8,x=>()|9,x=>(x.u0,x.u1,x.v)
 |10,x=>(x.pH,x.rm,x.ready,x.bits,x.ny)|11,x=>(x.e0,x.e1)
 |12,x=>(x.name,x.type)|13,x=>(x.role,x.au,x.min,x.max)
 |14,x=>(x.role,x.au,x.aet)|15,x=>(x.name,x.dI,x.mL,x.bd,x.aD,x.bK)
 |16,x=>(x.kind,x.text,x.mark)|17,x=>(x.kind,x.text,x.mark)
 |18,x=>(x.au,x.tu,x.up,x.number,x.h4,x.eu,x.equations,x.cells,x.eU,x.rn,x.nj)|19,x=>(x.name,x.value)
 |20,x=>(x.role,x.target)|21,x=>(x.iD,x.au,x.cu,x.role,x.bd,x.aD,x.bK)
 |22,x=>(x.next,x.aj)|23,x=>(x.kind,x.text,x.int,x.aD)
 |24,x=>x.aj|25,x=>(x.au,x.name,x.scope,x.Qp)
 |26,x=>(x.au,x.left,x.right)|27,x=>(x.au,x.cells)
 |28,x=>(x.au,x.eU)|29,x=>(x.name,x.version,x.tv,x.bC,x.eu,x.equations,x.eL,x.c7)
 |30,x=>(x.ls,x.m,x.self,x.bj)|31,x=>(x.Yq,x.Ic,x.part,x.ka)
 |32,x=>(x.e0,x.e1,x.e2)|33,x=>(x.e0,x.e1,x.e2,x.e3)
 |34,x=>x.Qp|35,x=>(x.kind,x.int,x.text,x.bool,x.node,x.bk)
 |36,x=>(x.ls,x.m,x.e,x.self,x.left)|37,x=>(x.name,x.node)
 |38,x=>(x.kind,x.text,x.int,x.Ic)|39,x=>(x.t,x.m,x.e,x.pH,x.self,x.bj,x.Kv)
 |40,x=>x.e|41,x=>x.f
 |_+42,_=>()
noncomputable def UM:(n:Nat)->HL CC (UF n)->CC n
 |0,_=>(default:Hp)|1,y=>(l7.mk y.1 y.2.1 y.2.2.1 y.2.2.2:l7)
 |2,y=>(iO.mk:iO)|3,y=>(iP.mk:iP)
 |4,y=>(w4.mk y.1 y.2:w4)|5,y=>(yC.mk y.1 y.2:yC)
 |6,y=>(qU.mk y.1 y.2:qU)|7,y=>(w6.mk y.1 y.2.1 y.2.2:w6)
 |8,y=>(nK.mk:nK)|9,y=>(Ib.mk y.1 y.2.1 y.2.2:Ib)
 |10,y=>(AM.mk y.1 y.2.1 y.2.2.1 y.2.2.2.1 y.2.2.2.2:AM)|11,y=>(dP.mk y.1 y.2:dP)
 |12,y=>(fO.mk y.1 y.2:fO)|13,y=>(hZ.mk y.1 y.2.1 y.2.2.1 y.2.2.2:hZ)
 |14,y=>(gR.mk y.1 y.2.1 y.2.2:gR)|15,y=>(dQ.mk y.1 y.2.1 y.2.2.1 y.2.2.2.1 y.2.2.2.2.1 y.2.2.2.2.2:dQ)
 |16,y=>(Cell.mk y.1 y.2.1 y.2.2:Cell)|17,y=>(w7.mk y.1 y.2.1 y.2.2:w7)
 |18,y=>(hJ.mk y.1 y.2.1 y.2.2.1 y.2.2.2.1 y.2.2.2.2.1 y.2.2.2.2.2.1 y.2.2.2.2.2.2.1 y.2.2.2.2.2.2.2.1 y.2.2.2.2.2.2.2.2.1 y.2.2.2.2.2.2.2.2.2.1 y.2.2.2.2.2.2.2.2.2.2:hJ)|19,y=>(Ku.mk y.1 y.2:Ku)
 |20,y=>(Rf.mk y.1 y.2:Rf)|21,y=>(Nd.mk y.1 y.2.1 y.2.2.1 y.2.2.2.1 y.2.2.2.2.1 y.2.2.2.2.2.1 y.2.2.2.2.2.2:Nd)
 |22,y=>(gB.mk y.1 y.2:gB)|23,y=>(cY.mk y.1 y.2.1 y.2.2.1 y.2.2.2:cY)
 |24,y=>(oF.mk y:oF)|25,y=>(rz.mk y.1 y.2.1 y.2.2.1 y.2.2.2:rz)
 |26,y=>(dA.mk y.1 y.2.1 y.2.2:dA)|27,y=>(eV.mk y.1 y.2:eV)
 |28,y=>(cR.mk y.1 y.2:cR)|29,y=>(dc.mk y.1 y.2.1 y.2.2.1 y.2.2.2.1 y.2.2.2.2.1 y.2.2.2.2.2.1 y.2.2.2.2.2.2.1 y.2.2.2.2.2.2.2:dc)
 |30,y=>(Wi.mk y.1 y.2.1 y.2.2.1 y.2.2.2:Wi)|31,y=>(h9.mk y.1 y.2.1 y.2.2.1 y.2.2.2:h9)
 |32,y=>(MV.mk y.1 y.2.1 y.2.2:MV)|33,y=>(MW.mk y.1 y.2.1 y.2.2.1 y.2.2.2:MW)
 |34,y=>(Dm.mk y:Dm)|35,y=>(dw.mk y.1 y.2.1 y.2.2.1 y.2.2.2.1 y.2.2.2.2.1 y.2.2.2.2.2:dw)
 |36,y=>(fv.mk y.1 y.2.1 y.2.2.1 y.2.2.2.1 y.2.2.2.2:fv)|37,y=>(jT.mk y.1 y.2:jT)
 |38,y=>(tW.mk y.1 y.2.1 y.2.2.1 y.2.2.2:tW)|39,y=>(Vv.mk y.1 y.2.1 y.2.2.1 y.2.2.2.1 y.2.2.2.2.1 y.2.2.2.2.2.1 y.2.2.2.2.2.2:Vv)
 |40,y=>(cV.mk y:cV)|41,y=>(eh.mk y:eh)
 |_+42,_=>()
noncomputable def UA:Nat->AK
 |0=>.br (.struct 11) 303|1=>.h7 (.struct 10)
 |2=>.h7 (.struct 18)|3=>.map .str mn
 |4=>.map .str (.struct 34)|5=>.br .str 9
 |6=>.br eE 167|7=>.br fZ 176
 |8=>.map .str bQ|9=>.h7 aI
 |10=>.h7 (.struct 39)|11=>.h7 (.struct 36)
 |12=>.map aI cK|13=>.h7 (.hs 14)
 |14=>.br aI 3|_+15=>.h7 .bool
noncomputable def UG:(k:Nat)->CC 0->Z (xT CC (UA k))
 |0,h=>h.jn|1,h=>h.fP
 |2,h=>h.eY|3,h=>h.jU
 |4,h=>h.zP|5,h=>h.vx
 |6,h=>h.FX|7,h=>h.Ie
 |8,h=>h.all|9,h=>h.nX
 |10,h=>h.sY|11,h=>h.nY
 |12,h=>h.vy|13,h=>h.EG
 |14,h=>h.Dn|_+15,_=>[]
noncomputable def US:(k:Nat)->CC 0->Z (xT CC (UA k))->CC 0
 |0,h,l=>{h with jn:=l}|1,h,l=>{h with fP:=l}
 |2,h,l=>{h with eY:=l}|3,h,l=>{h with jU:=l}
 |4,h,l=>{h with zP:=l}|5,h,l=>{h with vx:=l}
 |6,h,l=>{h with FX:=l}|7,h,l=>{h with Ie:=l}
 |8,h,l=>{h with all:=l}|9,h,l=>{h with nX:=l}
 |10,h,l=>{h with sY:=l}|11,h,l=>{h with nY:=l}
 |12,h,l=>{h with vy:=l}|13,h,l=>{h with EG:=l}
 |14,h,l=>{h with Dn:=l}|_+15,h,_=>h
noncomputable def U:cp:={C:=CC,dO:=UF,un:=UU,make:=UM,ak:=UA,get:=UG,set:=US,nk:=15,em:=λk=>ik k [0]}
noncomputable def BB:Ar:={ty:=[(2,aI),(3,aI),(4,.bool),(5,so),(9,.str),(21,(.int .i32)),(22,aY),(23,kz),(25,cb),(27,(.struct 30)),(28,(.bk cU)),(30,eD),(37,iu),(39,bg),(40,aI),(49,lZ),(50,ed),(51,eR),(52,gQ),(53,eS),(54,eT),(56,cg),(58,fq),(62,gN),(63,gO),(65,cK),(68,cU),(74,dM),(79,(.struct 39)),(87,(.struct 36)),(96,(.int .u32)),(98,(.struct 4)),(100,(.struct 5)),(102,(.struct 6)),(104,(.struct 7)),(105,(.bk (.struct 11))),(108,(.struct 9)),(110,(.struct 10)),(113,bf),(128,dh),(133,pq),(135,pr),(140,gJ),(141,gK),(142,gL),(144,bQ),(148,iM),(149,iN),(151,(.struct 18)),(154,(.bk mn)),(157,fX),(159,fY),(161,fm),(162,(.bk lZ)),(163,(.struct 32)),(167,eE),(174,eF),(176,fZ),(182,fo),(186,pn),(190,fp),(193,po),(195,(.struct 33)),(198,ir),(228,(.bk .bool)),(231,zO),(243,hH),(275,(.struct 34)),(287,ir),(295,(.bk so)),(299,iH),(300,(.bk iH)),(303,(.struct 11)),(318,lY),(32,km),(76,iX),(77,(.mp 12)),(85,jE),(92,(.mp 3)),(146,mn),(147,(.mp 4)),(153,(.mp 8))],elem:=[(22,56),(23,65),(28,68),(37,3),(49,9),(50,144),(51,167),(52,176),(53,182),(54,190),(62,133),(63,135),(105,303),(128,231),(140,157),(141,159),(142,161),(148,186),(149,193),(154,146),(162,49),(174,318),(228,4),(295,5),(300,299)],bytes:=[(2,8),(3,8),(4,1),(5,1),(9,16),(21,4),(22,24),(23,24),(25,32),(27,72),(28,24),(30,24),(37,24),(39,72),(40,8),(49,24),(50,24),(51,24),(52,24),(53,24),(54,24),(56,168),(58,32),(62,24),(63,24),(65,120),(68,56),(74,8),(79,96),(87,96),(96,4),(98,4),(100,8),(102,8),(104,12),(105,24),(108,8),(110,80),(113,8),(128,24),(133,32),(135,24),(140,24),(141,24),(142,24),(144,112),(148,24),(149,24),(151,256),(154,24),(157,24),(159,48),(161,40),(162,24),(163,24),(167,56),(174,24),(176,64),(182,40),(186,40),(190,40),(193,40),(195,32),(198,8),(228,24),(231,24),(243,32),(275,16),(287,8),(295,24),(299,40),(300,24),(303,16),(318,56),(32,8),(76,8),(77,8),(85,8),(92,8),(146,8),(147,8),(153,8)],Mb:=[112],Mc:=[111,121,123,209,344],k6:=[(163,3),(195,172),(303,287)],ry:=[],Ze:=[(37,5)]}
noncomputable abbrev XB (N:Nat) (lB:Z (Nat×Z (bZ U))):gy U:=BB.lA N lB
noncomputable abbrev PP:ai:=Go.Proofs.Tryz.prog
noncomputable def TT:dt CC:=wT U (ZN U) 43
def Hr:∀n x,U.un n (U.make n x)=x
 |0,_=>rfl|1,_=>rfl
 |2,_=>rfl|3,_=>rfl
 |4,_=>rfl|5,_=>rfl
 |6,_=>rfl|7,_=>rfl
 |8,_=>rfl|9,_=>rfl
 |10,_=>rfl|11,_=>rfl
 |12,_=>rfl|13,_=>rfl
 |14,_=>rfl|15,_=>rfl
 |16,_=>rfl|17,_=>rfl
 |18,_=>rfl|19,_=>rfl
 |20,_=>rfl|21,_=>rfl
 |22,_=>rfl|23,_=>rfl
 |24,_=>rfl|25,_=>rfl
 |26,_=>rfl|27,_=>rfl
 |28,_=>rfl|29,_=>rfl
 |30,_=>rfl|31,_=>rfl
 |32,_=>rfl|33,_=>rfl
 |34,_=>rfl|35,_=>rfl
 |36,_=>rfl|37,_=>rfl
 |38,_=>rfl|39,_=>rfl
 |40,_=>rfl|41,_=>rfl
 |_+42,_=>rfl
def Wj:∀n,(UF n).all (below n)=W:=
 λn=>if h:n<42 then qS (f:=λn=>(UF n).all (below n)) (n:=42) ap n h else by
  obtain⟨m,rfl⟩:=Ba (Nat.le_of_not_lt h)
  (rw[py])<;>rfl
def aeu:∀n,(UF n).all fD=W:=
 λn=>if h:n<42 then qS (f:=λn=>(UF n).all fD) (n:=42) ap n h else by
  obtain⟨m,rfl⟩:=Ba (Nat.le_of_not_lt h)
  (rw[py])<;>rfl
def ZS:∀n,ha U D (.struct n)=W:=
 λn=>if h:n<42 then qS (f:=λn=>ha U D (.struct n)) (n:=42) ap n h else by
  obtain⟨m,rfl⟩:=Ba (Nat.le_of_not_lt h)
  (rw[py])<;>rfl
def abE:∀n,42<=n->UF n=[]:=λn h=>by
 obtain⟨m,rfl⟩:=Ba h
 (rw[py])<;>rfl
def abF:∀k,15<=k->UA k=.h7 .bool:=λk h=>by
 obtain⟨m,rfl⟩:=Ba h
 (rw[py])<;>rfl
def AE:∀(k:Nat)(h:CC 0)(l:Z (xT CC (UA k))),k<15->UG k (US k h l)=l:=by intro k h l n;rcases k with _|_|_|_|_|_|_|_|_|_|_|_|_|_|_|k<;>first|rfl|omega
def Hs:∀(k:Nat)(h a:CC 0),15<=k->UG k h=UG k a:=by intro k h g n;rcases k with _|_|_|_|_|_|_|_|_|_|_|_|_|_|_|k<;>first|rfl|omega
def sQ:∀(k k':Nat)(h:CC 0)(l:Z (xT CC (UA k))),k'≠k->UG k' (US k h l)=UG k' h:=by intro k j h l n;rcases k with _|_|_|_|_|_|_|_|_|_|_|_|_|_|_|k<;>first|rfl|(rcases j with _|_|_|_|_|_|_|_|_|_|_|_|_|_|_|j<;>first|rfl|exact (n rfl).elim)
def LL:cD U TT:=Qk (top:=42) Hr Wj aeu ZS abE AE b9 Hs sQ
def ZT:yu PP U BB=W:=ap
def SS:MO PP U TT BB:=⟨LL,ap,ZT,abF⟩
noncomputable def Holds (f:Nat) (c:bZ U):Prop:=∀E:cd,oN E->eb PP E TT (BB.lA 0 []) f c
abbrev AN:Ty:=.struct 1
abbrev abG:Nat:=10
abbrev MX:Ty:=.struct 10
abbrev Tw:Ty:=.struct 22
abbrev w8:Ty:=.struct 23
abbrev Tx:Ty:=.struct 24
abbrev ZU:Ty:=.struct 35
abbrev Tz:Ty:=.struct 40
abbrev abH:Nat:=0
abbrev qg:Nat:=1
abbrev abI:Nat:=3
abbrev Kw:Nat:=5
abbrev Kx:Nat:=9
abbrev abJ:Nat:=10
abbrev abK:Nat:=12
abbrev TA:Nat:=13
noncomputable def Ig:Hp:=⟨[],[],[],[],[],[],[],[],[],[],[],[],[],[],[]⟩
def Ih:∀k,k<U.nk->U.get k Ig=[]
 |0,_=>rfl|1,_=>rfl
 |2,_=>rfl|3,_=>rfl
 |4,_=>rfl|5,_=>rfl
 |6,_=>rfl|7,_=>rfl
 |8,_=>rfl|9,_=>rfl
 |10,_=>rfl|11,_=>rfl
 |12,_=>rfl|13,_=>rfl
 |14,_=>rfl|_+15,h=>absurd h (Nat.not_lt.2 (Nat.le_add_left _ _))
abbrev yD(lB:Z (Nat×Z (bZ U))):Prop:=∀E:cd,oN E->uX PP E TT BB lB
def nl:yD []:=λ_ _=>.nil
def cn{f:Nat}{c:bZ U}{lB:Z (Nat×Z (bZ U))}(h:Holds f c)(b:yD lB):yD ((f,[c])::lB):=λE a=>.cons (h E a) (b E a)
section
variable{f:Nat}{ps:Z Ty}{rs:Z RK}{ea:V (Nat×Ty)}{lB:Z (Nat×Z (bZ U))}
def gP(N:Nat)(fn:Func)(hint:e9)(c:yD lB)(esc:Z (Nat×Nat):=[]){a:HL U.C ps->V (jm U ea (HL U.C (rs.map RK.ty)))}(d:PP.funcs[f]?=O fn:=by kernel_rfl)(e:si fn ps.length=W:=by kernel_rfl)(g:nh BB rs ea=W:=by kernel_rfl)
  (i:∀x h,Fo (BB.lA N lB) ps rs ea esc fn.results.toList (fn.body.getD .skip) hint x h=a x:=by intros;kernel_rfl):Holds f ⟨ps,rs,ea,.pure a⟩:=
 λE b=>aby SS b.ro (default:Hp) fn ⟨ps,rs,ea,.pure a⟩ N esc hint (c E b) a d e g i
def gS(N:Nat)(fn:Func)(hint:e9)(c:yD lB)(esc:Z (Nat×Nat):=[]){a:HL U.C ps->U.C 0->V (jm U ea (HL U.C (rs.map RK.ty))×U.C 0)}(d:PP.funcs[f]?=O fn:=by kernel_rfl)(e:si fn ps.length=W:=by kernel_rfl)(g:nh BB rs ea=W:=by kernel_rfl)
  (i:∀x h,Jz (BB.lA N lB) ps rs ea esc fn.results.toList (fn.body.getD .skip) hint x h=a x h:=by intros;kernel_rfl):Holds f ⟨ps,rs,ea,.st a⟩:=
 λE b=>mJ SS b.ro fn ⟨ps,rs,ea,.st a⟩ N esc hint (c E b) a d e g i
def gM(N:Nat)(fn:Func)(hint:e9)(c:yD lB)(esc:Z (Nat×Nat):=[]){a:HL U.C ps->U.C 0->V (jm U ea (HL U.C (rs.map RK.ty))×U.C 0)}(d:PP.funcs[f]?=O fn:=by kernel_rfl)(e:si fn ps.length=W:=by kernel_rfl)(g:nh BB rs ea=W:=by kernel_rfl)
  (i:∀x h,HY (BB.lA N lB) ps rs ea esc fn.results.toList (fn.body.getD .skip) hint x h=a x h:=by intros;kernel_rfl):Holds f ⟨ps,rs,ea,.st a⟩:=
 λE b=>abz SS b.ro fn ⟨ps,rs,ea,.st a⟩ N esc hint (c E b) a d e g i
end
abbrev aju:Type:=bP->Hp->V ((Int×aa)×Hp)
abbrev ajt:Type:=(V Nat)×Int×aju->Hp->V ((Except cV dw)×Hp)
end Go.Proofs.Mo
namespace Go.Proofs.Mo
open Go Go.Ev Go.X
open Go.IntKind renaming i64->Wk
section
variable(N:Nat)
def Wl:(Z Nd)×Int×((Nd×Int)->V Int)->V (Int×aa):=λ(c,e,f)=>aG (λ((d,_):Int×ab)=>bif d<c.length then(ax c d).bind λh=>(f (h,e)).bind λi=>O (d,i==0)else O (d,F)) λj=>aQ (λg(((a,b),_):(Int×Int)×ab)=>bif a<b then(dv (decide (0<=1))).bind λ_=>(ax c (Wk.wrap ((IntKind.u64.wrap (Wk.wrap (a+b))).fdiv (2^(min 1 IntKind.u64.bits))))).bind λk=>(f (k,e)).bind λl=>bif l<0 then g ((Wk.wrap ((Wk.wrap ((IntKind.u64.wrap (Wk.wrap (a+b))).fdiv (2^(min 1 IntKind.u64.bits))))+1),b),())else g ((a,Wk.wrap ((IntKind.u64.wrap (Wk.wrap (a+b))).fdiv (2^(min 1 IntKind.u64.bits)))),())else j (a,())) N ((0,(c.length:Int)),())
abbrev aev:bZ U:=⟨[kz,.I,(.fn (.iz cK .I) .I)],[.v .I,.v .bool],Y,.pure (Wl N)⟩
def aew:Holds 115 (aev N):=gP N f115 (.q (.q (.q (.seq (O ⟨F,[0,1,2,8],[(9,.val .I)],[],[]⟩) (.block (.w [0,1,2,8] [(9,.val .I),(10,.val .I)] .leaf)) .leaf)))) nl
def Wm(N:Nat):Nd×Int->V Int:=λ(a,b)=>O (Wk.wrap (a.iD-b))
abbrev aex:bZ U:=⟨[cK,.I],[.v .I],Y,.pure (Wm N)⟩
def aey:Holds 116 (aex N):=gP N f116 .leaf nl
def Vw:gB×Int->V Int:=λ(b,c)=>(Wl N (b.aj,c,λ(d,e)=>Wm N (d,e))).bind λa=>bif !a.2 then O (-1)else O a.1
abbrev K44:bZ U:=⟨[cb,.I],[.v .I],Y,.pure (Vw N)⟩
def G44:Holds 44 (K44 N):=gP N f44 .leaf (cn (aew N) (cn (aey N) nl))
def Wn:Int×gB×(V Nat)×(Int->Hp->V (ab×Hp))->Hp->V (ab×Hp):=λ(l,g,a2,m) h=>
 (Vw N (g,l)).bind λn=>
 (ax g.aj n).bind λi=>
 aQ (λo((d,a):Int×Hp)=>
  bif d<i.aD.length then
   (ax i.aD d).bind λb=>
   a2.bind λp=>
   (a.EG[p]?).bind λj=>
   (gH a.Dn j).bind λc=>
   (dv (cF 8 (c.length+[b].length) 140737488355328)).bind λ_=>
   cw {a with Dn:=iK a.Dn j} λe=>
   a2.bind λk=>
   (dv (!(c++[b]).isEmpty)).bind λ_=>
   cw {e with Dn:=e.Dn++[O (c++[b])]} λf=>
   (f.EG[k]?).bind λs=>
   cw {f with EG:=f.EG.set k (O (e.Dn.length,(c++[b]).length))} λq=>
   (m b q).bind λr=>
   o (Wk.wrap (d+1),r.2)
  else O ((),a)) N (0,h)
abbrev aez:bZ U:=⟨[.I,(.cell cb),(.ptr 13),(.iC .I .unit)],[],Y,.st (Wn N)⟩
def aeA:Holds 242 (aez N):=gS N f242 (.B ⟨W,[2,3,14,15],[(16,.val .I)],[],[]⟩ .leaf) (cn (G44 N) nl)
end
end Go.Proofs.Mo
namespace Go.Proofs.Mo
open Go Go.Ev Go.X
def Dp(N:Nat)(m:gB)(p:V Nat):Nat->Int->Hp->V (ab×Hp)
 |0=>λ_ _=>Y|n+1=>λi h=>Wn N (i,m,p,Dp N m p n) h
def TB(N:Nat):gB×Int->Hp->V (Z Int×Hp):=λ(a,b) h=>
 cw {h with EG:=h.EG++[Y]} λc=>
 (Dp N a (O h.EG.length) N b c).bind λy=>
 (O h.EG.length).bind λi=>
 (y.2.EG[i]?).bind λe=>
 (gH y.2.Dn e).bind λx=>
 cw {y.2 with Dn:=iK y.2.Dn e} λh=>
 O (x,h)
abbrev MY:Ty:=Tw
abbrev Wo:Ty:=.ptr TA
noncomputable def OZ (N:Nat) (s:S U.C):V (Int->Hp->V (ab×Hp)):=match s.bG 2,s.bG 5 with
 |.dF a l 0,.val t p=>match er t Wo p,er a MY l with
  |some p,O l=>O (Dp N l p N)|_,_=>Y
 |_,_=>Y
noncomputable def AO:Go.Code:=f205.body.getD .skip
noncomputable abbrev TC (N:Nat):gy U:=XB N []
def abL(N:Nat)(x:HL U.C [MY,.int .i64])(h:U.C 0):JY [MY,.int .i64] [.v ec] Y (TC N) f205.results.toList (Kr (TC N) [(2,998),(5,TA)] 2 AO 6 7 aI .unit (OZ N) .leaf) x h=TB N x h:=ap
def Ky{E:cd}(b:oN E)(N:Nat)(m:gB)(p:V Nat)(B:Nat):∀n,j7 (U:=U) PP E TT (.iC aI .unit) (Dp N m p n) (ll B 242 [enc TT (.cell MY) m,enc TT Wo p] (n+1))
 |0=>⟨242,_,rfl,λx h y c a=>by cases a⟩
 |n+1=>⟨242,_,rfl,λx h y c a f d A Vloc e=>by obtain⟨_,rfl⟩:=d;exact(aeA N E b).tr (x,m,p,Dp N m p n) h _ y c A Vloc ⟨_,_,rfl,⟨rfl,rfl⟩,_,_,rfl,⟨rfl,rfl⟩,_,_,rfl,⟨rfl,rfl⟩,_,_,rfl,Ky b N m p B n,rfl⟩ e a⟩
theorem TD{E:cd}(m:oN E){N n:Nat}(w:7<n){X:gy U}{f:S U.C}{q1:St}{φ:Int->Hp->V (ab×Hp)}(g:aU PP E TT X f q1)(h:OZ N f=O φ):
  ∃b Mloc,b.length=[2,5].length/\(∀(j t:Nat),[2,5][j]?=O t->t<n/\t≠6/\∃av,b[j]?=O av/\q1.r t=.val av)/\∀B,j7 (U:=U) PP E TT (.iC aI .unit) φ (ll B 242 b Mloc):=by
 unfold OZ at h;split at h
 .rename_i x l t p o q;split at h
  .rename_i y z r s;obtain⟨e,rfl⟩:=bM r;subst e;obtain⟨e,rfl⟩:=bM s;subst e;simp only[aN]at h;subst h;have c:=g.ct 5;have d:=g.ct 2;rw[q]at c;rw[o]at d;generalize A:q1.r 5=u at c;generalize v:q1.r 2=C at d;cases c with
   |val _ _ _ av k hv=>
    cases d with
    |dF _ _ _ D=>
     obtain⟨_,rfl⟩:=hv;have G:u=.val (enc TT Wo p):=by
      change V Nat at p;cases p with
      |none=>exact dk k|some i=>exact nU k
     refine⟨[enc TT (.cell MY) l,enc TT Wo p],N+1,rfl,λj t a=>?_,λB=>Ky m N l p B N⟩;match j,a with
     |0,a=>cases a;exact ⟨M,b9,_,rfl,by rw[v];rfl⟩
     |1,a=>grind|j+2,a=>grind
  grind
 grind
noncomputable def TE (i j:Nat):aC:=match IP (eA i AO)with|.region _ ops _=>ops.getD j default|_=>default
theorem abM(N:Nat)(E:cd)(a:oN E):nu (U:=U) PP E TT 205 [MY,.int .i64] [.v ec] Y (.st (TB N)):=by have b:∀E:cd,(∀i,E.ro i=Y)->bJ PP E TT (TC N):=λE a=>sh SS.zM SS.ak a .nil;refine CV SS.L (X:=TC N) (ex:=Kr (TC N) [(2,998),(5,TA)] 2 AO 6 7 aI .unit (OZ N) .leaf) (fn:=f205) (c:=AO) (b E a.ro) (by simp_all) ap ap b9 ap (λA d w0 I0 sB r kx Zloc g j s k q Q l h m n=>?_) (abL N);obtain⟨w,z,o,p,t⟩:=uY (P:=PP) (e:=344) ap;exact Ks SS.L SS.mo g (λ_=>rfl) j (f:=242) (i1:=2) (i2:=3) (e:=344) (o1:=TE 2 0) (o2:=TE 3 0) (o3:=TE 3 1) (ts:=[2,5]) ap o p t ap ap ap ap ap ap ap ap ap ap b9 b9 b9 (λx q1 φ u v=>TD (oN.bX a A d) b9 u v) ap s k q Q l h m n
abbrev aeB(N:Nat):bZ U:=⟨[MY,.int .i64],[.v ec],Y,.st (TB N)⟩
def aeC(N:Nat):Holds 205 (aeB N):=λE a=>gI ap (abM N E a)
end Go.Proofs.Mo
namespace Go.Proofs.Mo
open Go Go.Ev Go.X
open Go.IntKind renaming i64->Wk
def Qs(N:Nat):V Nat->Hp->V (ab×Hp):=λg h=>
 g.bind λB0=>
 (h.fP[B0]?).bind λC0=>
 (dX h.jU C0.pH).bind λi=>
 (dv (decide (0<=(i.length:Int))&&cF 16 ((i.length:Int).toNat) 281474976710656)).bind λ_=>
 g.bind λt=>
 bif (List.replicate (i.length:Int).toNat (dP.mk 0 0:dP)).isEmpty then
  (h.fP[t]?).bind λl=>
  cw {h with fP:=h.fP.set t (AM.mk l.pH l.rm (w6.mk (iO.mk) (w4.mk (iP.mk) l.ready.done.v) (qU.mk (iO.mk) l.ready.m.mu)) (O (h.jn.length,0)) (Ib.mk (iP.mk) (nK.mk) l.ny.v))} λz=>
  g.bind λD0=>
  (z.fP[D0]?).bind λE0=>
  E0.pH.bind λG0=>
  (z.jU[G0]?).bind λG=>
  lf (λ(w0:bP×(V Nat))((_,b0):ab×Hp) H0=>
   aQ (λu((e,a):(V Nat)×Hp)=>
    bif !e.isNone then
     g.bind λI0=>
     (a.fP[I0]?).bind λm=>
     w0.2.bind λJ0=>
     (a.eY[J0]?).bind λc=>
     e.bind λs2=>
     (a.eY[s2]?).bind λj=>
     (dv (decide (64≠0))).bind λ_=>
     m.bits.bind λq=>
     (dv (decide (0<=c.number)&&decide (c.number<(q.2:Int)))).bind λ_=>
     bif dp (Wk.wrap (j.number.tdiv 64)) 0 then
      (e8 a.jn q.1).bind λK0=>
      (K0[c.number.toNat]?).bind λH=>
      e.bind λL0=>
      (a.eY[L0]?).bind λv=>
      (dv (decide (64≠0))).bind λ_=>
      (dv (decide (0<=v.number.tmod 64))).bind λ_=>
      m.bits.bind λn=>
      (dv (decide (0<=c.number)&&decide (c.number<(n.2:Int)))).bind λ_=>
      bif dp (Wk.wrap (j.number.tdiv 64)) 0 then
       (e8 a.jn n.1).bind λI=>
       (I[c.number.toNat]?).bind λN0=>
       cw {a with jn:=a.jn.set n.1 (O (I.set c.number.toNat (dP.mk (IntKind.u64.wrap ((BitVec.ofInt IntKind.u64.bits H.e0|||BitVec.ofInt IntKind.u64.bits (IntKind.u64.wrap (1*2^(min ((v.number.tmod 64).toNat) IntKind.u64.bits)))).toNat)) N0.e1)))} λJ=>
       e.bind λP0=>
       (J.eY[P0]?).bind λQ0=>
       u (Q0.up,J)
      else
      bif dp (Wk.wrap (j.number.tdiv 64)) 1 then
       (e8 a.jn n.1).bind λK=>
       (K[c.number.toNat]?).bind λR0=>
       cw {a with jn:=a.jn.set n.1 (O (K.set c.number.toNat (dP.mk R0.e0 (IntKind.u64.wrap ((BitVec.ofInt IntKind.u64.bits H.e0|||BitVec.ofInt IntKind.u64.bits (IntKind.u64.wrap (1*2^(min ((v.number.tmod 64).toNat) IntKind.u64.bits)))).toNat)))))} λL=>
       e.bind λc3=>
       (L.eY[c3]?).bind λS0=>
       u (S0.up,L)
      else
      Y
     else
     bif dp (Wk.wrap (j.number.tdiv 64)) 1 then
      (e8 a.jn q.1).bind λT0=>
      (T0[c.number.toNat]?).bind λP=>
      e.bind λU0=>
      (a.eY[U0]?).bind λw=>
      (dv (decide (64≠0))).bind λ_=>
      (dv (decide (0<=w.number.tmod 64))).bind λ_=>
      m.bits.bind λo=>
      (dv (decide (0<=c.number)&&decide (c.number<(o.2:Int)))).bind λ_=>
      bif dp (Wk.wrap (j.number.tdiv 64)) 0 then
       (e8 a.jn o.1).bind λQ=>
       (Q[c.number.toNat]?).bind λX0=>
       cw {a with jn:=a.jn.set o.1 (O (Q.set c.number.toNat (dP.mk (IntKind.u64.wrap ((BitVec.ofInt IntKind.u64.bits P.e1|||BitVec.ofInt IntKind.u64.bits (IntKind.u64.wrap (1*2^(min ((w.number.tmod 64).toNat) IntKind.u64.bits)))).toNat)) X0.e1)))} λR=>
       e.bind λa1=>
       (R.eY[a1]?).bind λe1=>
       u (e1.up,R)
      else
      bif dp (Wk.wrap (j.number.tdiv 64)) 1 then
       (e8 a.jn o.1).bind λS=>
       (S[c.number.toNat]?).bind λf1=>
       cw {a with jn:=a.jn.set o.1 (O (S.set c.number.toNat (dP.mk f1.e0 (IntKind.u64.wrap ((BitVec.ofInt IntKind.u64.bits P.e1|||BitVec.ofInt IntKind.u64.bits (IntKind.u64.wrap (1*2^(min ((w.number.tmod 64).toNat) IntKind.u64.bits)))).toNat)))))} λT=>
       e.bind λh1=>
       (T.eY[h1]?).bind λi1=>
       u (i1.up,T)
      else
      Y
     else
     Y
    else H0 ((),a)) N (w0.2,b0)) (λ((_,b0):ab×Hp)=>
   O ((),b0)) G.length G ((),z)
 else
 (dv (!(List.replicate (i.length:Int).toNat (dP.mk 0 0:dP)).isEmpty)).bind λ_=>
 cw {h with jn:=h.jn++[O (List.replicate (i.length:Int).toNat (dP.mk 0 0:dP))]} λx=>
 (x.fP[t]?).bind λp=>
 cw {x with fP:=x.fP.set t (AM.mk p.pH p.rm (w6.mk (iO.mk) (w4.mk (iP.mk) p.ready.done.v) (qU.mk (iO.mk) p.ready.m.mu)) (O (h.jn.length,(List.replicate (i.length:Int).toNat (dP.mk 0 0:dP)).length)) (Ib.mk (iP.mk) (nK.mk) p.ny.v))} λm0=>
 g.bind λl1=>
 (m0.fP[l1]?).bind λo1=>
 o1.pH.bind λu1=>
 (m0.jU[u1]?).bind λU=>
 lf (λ(q1:bP×(V Nat))((_,A):ab×Hp) A1=>
  aQ (λy((f,b):(V Nat)×Hp)=>
   bif !f.isNone then
    g.bind λB1=>
    (b.fP[B1]?).bind λB=>
    q1.2.bind λC1=>
    (b.eY[C1]?).bind λd=>
    f.bind λD1=>
    (b.eY[D1]?).bind λk=>
    (dv (decide (64≠0))).bind λ_=>
    B.bits.bind λC=>
    (dv (decide (0<=d.number)&&decide (d.number<(C.2:Int)))).bind λ_=>
    bif dp (Wk.wrap (k.number.tdiv 64)) 0 then
     (e8 b.jn C.1).bind λE1=>
     (E1[d.number.toNat]?).bind λX=>
     f.bind λG1=>
     (b.eY[G1]?).bind λD=>
     (dv (decide (64≠0))).bind λ_=>
     (dv (decide (0<=D.number.tmod 64))).bind λ_=>
     B.bits.bind λr=>
     (dv (decide (0<=d.number)&&decide (d.number<(r.2:Int)))).bind λ_=>
     bif dp (Wk.wrap (k.number.tdiv 64)) 0 then
      (e8 b.jn r.1).bind λa0=>
      (a0[d.number.toNat]?).bind λH1=>
      cw {b with jn:=b.jn.set r.1 (O (a0.set d.number.toNat (dP.mk (IntKind.u64.wrap ((BitVec.ofInt IntKind.u64.bits X.e0|||BitVec.ofInt IntKind.u64.bits (IntKind.u64.wrap (1*2^(min ((D.number.tmod 64).toNat) IntKind.u64.bits)))).toNat)) H1.e1)))} λe0=>
      f.bind λI1=>
      (e0.eY[I1]?).bind λJ1=>
      y (J1.up,e0)
     else
     bif dp (Wk.wrap (k.number.tdiv 64)) 1 then
      (e8 b.jn r.1).bind λf0=>
      (f0[d.number.toNat]?).bind λK1=>
      cw {b with jn:=b.jn.set r.1 (O (f0.set d.number.toNat (dP.mk K1.e0 (IntKind.u64.wrap ((BitVec.ofInt IntKind.u64.bits X.e0|||BitVec.ofInt IntKind.u64.bits (IntKind.u64.wrap (1*2^(min ((D.number.tmod 64).toNat) IntKind.u64.bits)))).toNat)))))} λh0=>
      f.bind λL1=>
      (h0.eY[L1]?).bind λN1=>
      y (N1.up,h0)
     else
     Y
    else
    bif dp (Wk.wrap (k.number.tdiv 64)) 1 then
     (e8 b.jn C.1).bind λP1=>
     (P1[d.number.toNat]?).bind λi0=>
     f.bind λQ1=>
     (b.eY[Q1]?).bind λE=>
     (dv (decide (64≠0))).bind λ_=>
     (dv (decide (0<=E.number.tmod 64))).bind λ_=>
     B.bits.bind λs=>
     (dv (decide (0<=d.number)&&decide (d.number<(s.2:Int)))).bind λ_=>
     bif dp (Wk.wrap (k.number.tdiv 64)) 0 then
      (e8 b.jn s.1).bind λl0=>
      (l0[d.number.toNat]?).bind λR1=>
      cw {b with jn:=b.jn.set s.1 (O (l0.set d.number.toNat (dP.mk (IntKind.u64.wrap ((BitVec.ofInt IntKind.u64.bits i0.e1|||BitVec.ofInt IntKind.u64.bits (IntKind.u64.wrap (1*2^(min ((E.number.tmod 64).toNat) IntKind.u64.bits)))).toNat)) R1.e1)))} λo0=>
      f.bind λS1=>
      (o0.eY[S1]?).bind λT1=>
      y (T1.up,o0)
     else
     bif dp (Wk.wrap (k.number.tdiv 64)) 1 then
      (e8 b.jn s.1).bind λu0=>
      (u0[d.number.toNat]?).bind λU1=>
      cw {b with jn:=b.jn.set s.1 (O (u0.set d.number.toNat (dP.mk U1.e0 (IntKind.u64.wrap ((BitVec.ofInt IntKind.u64.bits i0.e1|||BitVec.ofInt IntKind.u64.bits (IntKind.u64.wrap (1*2^(min ((E.number.tmod 64).toNat) IntKind.u64.bits)))).toNat)))))} λA0=>
      f.bind λX1=>
      (A0.eY[X1]?).bind λa2=>
      y (a2.up,A0)
     else
     Y
    else
    Y
   else A1 ((),b)) N (q1.2,A)) (λ((_,A):ab×Hp)=>
  O ((),A)) U.length U ((),m0)
abbrev aeI(N:Nat):bZ U:=⟨[dH],[],Y,.st (Qs N)⟩
def aeJ(N:Nat):Holds 204 (aeI N):=gM N f204 (.q (.Ho ⟨W,[0,17],[],[],[]⟩ (.B ⟨W,[0,2,17],[(3,.val mn)],[],[]⟩ .leaf))) nl
section
variable(N:Nat)
def Ww:(Z Int)×(Int->Hp->V (aa×Hp))->Hp->V (Int×Hp):=λ(c,e) h=>aG (λ((_,f):ab×Hp)=>O ((-1),f)) λg=>aQ (λi((a,d):Int×Hp)=>bif a<c.length then(ax c a).bind λj=>(e j d).bind λb=>bif b.1 then O (a,b.2)else i (Wk.wrap (a+1),b.2)else g ((),d)) N (0,h)
abbrev aeO:bZ U:=⟨[ec,(.lP .I .bool)],[.v .I],Y,.st (Ww N)⟩
def aeP:Holds 270 (aeO N):=gS N f270 (.q (.seq (O ⟨W,[],[],[],[]⟩) (.B ⟨W,[0,1,7],[(8,.val .I)],[],[]⟩ .leaf) .leaf)) nl
def Wx:(Z Int)×(Int->Hp->V (aa×Hp))->Hp->V (aa×Hp):=λ(b,c) h=>(Ww N (b,c) h).bind λa=>O ((decide (0<=a.1)),a.2)
abbrev aeQ:bZ U:=⟨[ec,(.lP .I .bool)],[.v .bool],Y,.st (Wx N)⟩
def aeR:Holds 250 (aeQ N):=gS N f250 .leaf (cn (aeP N) nl)
def Wy(N:Nat):Int×(Int->Hp->V (aa×Hp))->Hp->V (aa×Hp):=λ(b,c) h=>(c b h).bind λa=>O ((!a.1),a.2)
abbrev aeS:bZ U:=⟨[.I,(.iC .I .bool)],[.v .bool],Y,.st (Wy N)⟩
def aeT:Holds 251 (aeS N):=gS N f251 .leaf nl
def Wz:Int×(V Nat)×(Z l7)×(Int->Hp->V (aa×Hp))->Hp->V (aa×Hp):=λ(a,b,c,f) h=>
 b.bind λg=>
 (h.nX[g]?).bind λi=>
 bif !(a==i)then O (F,h)
 else
  bif (c.length:Int)<=a then O (F,h)
  else
   b.bind λj=>
   (h.nX[j]?).bind λk=>
   b.bind λd=>
   (h.nX[d]?).bind λp=>
   cw {h with nX:=h.nX.set d (Wk.wrap (k+1))} λl=>
   (ax c a).bind λm=>
   (Wx N (m.args,λn o=>Wy N (n,f) o) l).bind λe=>
   O ((!e.1),e.2)
abbrev aeU:bZ U:=⟨[.I,(.ptr 9),(.cell eF),(.iC .I .bool)],[.v .bool],Y,.st (Wz N)⟩
def aeV:Holds 249 (aeU N):=gS N f249 .leaf (cn (aeR N) (cn (aeT N) nl))
end
end Go.Proofs.Mo
namespace Go.Proofs.Mo
open Go Go.Ev Go.X
section
def KB(N:Nat)(p:V Nat)(l:Z l7):Nat->Int->Hp->V (aa×Hp)
 |0=>λ_ _=>Y|n+1=>λi h=>Wz N (i,p,l,KB N p l n) h
variable(N:Nat)
def KC:Z l7->Hp->V (aa×Hp):=λc h=>
 cw {h with nX:=h.nX++[0]} λb=>
 (O h.nX.length).bind λi2=>
 (b.nX[i2]?).bind λg=>
 cw {b with nX:=b.nX.set i2 0} λd=>
 (KB N (O h.nX.length) c N 0 d).bind λa=>
 bif a.1 then
  (O h.nX.length).bind λe=>
  (a.2.nX[e]?).bind λf=>
  O (f==(c.length:Int),a.2)
 else O (F,a.2)
abbrev Dt:Ty:=.bk AN
abbrev WA:Ty:=.ptr Kx
noncomputable def O0 (N:Nat) (s:S U.C):V (Int->Hp->V (aa×Hp)):=match s.bG 3,s.bG 1 with
 |.val t p,.dF a l 0=>match er t WA p,er a Dt l with
  |some p,O l=>O (KB N p l N)|_,_=>Y
 |_,_=>Y
noncomputable def AP:bT:=f220.body.getD .skip
noncomputable abbrev TL (N:Nat):gy U:=XB N []
def abO(N:Nat)(x:HL U.C [Dt])(h:U.C 0):JY [Dt] [.v .bool] Y (TL N) f220.results.toList (Kr (TL N) [(1,998),(3,Kx)] 2 AP 4 5 aI .bool (O0 N) .leaf) x h=KC N x h:=ap
def O1{E:cd}(b:oN E)(N:Nat)(p:V Nat)(l:Z l7)(B:Nat):∀n,j7 (U:=U) PP E TT (.iC aI .bool) (KB N p l n) (ll B 249 [enc TT WA p,enc TT (.cell Dt) l] (n+1))
 |0=>⟨249,_,rfl,λx h y c a=>by cases a⟩
 |n+1=>⟨249,_,rfl,λx h y c a f d A Vloc e=>by obtain⟨_,rfl⟩:=d;exact(aeV N E b).tr (x,p,l,KB N p l n) h _ y c A Vloc ⟨_,_,rfl,⟨rfl,rfl⟩,_,_,rfl,⟨rfl,rfl⟩,_,_,rfl,⟨rfl,rfl⟩,_,_,rfl,O1 b N p l B n,rfl⟩ e a⟩
def w9{a b:Ty}{x:bL CC a}{y:bL CC b}(h:er a b x=O y):∃e:a=b,y=e▸x:=bM h
theorem TM{E:cd}(m:oN E){N n:Nat}(w:4<n){X:gy U}{f:S U.C}{q1:St}{φ:Int->Hp->V (aa×Hp)}(g:aU PP E TT X f q1)(h:O0 N f=O φ):
  ∃b Mloc,b.length=[3,1].length/\(∀(j t:Nat),[3,1][j]?=O t->t<n/\t≠4/\∃av,b[j]?=O av/\q1.r t=.val av)/\∀B,j7 (U:=U) PP E TT (.iC aI .bool) φ (ll B 249 b Mloc):=by
 unfold O0 at h;split at h
 .rename_i t p x l o q;split at h
  .rename_i y z r s;obtain⟨e,rfl⟩:=w9 r;subst e;obtain⟨e,rfl⟩:=w9 s;subst e;simp only[aN]at h;subst h;have c:=g.ct 3;have d:=g.ct 1;rw[o]at c;rw[q]at d;generalize A:q1.r 3=u at c;generalize v:q1.r 1=C at d;cases c with
   |val _ _ _ av k hv=>
    cases d with
    |dF _ _ _ D=>
     obtain⟨_,rfl⟩:=hv;have G:u=.val (enc TT WA p):=by
      change V Nat at p;cases p with
      |none=>exact dk k|some i=>exact nU k
     refine⟨[enc TT WA p,enc TT (.cell Dt) l],N+1,rfl,λj t a=>?_,λB=>O1 m N p l B N⟩;match j,a with
     |0,a=>grind|1,a=>cases a;exact ⟨M,b9,_,rfl,by rw[v];rfl⟩
     |j+2,a=>grind
  grind
 grind
noncomputable def TN (i j:Nat):aC:=match IP (eA i AP)with|.region _ ops _=>ops.getD j default|_=>default
theorem abP(N:Nat)(E:cd)(a:oN E):nu (U:=U) PP E TT 220 [Dt] [.v .bool] Y (.st (KC N)):=by have b:∀E:cd,(∀i,E.ro i=Y)->bJ PP E TT (TL N):=λE a=>sh SS.zM SS.ak a .nil;refine CV SS.L (X:=TL N) (ex:=Kr (TL N) [(1,998),(3,Kx)] 2 AP 4 5 aI .bool (O0 N) .leaf) (fn:=f220) (c:=AP) (b E a.ro) (by simp_all) ap ap b9 ap (λA d w0 I0 sB r kx Zloc g j s k q Q l h m n=>?_) (abO N);obtain⟨w,z,o,p,t⟩:=uY (P:=PP) (e:=209) ap;exact Ks SS.L SS.mo g (λ_=>rfl) j (f:=249) (i1:=2) (i2:=3) (e:=209) (o1:=TN 2 0) (o2:=TN 3 0) (o3:=TN 3 1) (ts:=[3,1]) ap o p t ap ap ap ap ap ap ap ap ap ap b9 b9 b9 (λx q1 φ u v=>TM (oN.bX a A d) b9 u v) ap s k q Q l h m n
def WB:Z l7->V aa:=λl=>(KC N l Ig).map Prod.fst
abbrev aeW:bZ U:=⟨[Dt],[.v .bool],Y,.pure (WB N)⟩
def aeX:Holds 220 (aeW N):=λE d=>gI ap (Dl (U:=U) (abP N E d) (h0:=Ig) Ih (λx f e a b=>by
 obtain⟨a',r,rfl,⟨_,rfl⟩,rfl⟩:=e;simp only[gD]at b;subst b;show sk (List.map (enc TT AN) x)=W;refine pk λv hv=>?_;obtain⟨y,_,rfl⟩:=gC.1 hv;show sk (enc TT AN y).cells=W;have:(enc TT AN y).cells=[.fl (.int .i64 y.kind),.fl (bs y.name),.fl (.int .i64 y.num),.sl (y.args.map (enc TT aI))]:=rfl;rw[this];simp only[sk,AV.zN,lD,Bool.and_true];exact pk λv hv=>by obtain ⟨n,_,rfl⟩:=gC.1 hv;rfl) λy r c=>by
 simp only[db,gD]at c;subst c;rfl)
end
end Go.Proofs.Mo
namespace Go.Proofs.Mo
open Go Go.Ev Go.X
open Go.IntKind renaming i64->Wk
section
variable(N:Nat)
def rA(N:Nat):aa×h9->V (Except eh ab):=λ(a,b)=>bif !a then O (Except.error (eh.mk b))else O (Except.ok ())
abbrev abQ:bZ U:=⟨[.bool,fq],[],(O (243,hH)),.pure (rA N)⟩
def M3:Holds 150 (abQ N):=gP N f150 .leaf nl
def M4(N:Nat):Int->V aa:=λa=>bif 65<=a then bif a<=90 then O W else bif 97<=a then O (decide (a<=122))else O F else bif 97<=a then O (decide (a<=122))else O F
abbrev aeY:bZ U:=⟨[so],[.v .bool],Y,.pure (M4 N)⟩
def aeZ:Holds 211 (aeY N):=gP N f211 .leaf nl
def l8:bP->V aa:=λb=>bif (b.length:Int)==0 then O F else bif 32<(b.length:Int)then O F else(ax b 0).bind λe=>(M4 N (e.toNat:Int)).bind λf=>bif !f then O F else aG (λ(_:ab×ab)=>O W) λg=>aQ (λd((a,_):Int×ab)=>bif a<b.length then(ax b a).bind λc=>(M4 N (c.toNat:Int)).bind λi=>bif !i then bif (c.toNat:Int)<48 then bif !((c.toNat:Int)==95)then O F else d (Wk.wrap (a+1),())else bif 57<(c.toNat:Int)then bif !((c.toNat:Int)==95)then O F else d (Wk.wrap (a+1),())else d (Wk.wrap (a+1),())else d (Wk.wrap (a+1),())else g ((),())) N (0,())
abbrev abR:bZ U:=⟨[.str],[.v .bool],Y,.pure (l8 N)⟩
def Ik:Holds 151 (abR N):=gP N f151 (.q (.q (.J (.W [0,20] [(21,.val .I)]) .leaf))) (cn (aeZ N) nl)
def ZZ:Int×Int×(Z bP)×((Int×bP)->V (Int×Int))->V (Except eh ab):=λ(c,e,d,f)=>aQ (λg((a,_):Int×ab)=>bif a<d.length then(ax d a).bind λi=>(rA N (decide (a<e),h9.mk c a 0 4)).bind λj=>eG j (λk=>O (Except.error k)) λn=>(f (a,i)).bind λb=>(rA N (b.2==0,h9.mk c a b.1 b.2)).bind λl=>eG l (λm=>O (Except.error m)) λo=>g (Wk.wrap (a+1),())else O (Except.ok ())) N (0,())
abbrev abS:bZ U:=⟨[.I,.I,lZ,(.fn (.iz .I .str) l6)],[],(O (243,hH)),.pure (ZZ N)⟩
def ae0:Holds 152 (abS N):=gP N f152 (.W [0,1,3,12,13] [(14,.val .I)]) (cn (M3 N) nl)
def WC:(Z bP)×bP->V Int:=λ(b,c)=>aG (λ(_:ab×ab)=>O (-1)) λd=>aQ (λe((a,_):Int×ab)=>bif a<b.length then(ax b a).bind λf=>bif c==f then O a else e (Wk.wrap (a+1),())else d ((),())) N (0,())
abbrev ae1:bZ U:=⟨[lZ,.str],[.v .I],Y,.pure (WC N)⟩
def ae2:Holds 177 (ae1 N):=gP N f177 (.q (.J (.W [0,1,7] [(8,.val .I)]) .leaf)) nl
def Z0:(Z bP)×bP->V aa:=λ(a,b)=>(WC N (a,b)).bind λc=>O (decide (0<=c))
abbrev K75:bZ U:=⟨[lZ,.str],[.v .bool],Y,.pure (Z0 N)⟩
def G75:Holds 75 (K75 N):=gP N f75 .leaf (cn (ae2 N) nl)
def Qu(N:Nat):aa->V Int:=λa=>bif a then O 40 else O 0
abbrev ae3:bZ U:=⟨[.bool],[.v .I],Y,.pure (Qu N)⟩
def abT:Holds 154 (ae3 N):=gP N f154 .leaf nl
def WD:Int×bP×dc->V (Int×Int):=λ(a,b,c)=>(l8 N b).bind λd=>bif !d then O (0,2)else bif b==c.name then(Qu N W).bind λe=>O (0,e)else(dv (decide (0<=a)&&decide (a.toNat<=c.tv.length))).bind λ_=>(Z0 N (c.tv.take a.toNat,b)).bind λf=>(Qu N f).bind λg=>O (0,g)
abbrev abU:bZ U:=⟨[.I,.str,fJ],[.v .I,.v .I],Y,.pure (WD N)⟩
def ae4:Holds 153 (abU N):=gP N f153 .leaf (cn (G75 N) (cn (Ik N) (cn (abT N) nl)))
def Z1:Int×Int×(Z dQ)×((Int×dQ)->V (Int×Int))->V (Except eh ab):=λ(c,e,d,f)=>aQ (λg((a,_):Int×ab)=>bif a<d.length then(ax d a).bind λi=>(rA N (decide (a<e),h9.mk c a 0 4)).bind λj=>eG j (λk=>O (Except.error k)) λn=>(f (a,i)).bind λb=>(rA N (b.2==0,h9.mk c a b.1 b.2)).bind λl=>eG l (λm=>O (Except.error m)) λo=>g (Wk.wrap (a+1),())else O (Except.ok ())) N (0,())
abbrev abV:bZ U:=⟨[.I,.I,ed,(.fn (.iz .I bQ) l6)],[],(O (243,hH)),.pure (Z1 N)⟩
def ae5:Holds 155 (abV N):=gP N f155 (.W [0,1,3,12,13] [(14,.val .I)]) (cn (M3 N) nl)
def Z2:(Z gR)×(gR->V aa)->V Int:=λ(b,c)=>aG (λ(_:ab×ab)=>O (-1)) λd=>aQ (λe((a,_):Int×ab)=>bif a<b.length then(ax b a).bind λf=>(c f).bind λg=>bif g then O a else e (Wk.wrap (a+1),())else d ((),())) N (0,())
abbrev ae6:bZ U:=⟨[gL,(.fn fm .bool)],[.v .I],Y,.pure (Z2 N)⟩
def ae7:Holds 223 (ae6 N):=gP N f223 (.q (.J (.W [0,1,7] [(8,.val .I)]) .leaf)) nl
def Qv:(Z gR)×(gR->V aa)->V aa:=λ(a,b)=>(Z2 N (a,b)).bind λc=>O (decide (0<=c))
abbrev ae8:bZ U:=⟨[gL,(.fn fm .bool)],[.v .bool],Y,.pure (Qv N)⟩
def abW:Holds 179 (ae8 N):=gP N f179 .leaf (cn (ae7 N) nl)
def Z3:(Z dQ)×(dQ->V aa)->V Int:=λ(b,c)=>aG (λ(_:ab×ab)=>O (-1)) λd=>aQ (λe((a,_):Int×ab)=>bif a<b.length then(ax b a).bind λf=>(c f).bind λg=>bif g then O a else e (Wk.wrap (a+1),())else d ((),())) N (0,())
abbrev ae9:bZ U:=⟨[ed,(.fn bQ .bool)],[.v .I],Y,.pure (Z3 N)⟩
def afa:Holds 246 (ae9 N):=gP N f246 (.q (.J (.W [0,1,7] [(8,.val .I)]) .leaf)) nl
def WE:(Z dQ)×(dQ->V aa)->V aa:=λ(a,b)=>(Z3 N (a,b)).bind λc=>O (decide (0<=c))
abbrev afb:bZ U:=⟨[ed,(.fn bQ .bool)],[.v .bool],Y,.pure (WE N)⟩
def afc:Holds 212 (afb N):=gP N f212 .leaf (cn (afa N) nl)
def Z4(N:Nat):dQ×dQ->V aa:=λ(a,b)=>O (a.name==b.name)
abbrev afd:bZ U:=⟨[bQ,(.cell bQ)],[.v .bool],Y,.pure (Z4 N)⟩
def afe:Holds 213 (afd N):=gP N f213 .leaf nl
def Z5:(Z fO)×(fO->V aa)->V Int:=λ(b,c)=>aG (λ(_:ab×ab)=>O (-1)) λd=>aQ (λe((a,_):Int×ab)=>bif a<b.length then(ax b a).bind λf=>(c f).bind λg=>bif g then O a else e (Wk.wrap (a+1),())else d ((),())) N (0,())
abbrev aff:bZ U:=⟨[gJ,(.fn fX .bool)],[.v .I],Y,.pure (Z5 N)⟩
def afg:Holds 247 (aff N):=gP N f247 (.q (.J (.W [0,1,7] [(8,.val .I)]) .leaf)) nl
def TO:(Z fO)×(fO->V aa)->V aa:=λ(a,b)=>(Z5 N (a,b)).bind λc=>O (decide (0<=c))
abbrev afh:bZ U:=⟨[gJ,(.fn fX .bool)],[.v .bool],Y,.pure (TO N)⟩
def afi:Holds 214 (afh N):=gP N f214 .leaf (cn (afg N) nl)
def WG(N:Nat):fO×fO->V aa:=λ(a,b)=>O (a.name==b.name)
abbrev afj:bZ U:=⟨[fX,(.cell fX)],[.v .bool],Y,.pure (WG N)⟩
def afk:Holds 215 (afj N):=gP N f215 .leaf nl
def Z6:(Z hZ)×(hZ->V aa)->V Int:=λ(b,c)=>aG (λ(_:ab×ab)=>O (-1)) λd=>aQ (λe((a,_):Int×ab)=>bif a<b.length then(ax b a).bind λf=>(c f).bind λg=>bif g then O a else e (Wk.wrap (a+1),())else d ((),())) N (0,())
abbrev afl:bZ U:=⟨[gK,(.fn fY .bool)],[.v .I],Y,.pure (Z6 N)⟩
def afm:Holds 248 (afl N):=gP N f248 (.q (.J (.W [0,1,7] [(8,.val .I)]) .leaf)) nl
def TP:(Z hZ)×(hZ->V aa)->V aa:=λ(a,b)=>(Z6 N (a,b)).bind λc=>O (decide (0<=c))
abbrev afn:bZ U:=⟨[gK,(.fn fY .bool)],[.v .bool],Y,.pure (TP N)⟩
def afo:Holds 216 (afn N):=gP N f216 .leaf (cn (afm N) nl)
def WH(N:Nat):hZ×hZ->V aa:=λ(a,b)=>O (a.role==b.role)
abbrev afp:bZ U:=⟨[fY,(.cell fY)],[.v .bool],Y,.pure (WH N)⟩
def afq:Holds 217 (afp N):=gP N f217 .leaf nl
def WI(N:Nat):gR×gR->V aa:=λ(a,b)=>O (a.role==b.role)
abbrev afr:bZ U:=⟨[fm,(.cell fm)],[.v .bool],Y,.pure (WI N)⟩
def afs:Holds 218 (afr N):=gP N f218 .leaf nl
def WJ:(Z dQ)×dQ->V (Int×Int):=λ(y,a)=>(l8 N a.name).bind λz=>bif !z then O (0,2)else(WE N (y,λb0=>Z4 N (b0,a))).bind λh=>bif h then O (0,40)else bif !(a.dI==[])then(l8 N a.dI).bind λq=>bif !q then O (0,2)else bif a.dI==a.name then O (0,43)else aG (λ((v,_):Int×ab)=>aG (λ((w,_):Int×ab)=>aG (λ((x,_):Int×ab)=>O (x,0)) λm0=>aQ (λA(((m,d),_):(Int×Int)×ab)=>bif d<a.bK.length then(ax a.bK d).bind λt=>bif d==32 then O (Wk.wrap (m+1),4)else(l8 N t.role).bind λB=>bif !B then O (Wk.wrap (m+1),2)else(l8 N t.au).bind λC=>bif !C then O (Wk.wrap (m+1),2)else(dv (decide (0<=d)&&decide (d.toNat<=a.bK.length))).bind λ_=>(Qv N (a.bK.take d.toNat,λD=>WI N (D,t))).bind λE=>bif E then O (Wk.wrap (m+1),40)else A ((Wk.wrap (m+1),Wk.wrap (d+1)),())else m0 (m,())) N ((w,0),())) λG=>aQ (λw0(((b,e),_):(Int×Int)×ab)=>bif e<a.aD.length then(ax a.aD e).bind λo=>bif e==32 then O (Wk.wrap (b+1),4)else(l8 N o.role).bind λH=>bif !H then O (Wk.wrap (b+1),2)else(l8 N o.au).bind λI=>bif !I then O (Wk.wrap (b+1),2)else(dv (decide (0<=e)&&decide (e.toNat<=a.aD.length))).bind λ_=>(TP N (a.aD.take e.toNat,λJ=>WH N (J,o))).bind λK=>bif K then O (Wk.wrap (b+1),40)else bif !((Wk.wrap ((BitVec.ofInt IntKind.i64.bits o.min&&&~~~BitVec.ofInt IntKind.i64.bits 1).toNat))==0)then O (Wk.wrap (b+1),44)else bif !((Wk.wrap ((BitVec.ofInt IntKind.i64.bits o.max&&&~~~BitVec.ofInt IntKind.i64.bits 1).toNat))==0)then O (Wk.wrap (b+1),44)else w0 ((Wk.wrap (b+1),Wk.wrap (e+1)),())else G (b,())) N ((v,0),())) λL=>aQ (λP(((f,g),_):(Int×Int)×ab)=>bif g<a.bd.length then(ax a.bd g).bind λr=>bif g==32 then O (Wk.wrap (f+1),4)else(l8 N r.name).bind λQ=>bif !Q then O (Wk.wrap (f+1),2)else(dv (decide (0<=g)&&decide (g.toNat<=a.bd.length))).bind λ_=>(TO N (a.bd.take g.toNat,λR=>WG N (R,r))).bind λS=>bif S then O (Wk.wrap (f+1),40)else bif r.type<1 then O (Wk.wrap (f+1),41)else bif 4<r.type then O (Wk.wrap (f+1),41)else P ((Wk.wrap (f+1),Wk.wrap (g+1)),())else L (f,())) N ((0,0),())else bif a.dI==a.name then O (0,43)else aG (λ((T,_):Int×ab)=>aG (λ((U,_):Int×ab)=>aG (λ((q1,_):Int×ab)=>O (q1,0)) λX=>aQ (λa0(((n,i),_):(Int×Int)×ab)=>bif i<a.bK.length then(ax a.bK i).bind λu=>bif i==32 then O (Wk.wrap (n+1),4)else(l8 N u.role).bind λe0=>bif !e0 then O (Wk.wrap (n+1),2)else(l8 N u.au).bind λf0=>bif !f0 then O (Wk.wrap (n+1),2)else(dv (decide (0<=i)&&decide (i.toNat<=a.bK.length))).bind λ_=>(Qv N (a.bK.take i.toNat,λh0=>WI N (h0,u))).bind λi0=>bif i0 then O (Wk.wrap (n+1),40)else a0 ((Wk.wrap (n+1),Wk.wrap (i+1)),())else X (n,())) N ((U,0),())) λl0=>aQ (λo0(((c,j),_):(Int×Int)×ab)=>bif j<a.aD.length then(ax a.aD j).bind λp=>bif j==32 then O (Wk.wrap (c+1),4)else(l8 N p.role).bind λu0=>bif !u0 then O (Wk.wrap (c+1),2)else(l8 N p.au).bind λA0=>bif !A0 then O (Wk.wrap (c+1),2)else(dv (decide (0<=j)&&decide (j.toNat<=a.aD.length))).bind λ_=>(TP N (a.aD.take j.toNat,λB0=>WH N (B0,p))).bind λC0=>bif C0 then O (Wk.wrap (c+1),40)else bif !((Wk.wrap ((BitVec.ofInt IntKind.i64.bits p.min&&&~~~BitVec.ofInt IntKind.i64.bits 1).toNat))==0)then O (Wk.wrap (c+1),44)else bif !((Wk.wrap ((BitVec.ofInt IntKind.i64.bits p.max&&&~~~BitVec.ofInt IntKind.i64.bits 1).toNat))==0)then O (Wk.wrap (c+1),44)else o0 ((Wk.wrap (c+1),Wk.wrap (j+1)),())else l0 (c,())) N ((T,0),())) λD0=>aQ (λE0(((k,l),_):(Int×Int)×ab)=>bif l<a.bd.length then(ax a.bd l).bind λs=>bif l==32 then O (Wk.wrap (k+1),4)else(l8 N s.name).bind λG0=>bif !G0 then O (Wk.wrap (k+1),2)else(dv (decide (0<=l)&&decide (l.toNat<=a.bd.length))).bind λ_=>(TO N (a.bd.take l.toNat,λH0=>WG N (H0,s))).bind λI0=>bif I0 then O (Wk.wrap (k+1),40)else bif s.type<1 then O (Wk.wrap (k+1),41)else bif 4<s.type then O (Wk.wrap (k+1),41)else E0 ((Wk.wrap (k+1),Wk.wrap (l+1)),())else D0 (k,())) N ((0,0),())
abbrev afu:bZ U:=⟨[ed,bQ],[.v .I,.v .I],Y,.pure (WJ N)⟩
def afv:Holds 157 (afu N):=gP N f157 (.q (.q (.q (.seq (O ⟨F,[3],[(6,.val .I)],[],[]⟩) (.W [3,39,40] [(6,.val .I),(41,.val .I)]) (.seq (O ⟨F,[3],[(6,.val .I)],[],[]⟩) (.W [3,78,79] [(6,.val .I),(80,.val .I)]) (.seq (O ⟨F,[],[(6,.val .I)],[],[]⟩) (.W [3,125,126] [(6,.val .I),(127,.val .I)]) .leaf)))))) (cn (Ik N) (cn (abW N) (cn (afc N) (cn (afe N) (cn (afi N) (cn (afk N) (cn (afo N) (cn (afq N) (cn (afs N) nl)))))))))
def TQ:Int×dQ×dc->V (Int×Int):=λ(a,d,b)=>(dv (decide (0<=a)&&decide (a.toNat<=b.bC.length))).bind λ_=>(WJ N (b.bC.take a.toNat,d)).bind λc=>O (c.1,c.2)
abbrev abX:bZ U:=⟨[.I,bQ,fJ],[.v .I,.v .I],Y,.pure (TQ N)⟩
def afw:Holds 156 (abX N):=gP N f156 .leaf (cn (afv N) nl)
def Z7:Int×Int×(Z rz)×((Int×rz)->V (Int×Int))->V (Except eh ab):=λ(c,e,d,f)=>aQ (λg((a,_):Int×ab)=>bif a<d.length then(ax d a).bind λi=>(rA N (decide (a<e),h9.mk c a 0 4)).bind λj=>eG j (λk=>O (Except.error k)) λn=>(f (a,i)).bind λb=>(rA N (b.2==0,h9.mk c a b.1 b.2)).bind λl=>eG l (λm=>O (Except.error m)) λo=>g (Wk.wrap (a+1),())else O (Except.ok ())) N (0,())
abbrev abY:bZ U:=⟨[.I,.I,eR,(.fn (.iz .I eE) l6)],[],(O (243,hH)),.pure (Z7 N)⟩
def afx:Holds 158 (abY N):=gP N f158 (.W [0,1,3,12,13] [(14,.val .I)]) (cn (M3 N) nl)
def Z8:(Z rz)×(rz->V aa)->V Int:=λ(b,c)=>aG (λ(_:ab×ab)=>O (-1)) λd=>aQ (λe((a,_):Int×ab)=>bif a<b.length then(ax b a).bind λf=>(c f).bind λg=>bif g then O a else e (Wk.wrap (a+1),())else d ((),())) N (0,())
abbrev afy:bZ U:=⟨[eR,(.fn eE .bool)],[.v .I],Y,.pure (Z8 N)⟩
def afz:Holds 219 (afy N):=gP N f219 (.q (.J (.W [0,1,7] [(8,.val .I)]) .leaf)) nl
def TR:(Z rz)×(rz->V aa)->V aa:=λ(a,b)=>(Z8 N (a,b)).bind λc=>O (decide (0<=c))
abbrev afA:bZ U:=⟨[eR,(.fn eE .bool)],[.v .bool],Y,.pure (TR N)⟩
def abZ:Holds 160 (afA N):=gP N f160 .leaf (cn (afz N) nl)
def WK(N:Nat):rz×rz->V aa:=λ(a,b)=>bif a.au==b.au then bif a.name==b.name then O (a.scope==b.scope)else O F else O F
abbrev afB:bZ U:=⟨[eE,ky],[.v .bool],Y,.pure (WK N)⟩
def afC:Holds 161 (afB N):=gP N f161 .leaf nl
def WL:Int×rz×dc->V (Int×Int):=λ(b,a,c)=>(l8 N a.au).bind λe=>bif !e then O (0,2)else(l8 N a.name).bind λf=>bif !f then O (0,2)else(dv (decide (0<=b)&&decide (b.toNat<=c.eu.length))).bind λ_=>(TR N (c.eu.take b.toNat,λg=>WK N (g,a))).bind λi=>(Qu N i).bind λd=>bif !(d==0)then O (0,d)else bif 4096<(a.Qp.length:Int)then O (0,3)else O (0,0)
abbrev ab0:bZ U:=⟨[.I,eE,fJ],[.v .I,.v .I],Y,.pure (WL N)⟩
def afD:Holds 159 (ab0 N):=gP N f159 .leaf (cn (Ik N) (cn (abT N) (cn (abZ N) (cn (afC N) nl))))
def Z9:Int×Int×(Z dA)×((Int×dA)->V (Int×Int))->V (Except eh ab):=λ(c,e,d,f)=>aQ (λg((a,_):Int×ab)=>bif a<d.length then(ax d a).bind λi=>(rA N (decide (a<e),h9.mk c a 0 4)).bind λj=>eG j (λk=>O (Except.error k)) λn=>(f (a,i)).bind λb=>(rA N (b.2==0,h9.mk c a b.1 b.2)).bind λl=>eG l (λm=>O (Except.error m)) λo=>g (Wk.wrap (a+1),())else O (Except.ok ())) N (0,())
abbrev ab1:bZ U:=⟨[.I,.I,gQ,(.fn (.iz .I fZ) l6)],[],(O (243,hH)),.pure (Z9 N)⟩
def afE:Holds 162 (ab1 N):=gP N f162 (.W [0,1,3,12,13] [(14,.val .I)]) (cn (M3 N) nl)
def TS:Z l7->V Int:=λc=>bif 64<(c.length:Int)then O 4 else aG (λ(_:ab×ab)=>(WB N c).bind λf=>bif !f then O 2 else O 0) λg=>aQ (λd((b,_):Int×ab)=>bif b<c.length then(ax c b).bind λa=>(l8 N a.name).bind λi=>aG (λ((j,_):aa×ab)=>bif a.kind<1 then O 2 else bif 5<a.kind then O 2 else bif !j then O 2 else bif a.num<0 then O 2 else bif 0<a.num then bif !(a.kind==2)then O 2 else bif 0<(a.args.length:Int)then bif !(a.kind==4)then O 2 else d (Wk.wrap (b+1),())else d (Wk.wrap (b+1),())else bif 0<(a.args.length:Int)then bif !(a.kind==4)then O 2 else d (Wk.wrap (b+1),())else d (Wk.wrap (b+1),())) λe=>bif a.kind==1 then e ((a.name==[]),())else e (i,())else g ((),())) N (0,())
abbrev afF:bZ U:=⟨[eF],[.v .I],Y,.pure (TS N)⟩
def afG:Holds 164 (afF N):=gP N f164 (.q (.q (.seq (O ⟨F,[0],[],[],[]⟩) (.q (.block (.w [0,9,10] [(11,.val .I)] (.q (.q (.seq Y (.block (.q (.q (.seq (O ⟨F,[0,4,9,10,11],[(5,.val .bool)],[4],[]⟩) .leaf .leaf)))) .leaf)))))) .leaf))) (cn (Ik N) (cn (aeX N) nl))
def WM:Int×dA->V (Int×Int):=λ(e,a)=>(l8 N a.au).bind λc=>bif !c then O (0,2)else(TS N a.left).bind λb=>bif !(b==0)then O (1,b)else(TS N a.right).bind λd=>O (2,d)
abbrev ab2:bZ U:=⟨[.I,fZ],[.v .I,.v .I],Y,.pure (WM N)⟩
def afH:Holds 163 (ab2 N):=gP N f163 .leaf (cn (Ik N) (cn (afG N) nl))
def aaa:Int×Int×(Z eV)×((Int×eV)->V (Int×Int))->V (Except eh ab):=λ(c,e,d,f)=>aQ (λg((a,_):Int×ab)=>bif a<d.length then(ax d a).bind λi=>(rA N (decide (a<e),h9.mk c a 0 4)).bind λj=>eG j (λk=>O (Except.error k)) λn=>(f (a,i)).bind λb=>(rA N (b.2==0,h9.mk c a b.1 b.2)).bind λl=>eG l (λm=>O (Except.error m)) λo=>g (Wk.wrap (a+1),())else O (Except.ok ())) N (0,())
abbrev ab3:bZ U:=⟨[.I,.I,eS,(.fn (.iz .I fo) l6)],[],(O (243,hH)),.pure (aaa N)⟩
def afI:Holds 165 (ab3 N):=gP N f165 (.W [0,1,3,12,13] [(14,.val .I)]) (cn (M3 N) nl)
def aab:(Z eV)×(eV->V aa)->V Int:=λ(b,c)=>aG (λ(_:ab×ab)=>O (-1)) λd=>aQ (λe((a,_):Int×ab)=>bif a<b.length then(ax b a).bind λf=>(c f).bind λg=>bif g then O a else e (Wk.wrap (a+1),())else d ((),())) N (0,())
abbrev afJ:bZ U:=⟨[eS,(.fn fo .bool)],[.v .I],Y,.pure (aab N)⟩
def afK:Holds 221 (afJ N):=gP N f221 (.q (.J (.W [0,1,7] [(8,.val .I)]) .leaf)) nl
def WN:(Z eV)×(eV->V aa)->V aa:=λ(a,b)=>(aab N (a,b)).bind λc=>O (decide (0<=c))
abbrev afL:bZ U:=⟨[eS,(.fn fo .bool)],[.v .bool],Y,.pure (WN N)⟩
def afM:Holds 167 (afL N):=gP N f167 .leaf (cn (afK N) nl)
def aac(N:Nat):eV×eV->V aa:=λ(a,b)=>O (a.au==b.au)
abbrev afN:bZ U:=⟨[fo,(.cell fo)],[.v .bool],Y,.pure (aac N)⟩
def afO:Holds 168 (afN N):=gP N f168 .leaf nl
def TU:bP×aa×Int×(Int->V (Int×Int))×Int->V (Int×Int):=λ(d,e,c,f,g)=>(l8 N d).bind λi=>bif !i then O (0,2)else bif e then O (0,40)else bif 64<c then O (65,4)else aG (λ(_:ab×ab)=>O (0,0)) λj=>aQ (λk((a,_):Int×ab)=>bif a<c then(f a).bind λb=>bif b.1<1 then O (Wk.wrap (a+1),2)else bif g<b.1 then O (Wk.wrap (a+1),2)else bif 4096<b.2 then O (Wk.wrap (a+1),3)else k (Wk.wrap (a+1),())else j ((),())) N (0,())
abbrev afP:bZ U:=⟨[.str,.bool,.I,(.fn .I l6),.I],[.v .I,.v .I],Y,.pure (TU N)⟩
def ab4:Holds 169 (afP N):=gP N f169 (.q (.q (.q (.q (.J (.W [3,4,21] [(22,.val .I)]) .leaf))))) (cn (Ik N) nl)
def WO(N:Nat):Int×eV->V (Int×Int):=λ(a,b)=>(ax b.cells a).bind λc=>(ax b.cells a).bind λd=>(ax b.cells a).bind λe=>O (c.kind,Wk.wrap ((d.text.length:Int)+(e.mark.length:Int)))
abbrev afQ:bZ U:=⟨[.I,(.cell fo)],[.v .I,.v .I],Y,.pure (WO N)⟩
def afR:Holds 170 (afQ N):=gP N f170 .leaf nl
def WQ:Int×eV×dc->V (Int×Int):=λ(c,a,b)=>(dv (decide (0<=c)&&decide (c.toNat<=b.eL.length))).bind λ_=>(WN N (b.eL.take c.toNat,λb=>aac N (b,a))).bind λe=>(TU N (a.au,e,(a.cells.length:Int),λf=>WO N (f,a),6)).bind λd=>O (d.1,d.2)
abbrev ab5:bZ U:=⟨[.I,fo,fJ],[.v .I,.v .I],Y,.pure (WQ N)⟩
def afS:Holds 166 (ab5 N):=gP N f166 .leaf (cn (afM N) (cn (afO N) (cn (ab4 N) (cn (afR N) nl))))
def aad:Int×Int×(Z cR)×((Int×cR)->V (Int×Int))->V (Except eh ab):=λ(c,e,d,f)=>aQ (λg((a,_):Int×ab)=>bif a<d.length then(ax d a).bind λi=>(rA N (decide (a<e),h9.mk c a 0 4)).bind λj=>eG j (λk=>O (Except.error k)) λn=>(f (a,i)).bind λb=>(rA N (b.2==0,h9.mk c a b.1 b.2)).bind λl=>eG l (λm=>O (Except.error m)) λo=>g (Wk.wrap (a+1),())else O (Except.ok ())) N (0,())
abbrev ab6:bZ U:=⟨[.I,.I,eT,(.fn (.iz .I fp) l6)],[],(O (243,hH)),.pure (aad N)⟩
def afT:Holds 171 (ab6 N):=gP N f171 (.W [0,1,3,12,13] [(14,.val .I)]) (cn (M3 N) nl)
def aae:(Z cR)×(cR->V aa)->V Int:=λ(b,c)=>aG (λ(_:ab×ab)=>O (-1)) λd=>aQ (λe((a,_):Int×ab)=>bif a<b.length then(ax b a).bind λf=>(c f).bind λg=>bif g then O a else e (Wk.wrap (a+1),())else d ((),())) N (0,())
abbrev afU:bZ U:=⟨[eT,(.fn fp .bool)],[.v .I],Y,.pure (aae N)⟩
def afV:Holds 222 (afU N):=gP N f222 (.q (.J (.W [0,1,7] [(8,.val .I)]) .leaf)) nl
def WS:(Z cR)×(cR->V aa)->V aa:=λ(a,b)=>(aae N (a,b)).bind λc=>O (decide (0<=c))
abbrev afW:bZ U:=⟨[eT,(.fn fp .bool)],[.v .bool],Y,.pure (WS N)⟩
def afX:Holds 173 (afW N):=gP N f173 .leaf (cn (afV N) nl)
def aaf(N:Nat):cR×cR->V aa:=λ(a,b)=>O (a.au==b.au)
abbrev afY:bZ U:=⟨[fp,(.cell fp)],[.v .bool],Y,.pure (aaf N)⟩
def afZ:Holds 174 (afY N):=gP N f174 .leaf nl
def WT(N:Nat):Int×cR->V (Int×Int):=λ(a,b)=>(ax b.eU a).bind λc=>(ax b.eU a).bind λd=>(ax b.eU a).bind λe=>O (c.kind,Wk.wrap ((d.text.length:Int)+(e.mark.length:Int)))
abbrev af0:bZ U:=⟨[.I,(.cell fp)],[.v .I,.v .I],Y,.pure (WT N)⟩
def af1:Holds 175 (af0 N):=gP N f175 .leaf nl
def WU:Int×cR×dc->V (Int×Int):=λ(c,a,b)=>(dv (decide (0<=c)&&decide (c.toNat<=b.c7.length))).bind λ_=>(WS N (b.c7.take c.toNat,λb=>aaf N (b,a))).bind λe=>(TU N (a.au,e,(a.eU.length:Int),λf=>WT N (f,a),5)).bind λd=>O (d.1,d.2)
abbrev ab7:bZ U:=⟨[.I,fp,fJ],[.v .I,.v .I],Y,.pure (WU N)⟩
def af2:Holds 172 (ab7 N):=gP N f172 .leaf (cn (ab4 N) (cn (afX N) (cn (afZ N) (cn (af1 N) nl))))
def C66(N:Nat):dc->V (Except eh ab):=λa=>(l8 N a.name).bind λb=>(rA N (b,h9.mk 0 0 0 2)).bind λc=>eG c (λd=>O (Except.error d)) λE=>(rA N (decide (1<=a.version),h9.mk 0 1 0 2)).bind λe=>eG e (λf=>O (Except.error f)) λG=>(ZZ N (1,8,a.tv,λ(g,h)=>WD N (g,h,a))).bind λi=>eG i (λj=>O (Except.error j)) λH=>(Z1 N (2,128,a.bC,λ(k,l)=>TQ N (k,l,a))).bind λm=>eG m (λn=>O (Except.error n)) λI=>(Z7 N (3,256,a.eu,λ(o,p)=>WL N (o,p,a))).bind λq=>eG q (λr=>O (Except.error r)) λJ=>(Z9 N (4,256,a.equations,λ(s,t)=>WM N (s,t))).bind λu=>eG u (λv=>O (Except.error v)) λK=>(aaa N (5,256,a.eL,λ(w,x)=>WQ N (w,x,a))).bind λy=>eG y (λz=>O (Except.error z)) λL=>(aad N (6,256,a.c7,λ(A,B)=>WU N (A,B,a))).bind λC=>eG C (λD=>O (Except.error D)) λP=>O (Except.ok ())
def Bd:dc->V h9:=λa=>(C66 N a).bind λr=>eG r (λe=>O e.f) λ_=>O (h9.mk 0 0 0 0)
def K66:bZ U:=⟨[cg],[.v fq],Y,.pure (Bd N)⟩
def Yr(N:Nat):Z (Nat×Z (bZ U)):=[(150,[abQ N]),(151,[abR N]),(152,[abS N]),(153,[abU N]),(155,[abV N]),(156,[abX N]),(158,[abY N]),(159,[ab0 N]),(162,[ab1 N]),(163,[ab2 N]),(165,[ab3 N]),(166,[ab5 N]),(171,[ab6 N]),(172,[ab7 N])]
def aag(N:Nat)(E:cd)(a:oN E):uX PP E TT BB (Yr N):=.cons (M3 N E a) (.cons (Ik N E a) (.cons (ae0 N E a) (.cons (ae4 N E a) (.cons (ae5 N E a) (.cons (afw N E a) (.cons (afx N E a) (.cons (afD N E a) (.cons (afE N E a) (.cons (afH N E a) (.cons (afI N E a) (.cons (afS N E a) (.cons (afT N E a) (.cons (af2 N E a) (.nil))))))))))))))
abbrev WV:Ty:=cg
abbrev Il:Ty:=hH
abbrev aah:Ty:=fq
def WW(N:Nat):bP×bP->V aa:=λ(b,a)=>bif (a.length:Int)<=(b.length:Int)then(dv (decide (0<=(a.length:Int))&&decide ((a.length:Int).toNat<=b.length))).bind λ_=>O ((b.take ((a.length:Int).toNat))==a)else O F
abbrev af3:bZ U:=⟨[.str,.str],[.v .bool],Y,.pure (WW N)⟩
def af4:Holds 253 (af3 N):=gP N f253 .leaf nl
def WX:bP×bP->V bP:=λ(a,b)=>(WW N (a,b)).bind λc=>bif c then(dv (decide (0<=(b.length:Int))&&decide ((b.length:Int).toNat<=a.length))).bind λ_=>O (a.drop ((b.length:Int).toNat))else O a
abbrev af5:bZ U:=⟨[.str,.str],[.v .str],Y,.pure (WX N)⟩
def af6:Holds 232 (af5 N):=gP N f232 .leaf (cn (af4 N) nl)
def WY:bP×bP->V bP:=λ(a,b)=>(WX N (a,b)).bind λc=>O c
abbrev af7:bZ U:=⟨[.str,.str],[.v .str],Y,.pure (WY N)⟩
def af8:Holds 199 (af7 N):=gP N f199 .leaf (cn (af6 N) nl)
def TV(N:Nat):Int->V aa:=λa=>bif 65<=a then bif a<=90 then O W else bif 97<=a then O (decide (a<=122))else O F else bif 97<=a then O (decide (a<=122))else O F
abbrev af9:bZ U:=⟨[so],[.v .bool],Y,.pure (TV N)⟩
def aga:Holds 200 (af9 N):=gP N f200 .leaf nl
def Du:bP->V aa:=λf=>(WY N (f,[63])).bind λa=>bif a==[]then O F else bif 32<(a.length:Int)then O F else(ax a 0).bind λg=>(TV N (g.toNat:Int)).bind λh=>bif !h then O F else aG (λ(_:ab×ab)=>O W) λi=>(dv (decide (a.length<=maxLen))).bind λ_=>aQ (λe((b,_):Int×ab)=>bif b<((a.map (λc:bc=>(c.toNat:Int))).length:Int)then(ax (a.map (λc:bc=>(c.toNat:Int))) b).bind λd=>(TV N d).bind λj=>bif !j then bif d<48 then bif !(d==95)then O F else e (Wk.wrap (b+1),())else bif 57<d then bif !(d==95)then O F else e (Wk.wrap (b+1),())else e (Wk.wrap (b+1),())else e (Wk.wrap (b+1),())else i ((),())) N (0,())
abbrev agb:bZ U:=⟨[.str],[.v .bool],Y,.pure (Du N)⟩
def agc:Holds 111 (agb N):=gP N f111 (.q (.q (.q (.J (.W [21,22] [(23,.val .I)]) .leaf)))) (cn (af8 N) (cn (aga N) nl))
def F40:gB×Nd->V aa:=λ(f,a)=>(Du N a.au).bind λo=>bif !o then O F else bif !((a.cu==0)==(a.role==[]))then O F else bif !(a.role==[])then(Du N a.role).bind λp=>bif !p then O F else bif (f.aj.length:Int)<(a.aD.length:Int)then O F else aG (λ(_:ab×ab)=>aG (λ(_:ab×ab)=>O W) λq=>aQ (λk((b,_):Int×ab)=>bif b<a.bK.length then(ax a.bK b).bind λg=>(Du N g.role).bind λr=>bif !r then O F else bif g.target<1 then O F else bif f.next<=g.target then O F else bif 0<b then(ax a.bK (Wk.wrap (b-1))).bind λs=>bif !(Op.bytesLess s.role g.role)then O F else k (Wk.wrap (b+1),())else k (Wk.wrap (b+1),())else q ((),())) N (0,())) λt=>aQ (λl((c,_):Int×ab)=>bif c<a.bd.length then(ax a.bd c).bind λi=>(Du N i.name).bind λu=>bif !u then O F else bif 4096<(i.value.length:Int)then O F else bif 0<c then(ax a.bd (Wk.wrap (c-1))).bind λv=>bif !(Op.bytesLess v.name i.name)then O F else l (Wk.wrap (c+1),())else l (Wk.wrap (c+1),())else t ((),())) N (0,())else bif (f.aj.length:Int)<(a.aD.length:Int)then O F else aG (λ(_:ab×ab)=>aG (λ(_:ab×ab)=>O W) λw=>aQ (λm((d,_):Int×ab)=>bif d<a.bK.length then(ax a.bK d).bind λh=>(Du N h.role).bind λx=>bif !x then O F else bif h.target<1 then O F else bif f.next<=h.target then O F else bif 0<d then(ax a.bK (Wk.wrap (d-1))).bind λy=>bif !(Op.bytesLess y.role h.role)then O F else m (Wk.wrap (d+1),())else m (Wk.wrap (d+1),())else w ((),())) N (0,())) λz=>aQ (λn((e,_):Int×ab)=>bif e<a.bd.length then(ax a.bd e).bind λj=>(Du N j.name).bind λA=>bif !A then O F else bif 4096<(j.value.length:Int)then O F else bif 0<e then(ax a.bd (Wk.wrap (e-1))).bind λB=>bif !(Op.bytesLess B.name j.name)then O F else n (Wk.wrap (e+1),())else n (Wk.wrap (e+1),())else z ((),())) N (0,())
abbrev K40:bZ U:=⟨[cb,cK],[.v .bool],Y,.pure (F40 N)⟩
def G40:Holds 40 (K40 N):=gP N f40 (.q (.q (.seq (O ⟨F,[2,3],[],[2,3],[]⟩) (.B ⟨F,[2,3,43,44],[(45,.val .I)],[2,3],[]⟩ .leaf) (.J (.B ⟨F,[2,3,78,79],[(80,.val .I)],[2,3],[]⟩ .leaf) .leaf)))) (cn (agc N) nl)
def F41:gB->V Int:=λa=>(dv (decide (0<=(a.aj.length:Int))&&cF 8 ((a.aj.length:Int).toNat) 281474976710656)).bind λ_=>aG (λ((h,_):(Z Int)×ab)=>aG (λ(_:ab×ab)=>aG (λ(_:ab×ab)=>O 0) λq=>aQ (λr((i,_):Int×ab)=>bif i<a.aj.length then aG (λ(_:ab×ab)=>r (Wk.wrap (i+1),())) λs=>(ax a.aj i).bind λc=>aG (λ(_:ab×ab)=>O 29) λt=>aQ (λu(((n,J,K,o,L,P,Q,R),_):(Int×Int×bP×Int×bP×(Z Ku)×(Z Int)×(Z Rf))×ab)=>bif n<=64 then bif o==0 then s ((),())else(Vw N (a,o)).bind λv=>(ax a.aj v).bind λd=>u ((Wk.wrap (n+1),d.iD,d.au,d.cu,d.role,d.bd,d.aD,d.bK),())else t ((),())) N ((1,c.iD,c.au,c.cu,c.role,c.bd,c.aD,c.bK),())else q ((),())) N (0,())) λw=>aQ (λf((b,_):Int×ab)=>bif b<a.aj.length then(ax a.aj b).bind λj=>bif j.cu==0 then(ax h b).bind λx=>bif !(x==0)then O 29 else bif !(j.cu==0)then(ax h b).bind λy=>bif !(y==1)then O 29 else f (Wk.wrap (b+1),())else f (Wk.wrap (b+1),())else bif !(j.cu==0)then(ax h b).bind λz=>bif !(z==1)then O 29 else f (Wk.wrap (b+1),())else f (Wk.wrap (b+1),())else w ((),())) N (0,())) λA=>aQ (λB(((k,p),_):(Int×(Z Int))×ab)=>bif k<a.aj.length then aG (λ((C,_):(Z Int)×ab)=>B ((Wk.wrap (k+1),C),())) λD=>(ax a.aj k).bind λl=>aQ (λE(((m,g),_):(Int×(Z Int))×ab)=>bif m<l.aD.length then(ax l.aD m).bind λG=>(Vw N (a,G)).bind λe=>bif e<0 then O 29 else(ax a.aj e).bind λH=>bif !(H.cu==l.iD)then O 29 else(ax g e).bind λI=>(ax g e).bind λS=>E ((Wk.wrap (m+1),g.set e.toNat (Wk.wrap (I+1))),())else D (g,())) N ((0,p),())else A (p,())) N ((0,List.replicate (a.aj.length:Int).toNat (0:Int)),())
abbrev K41:bZ U:=⟨[cb],[.v .I],Y,.pure (F41 N)⟩
def G41:Holds 41 (K41 N):=gP N f41 (.q (.scope (.q (.seq (O ⟨F,[1,3],[],[1],[(3,.br .I 3)]⟩) (.B ⟨F,[1,3,19,20],[(21,.val .I)],[1],[(3,.br .I 3)]⟩ (.q (.q (.seq (O ⟨F,[1,3,19,20,21],[],[1],[(3,.br .I 3)]⟩) (.block (.q (.B ⟨F,[1,3,5,19,20,21,26,27],[(28,.val .I)],[1,5],[(3,.br .I 3)]⟩ .leaf))) .leaf)))) (.seq (O ⟨F,[1],[],[1],[]⟩) (.B ⟨F,[1,3,57,58],[(59,.val .I)],[1,3],[]⟩ .leaf) (.q (.J (.B ⟨F,[1,88,89],[(90,.val .I)],[1],[]⟩ (.q (.q (.seq (O ⟨F,[1,88,89,90],[],[1],[]⟩) (.block (.q (.J (.B ⟨F,[1,12,88,89,90],[(13,.val .I)],[1],[(12,.cells cK [.val .I,.val .str,.val .I,.val .str,.val gN,.val ec,.val gO])]⟩ .leaf) .leaf))) .leaf)))) .leaf))))))) (cn (G44 N) nl)
def Gy:gB->V Int:=λa=>bif a.next<1 then O 29 else bif 1048577<a.next then O 29 else bif 4096<(a.aj.length:Int)then O 29 else aG (λ(_:ab×ab)=>(F41 N a).bind λd=>O d) λe=>aQ (λf(((g,c),_):(Int×Int)×ab)=>bif c<a.aj.length then(ax a.aj c).bind λb=>bif b.iD<=g then O 29 else bif a.next<=b.iD then O 29 else(F40 N (a,b)).bind λh=>bif !h then O 29 else f ((b.iD,Wk.wrap (c+1)),())else e ((),())) N ((0,0),())
abbrev K16:bZ U:=⟨[cb],[.v .I],Y,.pure (Gy N)⟩
def G16:Holds 16 (K16 N):=gP N f16 (.q (.q (.q (.seq (O ⟨F,[1],[],[1],[]⟩) (.B ⟨F,[1,21,22],[(3,.val .I),(23,.val .I)],[1],[]⟩ .leaf) .leaf)))) (cn (G40 N) (cn (G41 N) nl))
def aai(N:Nat):Z Ku->V (Z Ku):=λa=>bif a.isEmpty then both (O []) ((dv (cF 32 (0+a.length) 140737488355328)).bind λ_=>O (([]:Z _)++a))else(dv (cF 32 (0+a.length) 140737488355328)).bind λ_=>O (([]:Z _)++a)
abbrev agd:bZ U:=⟨[gN],[.bR pq 133],Y,.pure (aai N)⟩
def age:Holds 117 (agd N):=gP N f117 .leaf nl
def aaj(N:Nat):Z Rf->V (Z Rf):=λa=>bif a.isEmpty then both (O []) ((dv (cF 24 (0+a.length) 140737488355328)).bind λ_=>O (([]:Z _)++a))else(dv (cF 24 (0+a.length) 140737488355328)).bind λ_=>O (([]:Z _)++a)
abbrev agf:bZ U:=⟨[gO],[.bR pr 135],Y,.pure (aaj N)⟩
def agh:Holds 118 (agf N):=gP N f118 .leaf nl
def F45:Nd->V Nd:=λa=>(aai N a.bd).bind λb=>(aaj N a.bK).bind λc=>(dv (decide (0<=(a.aD.length:Int))&&cF 8 ((a.aD.length:Int).toNat) 281474976710656)).bind λ_=>O (Nd.mk a.iD a.au a.cu a.role b (a.aD.take (min a.aD.length (List.replicate (a.aD.length:Int).toNat (0:Int)).length)++(List.replicate (a.aD.length:Int).toNat (0:Int)).drop (min a.aD.length (List.replicate (a.aD.length:Int).toNat (0:Int)).length)) c)
abbrev K45:bZ U:=⟨[cK],[.v cK],Y,.pure (F45 N)⟩
def G45:Holds 45 (K45 N):=gP N f45 .leaf (cn (age N) (cn (agh N) nl))
def F18:gB×Int->V (Nd×aa):=λ(a,c)=>(Gy N a).bind λd=>bif !(d==0)then O (Nd.mk 0 [] 0 [] [] [] [],F)else(Vw N (a,c)).bind λb=>bif 0<=b then(ax a.aj b).bind λe=>(F45 N e).bind λf=>O (f,W)else O (Nd.mk 0 [] 0 [] [] [] [],F)
abbrev K18:bZ U:=⟨[cb,.I],[.v cK,.v .bool],Y,.pure (F18 N)⟩
def G18:Holds 18 (K18 N):=gP N f18 .leaf (cn (G16 N) (cn (G44 N) (cn (G45 N) nl)))
def QC(N:Nat):bP->V aa:=λa=>aG (λ((c,_):aa×ab)=>bif c then O W else O F) λb=>bif a==[97,110,100]then b (W,())else bif a==[97,110,121]then b (W,())else bif a==[99,111,110,99,101,112,116]then b (W,())else bif a==[101,108,115,101]then b (W,())else bif a==[101,110,100]then b (W,())else bif a==[101,118,101,114,121]then b (W,())else bif a==[102,97,108,115,101]then b (W,())else bif a==[102,105,114,115,116]then b (W,())else bif a==[105,100]then b (W,())else bif a==[105,102]then b (W,())else bif a==[105,110]then b (W,())else bif a==[105,110,116]then b (W,())else bif a==[110,111,110,101]then b (W,())else bif a==[110,111,116]then b (W,())else bif a==[111,110,108,121]then b (W,())else bif a==[111,114]then b (W,())else bif a==[115,101,108,102]then b (W,())else bif a==[115,105,122,101]then b (W,())else bif a==[115,117,109]then b (W,())else bif a==[116,101,120,116]then b (W,())else bif a==[116,104,101,110]then b (W,())else b ((a==[116,114,117,101]),())
abbrev ahH:bZ U:=⟨[.str],[.v .bool],Y,.pure (QC N)⟩
def ahI:Holds 254 (ahH N):=gP N f254 (.q (.seq Y (.q (.block (.seq (O ⟨F,[],[(4,.val .bool)],[],[]⟩) .leaf .leaf))) .leaf)) nl
def aaA:tW->V aa:=λa=>bif a.kind==1 then bif 0<=a.int then O (a.text==[])else O F else bif !(a.int==0)then O F else bif a.kind==2 then O W else bif a.kind==3 then(l8 N a.text).bind λb=>bif b then(QC N a.text).bind λc=>O (!c)else O F else bif a.kind==4 then(QC N a.text).bind λd=>O d else bif a.kind==5 then Y else O F
abbrev ahJ:bZ U:=⟨[iH],[.v .bool],Y,.pure (aaA N)⟩
def ahK:Holds 233 (ahJ N):=gP N f233 .leaf (cn (Ik N) (cn (ahI N) nl))
end
end Go.Proofs.Mo
