/- The law MachineCounts (layer 12) holds wherever what it reads is of bulk at most 1048576: it returns true and leaves its arguments as they were. -/
import Derived.Test.YtlacgaedkjhfhaaGreatDoorCards
import Derived.Test.YtlacgaedkjhfhaaGreatDoorTie
import Derived.WalkKit
import Derived.ProofKit
import Derived.OpenShut
import Derived.Deep.DeepHandedRow
import Derived.Test.YtlacgaedkjhfhaaGreatDoorZC31
set_option linter.all false
set_option maxRecDepth 100000
open Option renaming some->O,none->Y
open Bool renaming true->W,false->F
namespace Go.Proofs.YtlacgaedkjhfhaaGreatDoor.machineCounts
open Go Go.Ev Go.ChangeShapes Go.WideShapes Go.ChangeAt Go.RowKit Go.Proofs.Mo
theorem bU:ownKnob Tryz.prog.godebug=Y:=au
theorem mP{H:Type}{d:DataW H}:∀{l:Z (DataW H)},d∈l->Rows.uptoBulk d<=Rows.uptoBulkAll l
 |x::r,h=>by
  simp only[Rows.uptoBulkAll];rcases cT.1 h with e|e
  .subst e;omega
  .have:=mP e;omega
theorem LV{H:Type}(d:DataW H):1<=Rows.uptoBulk d:=by
 cases d with
 |lit l=>cases l<;>simp[Rows.uptoBulk]
 |nil=>simp[Rows.uptoBulk]|ptr d=>simp[Rows.uptoBulk]
 |slice a b=>simp[Rows.uptoBulk]|agg c=>simp[Rows.uptoBulk]
 |iface t d=>simp[Rows.uptoBulk]|map e=>simp[Rows.uptoBulk]
 |held h=>simp[Rows.uptoBulk]
theorem pv{H:Type}:∀l:Z (DataW H),l.length<=Rows.uptoBulkAll l
 |[]=>aE|x::r=>by have:=LV x;have:=pv r;simp only[Rows.uptoBulkAll,ec];omega
theorem LW(H:Type):xX (H:=H) 1048576 (λd=>Rows.uptoBulk d<=1048576)where
 str b h _:=by simp only[Rows.uptoBulk]at h;omega
 len c e h _:=by have:=pv c;simp only[Rows.uptoBulk]at h;omega
 elem c e d h a:=by have:=mP a;simp only[Rows.uptoBulk]at h;omega
 part ps d h a:=by have:=mP a;simp only[Rows.uptoBulk]at h;omega
theorem CR(H:Type)(enc:JA×Jz->H)(b:zI)(base:Nat)(args:Array Jz)(a c:Z (DataW H))(h:Z MemPlace)
  (i:∀(j:Nat) t v,Tryz.f5.params[j]?=O t->args[j]?=O v->Value.okWide Tryz.prog b .any base t v)
  (f:DataW.Whole enc Tryz.prog Tryz.f5.params.toList Rows.machineCountsSpec.vars F b args.toList a c h) (k:Rows.uptoSmall H (a++c)=W) (l:laidMetH Tryz.prog Rows.machineCountsUptoRow.laid b):
  Calls Tryz.prog 5 args b λe m=>∃v,e=.returned v/\Rows.machineCountsSpec.post enc Tryz.prog Tryz.f5 F W F F b args v m:=by
 have n:Rows.machineCountsSpec.fn H (a++c)={results:=[.lit (.bool W)],args:=a}:=by obtain⟨p,q,g,o,_⟩:=f;obtain⟨rfl,rfl⟩:=trodVars_none o;rw[Tryz.params5]at g;obtain⟨_,_,_,_,_,_,_,rfl,_,_,r⟩:=trodAll_cons g;obtain⟨_,_,_,_,_,_,_,rfl,_,_,s⟩:=trodAll_cons r;obtain⟨_,rfl,_⟩:=trodAll_nil s;rfl
 have u:∀d∈a,Rows.uptoBulk d<=1048576:=λd w=>by have A:Rows.uptoBulkAll (a++c)<=1048576:=di k;have B:Rows.uptoBulk d<=Rows.uptoBulkAll (a++c):=mP (dR.2 (.inl w));omega
 obtain⟨x,y,z⟩:=CQ l;exact JE (LW H) (ss:=Zb) au au rfl au rfl n au rfl i f u y z (acm x)
noncomputable def lu (b:Os):zI:=
 let Mloc:=(World.settled Tryz.prog b).heap.size;let w0:=World.holding Tryz.prog b ⟨#[.cells #[.string ⟨#[118,97,108,117,101,32,111,117,116,32,111,102,32,114,97,110,103,101]⟩] 414,.cells #[.string ⟨#[105,110,118,97,108,105,100,32,115,121,110,116,97,120]⟩] 414],#[],[]⟩;let a (h:Array Obj) (g:Nat) (cs:Array Jz):Array Obj:=h.modify g λ
  |.cells _ t frozen=>.cells cs t frozen|o=>o
 {w0 with heap:=a (a (a (a (a w0.heap 0 (Lib.pow10Tab.map λz=>Value.int .u64 z).toArray) 1 #[.iface 412 (.pointer (O ⟨Mloc+1,0,Y⟩))]) 2 #[.iface 412 (.pointer (O ⟨Mloc,0,Y⟩))]) 3 (([0,1,28,2,29,14,24,3,30,22,20,15,25,17,4,8,31,27,13,23,21,19,16,7,26,12,18,6,11,5,10,9]:Z Int).map (Value.int .u8)).toArray) 4 (([0,1,56,2,57,49,28,3,61,58,42,50,38,29,17,4,62,47,59,36,45,43,51,22,53,39,33,30,24,18,12,5,63,55,48,27,60,41,37,16,46,35,44,21,52,32,23,11,54,26,40,15,34,20,31,10,25,14,19,9,13,8,7,6]:Z Int).map (Value.int .u8)).toArray}
theorem CS(a:Os)(args:Array Jz):laidMet Tryz.prog Rows.machineCountsUptoRow.laid ((lu a).forCall (λ_ _=>0) ⟨#[],args,[]⟩).memory:=laidMet_of_run' 8 au au
theorem Tj(a:Os){H:Type}(enc:JA×Jz->H):∃b,DataW.whole enc Tryz.prog ((lu a).forCall (λ_ _=>0) ⟨#[],#[.agg #[.slice Y 0 0,.int .i64 0,.slice Y 0 0,.int .i64 0,.int .i64 0],.agg #[.slice Y 0 0]],[]⟩).memory Tryz.f5.params.toList Rows.machineCountsSpec.vars F ((#[.agg #[.slice Y 0 0,.int .i64 0,.slice Y 0 0,.int .i64 0,.int .i64 0],.agg #[.slice Y 0 0]]:Array Jz)).toList 8=O ([.agg [.nil,.agg [.lit (.int .i64 0),.nil],.lit (.int .i64 0),.lit (.int .i64 0)],.agg [.nil]],[],b):=⟨[],au⟩
theorem lifted(a:Os)(b:a.Started)(H:Type)(enc:JA×Jz->H)(c:Stop.Interp):
  ReturnsInHanded {} Tryz.checked a 5 .any ((Rows.OpenSpec.upto Rows.machineCountsSpec).preRow enc Tryz.prog Tryz.f5 Rows.machineCountsUptoRow.domain F Rows.machineCountsUptoRow.laid) (((Rows.OpenSpec.upto Rows.machineCountsSpec).at c).post enc Tryz.prog Tryz.f5 F W F F):=by
 obtain⟨o,d⟩:=Tj a enc;refine returnsInHanded_of_row (C:=Tryz.checked) (s:=Rows.OpenSpec.upto Rows.machineCountsSpec) bU b au Tryz.func5 (witness_row_at (enc:=enc) (C:=Tryz.checked) F (lu a) #[.agg #[.slice Y 0 0,.int .i64 0,.slice Y 0 0,.int .i64 0,.int .i64 0],.agg #[.slice Y 0 0]] rfl au au au (OpenSpec.preRow_of_cond 8 d au (λk e=>by cases e;kernel_rfl) au (CS a _))) ?_;intro f base args g h i j l _ m _ n _ _;exact CR H enc f base args g h i j l (m _ rfl) n
abbrev CL:=Rows.machineCountsUptoRow
abbrev SP:=(Rows.OpenSpec.upto Rows.machineCountsSpec).bare
theorem fO{a b:tl}(h:a=W)(k:b=W):(a&&b)=W:=by rw[h,k];rfl
theorem z0:(CL.wf (OpenSpec.ofChange SP):tl)=W:=au
theorem z1:(laidOutB Tryz.prog:tl)=W:=au
theorem z2:(mapsRowed Tryz.prog:tl)=W:=au
theorem z3:(Tryz.f5.params.all (λz=>Tryz.prog.readableRec z):tl)=W:=au
theorem z4:(namedTie Tryz.prog CL.named SP.vars:tl)=W:=au
theorem z5:((CL.stops==[]):tl)=W:=au
theorem z6:((Tryz.prog.stops==[]):tl)=W:=au
theorem z7:((CL.knobs==[]):tl)=W:=au
theorem z8:((Tryz.prog.stopKnobs==[]):tl)=W:=au
theorem z9:((CL.inPlace==Tryz.prog.inPlace 5):tl)=W:=au
theorem z10:((CL.unfollowed==Tryz.prog.unfollowed 5):tl)=W:=au
theorem z11:((CL.recurses==Tryz.prog.recurses 5):tl)=W:=au
theorem z12:((CL.named==Tryz.prog.varsNamed 5):tl)=W:=au
theorem z13:((CL.maps==(Tryz.f5.params.toList++SP.plain.varTypes Tryz.prog).any (λz=>Tryz.prog.mapsRec z)):tl)=W:=au
theorem XU:((CL.ifaces==(Tryz.f5.params.toList++SP.plain.varTypes Tryz.prog).any (λz=>Tryz.prog.ifacesRec z)):tl)=W:=au
theorem z15:((CL.mapsOut==Tryz.prog.mapsAmong Tryz.f5.resultTypes.toList):tl)=W:=au
theorem z16:((CL.loops==(Tryz.f5.params.toList++SP.plain.varTypes Tryz.prog).any (λz=>Tryz.prog.loopsFrom z)):tl)=W:=au
theorem z17:((CL.wideKeys==(Tryz.f5.params.toList++SP.plain.varTypes Tryz.prog++Tryz.f5.resultTypes.toList).any (λz=>Tryz.prog.wideKeysFrom z)):tl)=W:=au
theorem Wg:(SP.vars.all (λz=>Tryz.prog.varReadable z):tl)=W:=au
theorem Zk:(Tryz.f5.resultTypes.all (λt=>Tryz.prog.readableRec t&&decide (t<Tryz.prog.types.size)):tl)=W:=au
theorem z20:((CL.ifacesOut==Tryz.f5.resultTypes.toList.any (λz=>Tryz.prog.ifacesRec z)):tl)=W:=au
theorem z21:((CL.loopsOut==Tryz.f5.resultTypes.toList.any (λz=>Tryz.prog.loopsFrom z)):tl)=W:=au
theorem z22:((CL.plainKeys==Tryz.prog.plainKeys):tl)=W:=au
theorem Wf:(CL.shortTexts.isNone:tl)=W:=au
theorem z24:(Tryz.prog.stopsHeard:tl)=W:=au
theorem Z6:(Tryz.prog.mayEnter:tl)=W:=au
theorem z26:((CL.lifted==Tryz.prog.liftsFinal):tl)=W:=au
theorem z27:((Tryz.prog.make==O CL.make):tl)=W:=au
theorem Up:((CL.kinds==(if CL.domain.isEmpty then []else Tryz.f5.params.toList.map λt=>match Tryz.prog.underlying t with|some (.int k)=>O k|_=>Y)):tl)=W:=au
theorem z29:((CL.pinned==CL.pinnedBy):tl)=W:=au
theorem z30:((CL.veiled==(Tryz.f5.params.toList++SP.plain.varTypes Tryz.prog++Tryz.f5.resultTypes.toList).any (λz=>Tryz.prog.veiledRec z)):tl)=W:=au
theorem z31:(CL.veiledFits Tryz.prog Tryz.f5.params.toList (Tryz.f5.params.toList++SP.plain.varTypes Tryz.prog++Tryz.f5.resultTypes.toList):tl)=W:=au
theorem LX:joinedFacts Tryz.prog 5 Tryz.f5 (Rows.OpenSpec.upto Rows.machineCountsSpec).bare Rows.machineCountsUptoRow=W:=fO (fO (fO (fO (fO (fO (fO (fO (fO (fO (fO (fO (fO (fO (fO (fO (fO (fO (fO (fO (fO (fO (fO (fO (fO (fO (fO (fO (fO (fO (fO z0 z1) z2) z3) z4) z5) z6) z7) z8) z9) z10) z11) z12) z13) XU) z15) z16) z17) Wg) Zk) z20) z21) z22) Wf) z24) Z6) z26) z27) Up) z29) z30) z31
theorem Ze:Rows.MachineCountsUptoSaid:=
 OpenClaim.holds_of_cond 5 Tryz.f5 rfl rfl rfl rfl rfl rfl rfl ⟨rfl,rfl,rfl,rfl,rfl⟩ rfl rfl rfl rfl rfl au Tryz.func5 LX
  (di au) (by unfold Func.isWrapper;first|(rw[aj (by decide +kernel)];kernel_rfl)|(rw[ai (by decide +kernel)];exact ⟨rfl,rfl⟩))
  (λa b H enc _ c=>by rw[OpenClaim.pre_eq_preRow];exact lifted a b H enc c)
theorem plain(f:JC)(fn:Pz)(b:Tryz.pinned.checked.prog.funcNamed "topiary/topiarylaw12.MachineCounts" =O f)(c:Tryz.pinned.checked.prog.funcs[f]?=O fn):
  W=Tryz.pinned.checked.prog.looks []/\∀(j:Nat) t,fn.params[j]?=O t->Tryz.pinned.checked.prog.wantsStandIn t=F:=by
 obtain rfl:f=5:=cr ((show Tryz.prog.funcNamed "topiary/topiarylaw12.MachineCounts" =O 5 by kernel_rfl).symm.trans b)|>.symm;obtain rfl:fn=Tryz.f5:=(cr (Tryz.func5.symm.trans c)).symm;refine⟨au,λj t d=>?_⟩;have e:Tryz.f5.params.toList.all (λt=>!Tryz.prog.wantsStandIn t)=W:=au;have a:=cS.1 e t (Array.mem_toList_iff.2 (jP d));show Tryz.prog.wantsStandIn t=F;cases g:Tryz.prog.wantsStandIn t with
 |false=>rfl|true=>rw[g]at a;cases a
theorem proved:Rows.MachineCountsUptoCardSaid:=Claim7.holds_tied_plain_at .later [] _ _ _ _ Ze (λ_ h=>by cases h) au (λ_ h=>by cases h) machineCountsUpto_row_tie rfl ⟨rfl,rfl⟩ au rfl plain au
#print axioms proved
end Go.Proofs.YtlacgaedkjhfhaaGreatDoor.machineCounts
