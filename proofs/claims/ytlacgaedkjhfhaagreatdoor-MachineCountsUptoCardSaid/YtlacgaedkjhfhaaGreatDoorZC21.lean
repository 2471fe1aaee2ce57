import Derived.Shelf.SortM.Plain
import Derived.Shelf.SortM.SortNone
import Derived.Shelf.SlGeneric
import Derived.Ground.SlgmProg
import Derived.Test.YtlacgaedkjhfhaaGreatDoorZC20
set_option linter.all false
set_option maxRecDepth 20000
open Option renaming some->O,none->Y
open Bool renaming true->W,false->F
open Go.Proofs.Tryz
namespace Go.Proofs
open Go.RowKit Go.Sort Go.Shelf
def Tryz.LF:Go.Shelf.Ren:=⟨λ|6=>34|8=>82|9=>81|19=>183|20=>184|21=>174|22=>175|23=>176|24=>177|25=>178|26=>179|27=>180|28=>181|29=>182|36=>236|31=>237|32=>238|37=>239|38=>240|39=>241|41=>263|n=>n,λ|27=>59|29=>9|3=>3|32=>204|26=>59|0=>0|44=>102|46=>55|4=>4|36=>286|35=>285|41=>291|5=>5|9=>9|53=>347|57=>351|63=>371|64=>123|n=>n,λ|n=>n⟩
def Tryz.Sl:Go.Proofs.SlLaysM.n6 Tryz.prog Tryz.LF where
 mixed:=au
 f6:=⟨"slices.Sort[[]string,string]",cd,Tryz.func34.trans (bH O au)⟩
 f8:=Tryz.func82.trans (bH O au)
 f9:=⟨"slices.pdqsortOrdered[string]",cd,Tryz.func81.trans (bH O au)⟩
 f19:=Tryz.func183.trans (bH O au)
 f20:=Tryz.func184.trans (bH O au)
 f21:=⟨"slices.insertionSortOrdered[string]",cd,Tryz.func174.trans (bH O au)⟩
 f22:=⟨"slices.heapSortOrdered[string]",cd,Tryz.func175.trans (bH O au)⟩
 f23:=⟨"slices.breakPatternsOrdered[string]",cd,Tryz.func176.trans (bH O au)⟩
 f24:=⟨"slices.choosePivotOrdered[string]",cd,Tryz.func177.trans (bH O au)⟩
 f25:=⟨"slices.reverseRangeOrdered[string]",cd,Tryz.func178.trans (bH O au)⟩
 f26:=⟨"slices.partialInsertionSortOrdered[string]",cd,Tryz.func179.trans (bH O au)⟩
 f27:=⟨"cmp.Less[string]",cd,Tryz.func180.trans (bH O au)⟩
 f28:=⟨"slices.partitionEqualOrdered[string]",cd,Tryz.func181.trans (bH O au)⟩
 f29:=⟨"slices.partitionOrdered[string]",cd,Tryz.func182.trans (bH O au)⟩
 f31:=Tryz.func237.trans (bH O au)
 f32:=Tryz.func238.trans (bH O au)
 f36:=⟨"slices.siftDownOrdered[string]",cd,Tryz.func236.trans (bH O au)⟩
 f37:=⟨"slices.medianAdjacentOrdered[string]",cd,Tryz.func239.trans (bH O au)⟩
 f38:=⟨"slices.medianOrdered[string]",cd,Tryz.func240.trans (bH O au)⟩
 f39:=⟨"cmp.isNaN[string]",cd,Tryz.func241.trans (bH O au)⟩
 f41:=⟨"slices.order2Ordered[string]",cd,Tryz.func263.trans (bH O au)⟩
 t0:=Tryz.underlying0
 a0:=Tryz.isAgg0
 z0:=Tryz.sizeOf0
 v0:=Tryz.zeroValue0
 t3:=Tryz.underlying3
 a3:=Tryz.isAgg3
 z3:=Tryz.sizeOf3
 v3:=Tryz.zeroValue3
 t4:=Tryz.underlying4
 a4:=Tryz.isAgg4
 z4:=Tryz.sizeOf4
 v4:=Tryz.zeroValue4
 t5:=Tryz.underlying5
 a5:=Tryz.isAgg5
 z5:=Tryz.sizeOf5
 v5:=Tryz.zeroValue5
 t9:=Tryz.underlying9
 a9:=Tryz.isAgg9
 z9:=Tryz.sizeOf9
 v9:=Tryz.zeroValue9
 t26:=Tryz.underlying59
 a26:=Tryz.isAgg59
 z26:=Tryz.sizeOf59
 v26:=Tryz.zeroValue59
 t27:=Tryz.underlying59
 a27:=Tryz.isAgg59
 z27:=Tryz.sizeOf59
 v27:=Tryz.zeroValue59
 t29:=Tryz.underlying9
 a29:=Tryz.isAgg9
 z29:=Tryz.sizeOf9
 v29:=Tryz.zeroValue9
 t32:=Tryz.underlying204
 a32:=Tryz.isAgg204
 z32:=Tryz.sizeOf204
 v32:=Tryz.zeroValue204
 t35:=Tryz.underlying285
 a35:=Tryz.isAgg285
 z35:=Tryz.sizeOf285
 v35:=Tryz.zeroValue285
 t36:=Tryz.underlying286
 a36:=Tryz.isAgg286
 z36:=Tryz.sizeOf286
 v36:=Tryz.zeroValue286
 t41:=Tryz.underlying291
 a41:=Tryz.isAgg291
 z41:=Tryz.sizeOf291
 v41:=Tryz.zeroValue291
 t44:=Tryz.underlying102
 a44:=Tryz.isAgg102
 z44:=Tryz.sizeOf102
 v44:=Tryz.zeroValue102
 t46:=Tryz.underlying55
 a46:=Tryz.isAgg55
 z46:=Tryz.sizeOf55
 v46:=Tryz.zeroValue55
 t53:=Tryz.underlying347
 a53:=Tryz.isAgg347
 z53:=Tryz.sizeOf347
 v53:=Tryz.zeroValue347
 t57:=Tryz.underlying351
 a57:=Tryz.isAgg351
 z57:=Tryz.sizeOf351
 v57:=Tryz.zeroValue351
 t63:=Tryz.underlying371
 a63:=Tryz.isAgg371
 z63:=Tryz.sizeOf371
 v63:=Tryz.zeroValue371
 t64:=Tryz.underlying123
 a64:=Tryz.isAgg123
 z64:=Tryz.sizeOf123
 v64:=Tryz.zeroValue123
end Go.Proofs
noncomputable section
namespace Go.Proofs.Mo
open Go Go.Ev Go.X
def F34(N:Nat):V (Nat×Nat)->Hp->V (xW×Hp):=λp h=>match p with
 |none=>O ((),h)|some (i,n)=>(bz h.uC i).bind λxs=>(cR (Nat.beq n xs.length&&(Nat.blt 0 n&&Nat.blt n 4611686018427387904))).bind λ_=>O ((),{h with uC:=h.uC.set i (O (kH xs))})
abbrev K34(N:Nat):b7 U:=⟨[.hs IU],[],Y,.st (F34 N)⟩
def G34(N:Nat):Holds 34 (K34 N):=λE I=>hp au (by
 have j:Enters PP 34:=Go.Proofs.enters_of (fn:=f34) au au (c:=f34.body.getD .skip) au;intro p h J r h' A Vloc q g b;obtain⟨a,_,rfl,⟨_,rfl⟩,rfl⟩:=q;match p,b with
 |none,b=>cases b;exact⟨A,Vloc,g,IP j (λA w=>AnyM.slices_Sort_string_none Tryz.Sl A 0 w)⟩
 |some (i,n),b=>
  obtain⟨xs,d,s⟩:=bind_some b;obtain⟨_,e,t⟩:=bind_some s;have e:=dp e;simp only[aI,fQ]at e;obtain⟨u,h0,v⟩:=e;obtain rfl:=bV u;obtain⟨z,B⟩:=th (cr t);subst z B;have m:h.uC[i]?=O (O xs):=by
   unfold bz at d;cases o:h.uC[i]? with
   |none=>rw[o]at d;cases d
   |some y=>rw[o]at d;rw[show y=O xs from d]
  have hi:i<h.uC.length:=(aY.1 m).1;have f:=g.at (T:=TT) (U:=U) (k:=IU) cd rfl (a:=.bi .str 9) (l:=h.uC) rfl i;rw[show(h.uC:Z (wY U.C (.bi .str 9)))[i]?=O (O xs)from m]at f;have f:=DC f;refine⟨aa A (dI IU i) (O (.bi 9 ((kH xs).map (enc TT .str)))),Vloc,eY.kQ SS.L g (k:=IU) cd rfl (a:=.bi .str 9) (l:=h.uC) rfl hi (x:=O (kH xs)) rfl,?_⟩;exact La j (λC cap ss w D G H=>AnyM.slices_Sort_string Tryz.Sl C 0 cap ss w D G H) f h0 v au)
end Go.Proofs.Mo
