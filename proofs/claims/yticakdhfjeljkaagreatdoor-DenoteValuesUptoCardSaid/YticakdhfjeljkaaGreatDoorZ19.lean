import Derived.Shelf.SortM.Plain
import Derived.Shelf.SortM.SortNone
import Derived.Shelf.SlGeneric
import Derived.Ground.SlgmProg
import Derived.Test.YticakdhfjeljkaaGreatDoorZ18
set_option linter.all false
set_option maxRecDepth 20000
open Option renaming some->O,none->Y
open Bool renaming true->W,false->F
open Go.Proofs.Tryz
namespace Go.Proofs
open Go.RowKit Go.Sort Go.Shelf
def Tryz.M9:Go.Shelf.Ren:=⟨λ|6=>33|8=>98|9=>97|19=>191|20=>192|21=>182|22=>183|23=>184|24=>185|25=>186|26=>187|27=>188|28=>189|29=>190|36=>225|31=>226|32=>227|37=>228|38=>229|39=>230|41=>252|n=>n,λ|27=>49|29=>9|3=>3|32=>198|26=>49|0=>0|44=>96|46=>287|4=>4|36=>280|35=>279|41=>210|5=>5|9=>9|53=>324|57=>328|63=>350|64=>117|n=>n,λn=>n⟩
def Tryz.Ub:Go.Proofs.SlLaysM.n6 Tryz.prog Tryz.M9 where
 mixed:=ap
 f6:=⟨"slices.Sort[[]string,string]",b9,Tryz.func33.trans (bN O ap)⟩
 f8:=Tryz.func98.trans (bN O ap)
 f9:=⟨"slices.pdqsortOrdered[string]",b9,Tryz.func97.trans (bN O ap)⟩
 f19:=Tryz.func191.trans (bN O ap)
 f20:=Tryz.func192.trans (bN O ap)
 f21:=⟨"slices.insertionSortOrdered[string]",b9,Tryz.func182.trans (bN O ap)⟩
 f22:=⟨"slices.heapSortOrdered[string]",b9,Tryz.func183.trans (bN O ap)⟩
 f23:=⟨"slices.breakPatternsOrdered[string]",b9,Tryz.func184.trans (bN O ap)⟩
 f24:=⟨"slices.choosePivotOrdered[string]",b9,Tryz.func185.trans (bN O ap)⟩
 f25:=⟨"slices.reverseRangeOrdered[string]",b9,Tryz.func186.trans (bN O ap)⟩
 f26:=⟨"slices.partialInsertionSortOrdered[string]",b9,Tryz.func187.trans (bN O ap)⟩
 f27:=⟨"cmp.Less[string]",b9,Tryz.func188.trans (bN O ap)⟩
 f28:=⟨"slices.partitionEqualOrdered[string]",b9,Tryz.func189.trans (bN O ap)⟩
 f29:=⟨"slices.partitionOrdered[string]",b9,Tryz.func190.trans (bN O ap)⟩
 f31:=Tryz.func226.trans (bN O ap)
 f32:=Tryz.func227.trans (bN O ap)
 f36:=⟨"slices.siftDownOrdered[string]",b9,Tryz.func225.trans (bN O ap)⟩
 f37:=⟨"slices.medianAdjacentOrdered[string]",b9,Tryz.func228.trans (bN O ap)⟩
 f38:=⟨"slices.medianOrdered[string]",b9,Tryz.func229.trans (bN O ap)⟩
 f39:=⟨"cmp.isNaN[string]",b9,Tryz.func230.trans (bN O ap)⟩
 f41:=⟨"slices.order2Ordered[string]",b9,Tryz.func252.trans (bN O ap)⟩
 t0:=Tryz.underlying0
 a0:=Tryz.isAgg0
 z0:=Tryz.sizeOf0
 v0:=Tryz.zeroValue0
 t3:=Tryz.underlying3
 a3:=Tryz.isAgg3
 z3:=Tryz.sizeOf3
 v3:=Tryz.zeroValue3
 t4:=Tryz.underlying4
 a4:=Tryz.isAgg4
 z4:=Tryz.sizeOf4
 v4:=Tryz.zeroValue4
 t5:=Tryz.underlying5
 a5:=Tryz.isAgg5
 z5:=Tryz.sizeOf5
 v5:=Tryz.zeroValue5
 t9:=Tryz.underlying9
 a9:=Tryz.isAgg9
 z9:=Tryz.sizeOf9
 v9:=Tryz.zeroValue9
 t26:=Tryz.underlying49
 a26:=Tryz.isAgg49
 z26:=Tryz.sizeOf49
 v26:=Tryz.zeroValue49
 t27:=Tryz.underlying49
 a27:=Tryz.isAgg49
 z27:=Tryz.sizeOf49
 v27:=Tryz.zeroValue49
 t29:=Tryz.underlying9
 a29:=Tryz.isAgg9
 z29:=Tryz.sizeOf9
 v29:=Tryz.zeroValue9
 t32:=Tryz.underlying198
 a32:=Tryz.isAgg198
 z32:=Tryz.sizeOf198
 v32:=Tryz.zeroValue198
 t35:=Tryz.underlying279
 a35:=Tryz.isAgg279
 z35:=Tryz.sizeOf279
 v35:=Tryz.zeroValue279
 t36:=Tryz.underlying280
 a36:=Tryz.isAgg280
 z36:=Tryz.sizeOf280
 v36:=Tryz.zeroValue280
 t41:=Tryz.underlying210
 a41:=Tryz.isAgg210
 z41:=Tryz.sizeOf210
 v41:=Tryz.zeroValue210
 t44:=Tryz.underlying96
 a44:=Tryz.isAgg96
 z44:=Tryz.sizeOf96
 v44:=Tryz.zeroValue96
 t46:=Tryz.underlying287
 a46:=Tryz.isAgg287
 z46:=Tryz.sizeOf287
 v46:=Tryz.zeroValue287
 t53:=Tryz.underlying324
 a53:=Tryz.isAgg324
 z53:=Tryz.sizeOf324
 v53:=Tryz.zeroValue324
 t57:=Tryz.underlying328
 a57:=Tryz.isAgg328
 z57:=Tryz.sizeOf328
 v57:=Tryz.zeroValue328
 t63:=Tryz.underlying350
 a63:=Tryz.isAgg350
 z63:=Tryz.sizeOf350
 v63:=Tryz.zeroValue350
 t64:=Tryz.underlying117
 a64:=Tryz.isAgg117
 z64:=Tryz.sizeOf117
 v64:=Tryz.zeroValue117
end Go.Proofs
noncomputable section
namespace Go.Proofs.Mo
open Go Go.Ev Go.X
def F33(N:Nat):V (Nat×Nat)->Hp->V (ab×Hp):=λp h=>match p with
 |none=>O ((),h)|some (i,n)=>(e8 h.vx i).bind λxs=>(dv (Nat.beq n xs.length&&(Nat.blt 0 n&&Nat.blt n 4611686018427387904))).bind λ_=>O ((),{h with vx:=h.vx.set i (O (ln xs))})
abbrev K33(N:Nat):bZ U:=⟨[.hs Kw],[],Y,.st (F33 N)⟩
def G33(N:Nat):Holds 33 (K33 N):=λE I=>gI ap (by
 have j:Enters PP 33:=Go.Proofs.enters_of (fn:=f33) ap ap (c:=f33.body.getD .skip) ap;intro p h J r K A Vloc q g b;obtain⟨a,_,rfl,⟨_,rfl⟩,rfl⟩:=q;match p,b with
 |none,b=>cases b;exact⟨A,Vloc,g,Kt j (λA w=>AnyM.slices_Sort_string_none Tryz.Ub A 0 w)⟩
 |some (i,n),b=>
  obtain⟨xs,d,s⟩:=bind_some b;obtain⟨_,e,t⟩:=bind_some s;have e:=dy e;simp only[aP,jq]at e;obtain⟨u,h0,v⟩:=e;obtain rfl:=cC u;obtain⟨z,B⟩:=pz (cJ t);subst z B;have m:h.vx[i]?=O (O xs):=by
   unfold e8 at d;cases o:h.vx[i]? with
   |none=>rw[o]at d;cases d
   |some y=>rw[o]at d;rw[show y=O xs from d]
  have hi:i<h.vx.length:=(cr.1 m).1;have f:=g.at (T:=TT) (U:=U) (k:=Kw) b9 rfl (a:=.br .str 9) (l:=h.vx) rfl i;rw[show(h.vx:Z (xT U.C (.br .str 9)))[i]?=O (O xs)from m]at f;have f:=EZ f;refine⟨b8 A (dY Kw i) (O (.br 9 ((ln xs).map (enc TT .str)))),Vloc,fB.pF SS.L g (k:=Kw) b9 rfl (a:=.br .str 9) (l:=h.vx) rfl hi (x:=O (ln xs)) rfl,?_⟩;exact MU j (λC cap ss w D G H=>AnyM.slices_Sort_string Tryz.Ub C 0 cap ss w D G H) f h0 v ap)
end Go.Proofs.Mo
