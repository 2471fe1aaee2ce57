import Derived.Shelf.SortM.Plain
import Derived.Shelf.SortM.SortNone
import Derived.Shelf.SlGeneric
import Derived.Ground.SlgmProg
import Derived.Test.YtedadjfbbpjaiaaGreatZ19
set_option linter.all false
set_option maxRecDepth 20000
namespace Go.Proofs
open Go.RowKit Go.Sort Go.Shelf
def Tryz.NY:Go.Shelf.Ren:=⟨λ|6=>37|8=>95|9=>94|19=>165|20=>166|21=>156|22=>157|23=>158|24=>159|25=>160|26=>161|27=>162|28=>163|29=>164|36=>193|31=>194|32=>195|37=>196|38=>197|39=>198|41=>210|n=>n,λ|27=>43|29=>9|3=>3|32=>185|26=>43|0=>0|44=>87|46=>256|4=>4|36=>249|35=>248|41=>200|5=>5|9=>9|53=>282|57=>286|63=>298|64=>108|n=>n,λn=>n⟩
theorem Tryz.Vr:SlLaysM.n6 Tryz.prog Tryz.NY where
 mixed:=by kernel_rfl
 f6:=⟨Tryz.f37.name,by decide,Tryz.func37.trans (dK some (by kernel_rfl))⟩
 f8:=Tryz.func95.trans (dK some (by kernel_rfl))
 f9:=⟨Tryz.f94.name,by decide,Tryz.func94.trans (dK some (by kernel_rfl))⟩
 f19:=Tryz.func165.trans (dK some (by kernel_rfl))
 f20:=Tryz.func166.trans (dK some (by kernel_rfl))
 f21:=⟨Tryz.f156.name,by decide,Tryz.func156.trans (dK some (by kernel_rfl))⟩
 f22:=⟨Tryz.f157.name,by decide,Tryz.func157.trans (dK some (by kernel_rfl))⟩
 f23:=⟨Tryz.f158.name,by decide,Tryz.func158.trans (dK some (by kernel_rfl))⟩
 f24:=⟨Tryz.f159.name,by decide,Tryz.func159.trans (dK some (by kernel_rfl))⟩
 f25:=⟨Tryz.f160.name,by decide,Tryz.func160.trans (dK some (by kernel_rfl))⟩
 f26:=⟨Tryz.f161.name,by decide,Tryz.func161.trans (dK some (by kernel_rfl))⟩
 f27:=⟨Tryz.f162.name,by decide,Tryz.func162.trans (dK some (by kernel_rfl))⟩
 f28:=⟨Tryz.f163.name,by decide,Tryz.func163.trans (dK some (by kernel_rfl))⟩
 f29:=⟨Tryz.f164.name,by decide,Tryz.func164.trans (dK some (by kernel_rfl))⟩
 f31:=Tryz.func194.trans (dK some (by kernel_rfl))
 f32:=Tryz.func195.trans (dK some (by kernel_rfl))
 f36:=⟨Tryz.f193.name,by decide,Tryz.func193.trans (dK some (by kernel_rfl))⟩
 f37:=⟨Tryz.f196.name,by decide,Tryz.func196.trans (dK some (by kernel_rfl))⟩
 f38:=⟨Tryz.f197.name,by decide,Tryz.func197.trans (dK some (by kernel_rfl))⟩
 f39:=⟨Tryz.f198.name,by decide,Tryz.func198.trans (dK some (by kernel_rfl))⟩
 f41:=⟨Tryz.f210.name,by decide,Tryz.func210.trans (dK some (by kernel_rfl))⟩
 t0:=Tryz.underlying0
 a0:=Tryz.isAgg0
 z0:=Tryz.sizeOf0
 v0:=Tryz.zeroValue0
 t3:=Tryz.underlying3
 a3:=Tryz.isAgg3
 z3:=Tryz.sizeOf3
 v3:=Tryz.zeroValue3
 t4:=Tryz.underlying4
 a4:=Tryz.isAgg4
 z4:=Tryz.sizeOf4
 v4:=Tryz.zeroValue4
 t5:=Tryz.underlying5
 a5:=Tryz.isAgg5
 z5:=Tryz.sizeOf5
 v5:=Tryz.zeroValue5
 t9:=Tryz.underlying9
 a9:=Tryz.isAgg9
 z9:=Tryz.sizeOf9
 v9:=Tryz.zeroValue9
 t26:=Tryz.underlying43
 a26:=Tryz.isAgg43
 z26:=Tryz.sizeOf43
 v26:=Tryz.zeroValue43
 t27:=Tryz.underlying43
 a27:=Tryz.isAgg43
 z27:=Tryz.sizeOf43
 v27:=Tryz.zeroValue43
 t29:=Tryz.underlying9
 a29:=Tryz.isAgg9
 z29:=Tryz.sizeOf9
 v29:=Tryz.zeroValue9
 t32:=Tryz.underlying185
 a32:=Tryz.isAgg185
 z32:=Tryz.sizeOf185
 v32:=Tryz.zeroValue185
 t35:=Tryz.underlying248
 a35:=Tryz.isAgg248
 z35:=Tryz.sizeOf248
 v35:=Tryz.zeroValue248
 t36:=Tryz.underlying249
 a36:=Tryz.isAgg249
 z36:=Tryz.sizeOf249
 v36:=Tryz.zeroValue249
 t41:=Tryz.underlying200
 a41:=Tryz.isAgg200
 z41:=Tryz.sizeOf200
 v41:=Tryz.zeroValue200
 t44:=Tryz.underlying87
 a44:=Tryz.isAgg87
 z44:=Tryz.sizeOf87
 v44:=Tryz.zeroValue87
 t46:=Tryz.underlying256
 a46:=Tryz.isAgg256
 z46:=Tryz.sizeOf256
 v46:=Tryz.zeroValue256
 t53:=Tryz.underlying282
 a53:=Tryz.isAgg282
 z53:=Tryz.sizeOf282
 v53:=Tryz.zeroValue282
 t57:=Tryz.underlying286
 a57:=Tryz.isAgg286
 z57:=Tryz.sizeOf286
 v57:=Tryz.zeroValue286
 t63:=Tryz.underlying298
 a63:=Tryz.isAgg298
 z63:=Tryz.sizeOf298
 v63:=Tryz.zeroValue298
 t64:=Tryz.underlying108
 a64:=Tryz.isAgg108
 z64:=Tryz.sizeOf108
 v64:=Tryz.zeroValue108
end Go.Proofs
noncomputable section
namespace Go.Proofs.Mo
open Go Go.Ev Go.X
def F37(N:Nat):Option (Nat×Nat)->Hp->Option (Unit×Hp):=λp h=>match p with
 |none=>some ((),h)|some (i,n)=>(fk h.Af i).bind λxs=>(db (Nat.beq n xs.length&&(Nat.blt 0 n&&Nat.blt n 4611686018427387904))).bind λ_=>some ((),{h with Af:=h.Af.set i (some (iC xs))})
abbrev K37(N:Nat):ca U:=⟨[.hs 4],[],none,.st (F37 N)⟩
theorem G37(N:Nat):Holds 37 (K37 N):=λE hE=>jD (by kernel_rfl) (by
 have RJ:Enters PP 37:=Go.Proofs.enters_of (fn:=Tryz.f37) (by kernel_rfl) (by kernel_rfl) (c:=Tryz.f37.body.getD .skip) (by kernel_rfl);intro p h aX r h' A V dg hH hr;obtain⟨a,_,rfl,⟨_,rfl⟩,rfl⟩:=dg;match p,hr with
 |none,hr=>cases hr;exact⟨A,V,hH,Ls RJ (λA w=>AnyM.slices_Sort_string_none Tryz.Vr A 0 w)⟩
 |some (i,n),hr=>
  obtain⟨xs,iY,HV⟩:=bind_some hr;obtain⟨_,hc,J5⟩:=bind_some HV;have hc:=dx hc;simp only[aD,gE]at hc;obtain⟨hn,h0,eK⟩:=hc;obtain rfl:=bM hn;obtain⟨e1,e2⟩:=py (dc J5);subst e1 e2;have tu:h.Af[i]?=some (some xs):=by
   unfold fk at iY;cases hl:h.Af[i]? with
   |none=>rw[hl]at iY;cases iY
   |some y=>rw[hl]at iY;rw[show y=some xs from iY]
  have hi:i<h.Af.length:=(aV.1 tu).1;have hA:=hH.at (T:=TT) (U:=U) (k:=4) (by decide) rfl (a:=.aT .str 9) (l:=h.Af) rfl i;rw[show(h.Af:List (zu U.C (.aT .str 9)))[i]?=some (some xs)from tu]at hA;have hA:=FL hA;refine⟨bF A (dk 4 i) (some (.aT 9 ((iC xs).map (enc TT .str)))),V,fa.xZ SS.L hH (k:=4) (by decide) rfl (a:=.aT .str 9) (l:=h.Af) rfl hi (x:=some (iC xs)) rfl,?_⟩;exact NS RJ (λoQ cap ss w h1 h2 h3=>AnyM.slices_Sort_string Tryz.Vr oQ 0 cap ss w h1 h2 h3) hA h0 eK (by kernel_rfl))
end Go.Proofs.Mo
