import Derived.Test.YtlacgaedkjhfhaaGreatDoorRows
import Derived.Lib.LaidTab
import Derived.Test.YtlacgaedkjhfhaaGreatDoorZC30
set_option linter.all false
open Option renaming some->O,none->Y
open Bool renaming true->W,false->F
open Go.Proofs.Tryz
namespace Go.Proofs.Mo
open Go Go.Ev Go.Proofs.YtlacgaedkjhfhaaGreatDoor
def CP{P:qK}{w:zI}{base:Nat}{b:Nat->tl}{a:Nat}{t:JA}{c:Array (String×JA)}{cs:Z Jz}{H:Type}{enc:JA×Jz->H}{e:String}{d:DataW H}{p:Z MemPlace}(f:P.underlying t=O (.interface c))
  (h:DataW.trod enc P w base b F a t cs=O (.iface e d,p)):∃u v,cs=[.iface u v]:=by
 cases a with
 |zero=>simp[DataW.trod]at h|succ a=>simp only[DataW.trod,f]at h;split at h<;>first|exact ⟨_,_,rfl⟩|(simp at h;done)|simp_all
def JJ:Z (String×DataW xW):=Rows.machineFuelUptoRow.laid
def CQ{a:zI}(h:laidMetH Tryz.prog JJ a):po a/\(EL a).h5 a/\S8 a:=by
 have h':laidMet Tryz.prog JJ a:=h;obtain⟨ps,⟨_,_,_,_,_,_,_,_,_,_,⟨_,_,_,_,_,_,_,_,_,_,⟨D,t0,c0,f0,E,G,a0,b0,d0,e0,⟨H,t2,c2,f2,I,J,a2,b2,d2,e2,⟨K,t1,k,f1,L,q1,r,b1,d1,e1,_⟩,_⟩,_⟩,_⟩,_⟩,_⟩:=h';have k0:Tryz.prog.globalNamed "internal/strconv.uint64pow10" =O 0:=au;have c:Tryz.prog.globalNamed "strconv.ErrSyntax" =O 1:=au;have d:Tryz.prog.globalNamed "strconv.ErrRange" =O 2:=au;have s:(Tryz.prog.globals[0]?).map (·.type)=O 398:=au;have t:(Tryz.prog.globals[1]?).map (·.type)=O 361:=au;have u:(Tryz.prog.globals[2]?).map (·.type)=O 361:=au;obtain rfl:=cr (k0.symm.trans a0);obtain rfl:=cr (c.symm.trans r);obtain rfl:=cr (d.symm.trans a2);obtain rfl:=cr (s.symm.trans b0);obtain rfl:=cr (t.symm.trans b1);obtain rfl:=cr (u.symm.trans b2);have l:Tryz.prog.underlying 361=O (.interface #[("Error",420)]):=au;have z1:Tryz.prog.underlying 398=O (.array 20 55):=au;have z2:Tryz.prog.underlying 55=O (.int .u64):=au;have z3:Tryz.prog.cellsOf 55=1:=au;have z4:Tryz.prog.cellsOf 398=20:=au;have w:c0.toList=Lib.pow10Tab.map λz=>Value.int .u64 z:=Lib.cells_of_tab z1 z2 z3 z4 (by exact e0);obtain⟨e,v1,x⟩:=CP l e1;obtain⟨f,v2,y⟩:=CP l e2;obtain rfl:c0=(Lib.pow10Tab.map λz=>Value.int .u64 z).toArray:=by rw[<-w]
 obtain rfl:k=#[.iface e v1]:=by rw[<-Array.toArray_toList (xs:=k),x]
 obtain rfl:c2=#[.iface f v2]:=by rw[<-Array.toArray_toList (xs:=c2),y]
 have m:=World.var?_cell k0 d0;have i:=World.var?_cell c d1;have j:=World.var?_cell d d2;refine⟨⟨d0,λN A g n=>?_⟩,λb o=>⟨?_,rfl⟩,λp v q hv=>?_⟩
 .rcases A with rfl|rfl
  .obtain rfl:=cr (c.symm.trans n);exact⟨e,v1,i 0⟩
  .obtain rfl:=cr (d.symm.trans n);exact⟨f,v2,j 0⟩
 .simp only[nR,cT,s8,or_false]at o;rcases o with rfl|rfl|rfl
  .exact lF ((m 0).trans rfl)
  .exact lF ((i 0).trans rfl)
  .exact lF ((j 0).trans rfl)
 .obtain ⟨b,off,B⟩:=p;have C:B=Y:=World.cell?_spot hv;subst C;simp only[nR,cT,s8,or_false]at q;rcases q with rfl|rfl|rfl
  .rw[m off,zP,dC,ck]at hv;obtain⟨z,_,rfl⟩:=hv;exact .inl ⟨z,rfl⟩
  .rw[i off]at hv;have:=jP hv;simp at this;exact .inr ⟨e,v1,this⟩
  .rw[j off]at hv;have:=jP hv;simp at this;exact .inr ⟨f,v2,this⟩
end Go.Proofs.Mo
