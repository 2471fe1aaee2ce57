import Derived.Shelf.Strconv.Itoa4
import Derived.Shelf.Strconv.ParseIntPublic10
import Derived.Lib.ParseIntBTie
import Derived.Tactics
import Derived.Tactics2
import Derived.Test.YtlacgaedkjhfhaaGreatDoorZC13
set_option linter.all false
set_option maxRecDepth 100000
open Option renaming some->O,none->Y
open Bool renaming true->W,false->F
open Go.Proofs.Tryz
namespace Go.Proofs
open Go.RowKit Go.Sort Go.Shelf
def Tryz.Lh:Go.Shelf.Ren:=⟨λ|173=>253|246=>269|283=>278|284=>279|285=>280|286=>281|129=>184|317=>291|318=>292|319=>293|320=>294|337=>308|338=>309|n=>n,λ|2=>2|3=>3|9=>9|4=>4|171=>384|0=>0|53=>55|37=>355|5=>5|173=>386|212=>398|51=>102|20=>20|213=>399|46=>204|232=>418|233=>419|n=>n,λ|17=>0|18=>3|19=>4|n=>n⟩
def Tryz.Gz:Go.Proofs.LaysM.n173 Tryz.prog Tryz.Lh where
 mixed:=au
 f129:=Tryz.func184.trans (bH O au)
 f173:=Tryz.func253.trans (bH O au)
 f246:=Tryz.func269.trans (bH O au)
 f283:=Tryz.func278.trans (bH O au)
 f284:=Tryz.func279.trans (bH O au)
 f285:=Tryz.func280.trans (bH O au)
 f286:=Tryz.func281.trans (bH O au)
 f317:=Tryz.func291.trans (bH O au)
 f318:=Tryz.func292.trans (bH O au)
 f319:=Tryz.func293.trans (bH O au)
 f320:=Tryz.func294.trans (bH O au)
 f337:=Tryz.func308.trans (bH O au)
 f338:=Tryz.func309.trans (bH O au)
 t0:=Tryz.underlying0
 a0:=Tryz.isAgg0
 z0:=Tryz.sizeOf0
 v0:=Tryz.zeroValue0
 t2:=Tryz.underlying2
 a2:=Tryz.isAgg2
 z2:=Tryz.sizeOf2
 v2:=Tryz.zeroValue2
 t3:=Tryz.underlying3
 a3:=Tryz.isAgg3
 z3:=Tryz.sizeOf3
 v3:=Tryz.zeroValue3
 t4:=Tryz.underlying4
 a4:=Tryz.isAgg4
 z4:=Tryz.sizeOf4
 v4:=Tryz.zeroValue4
 t5:=Tryz.underlying5
 a5:=Tryz.isAgg5
 z5:=Tryz.sizeOf5
 v5:=Tryz.zeroValue5
 t9:=Tryz.underlying9
 a9:=Tryz.isAgg9
 z9:=Tryz.sizeOf9
 v9:=Tryz.zeroValue9
 t20:=Tryz.underlying20
 a20:=Tryz.isAgg20
 z20:=Tryz.sizeOf20
 v20:=Tryz.zeroValue20
 t37:=Tryz.underlying355
 a37:=Tryz.isAgg355
 z37:=Tryz.sizeOf355
 v37:=Tryz.zeroValue355
 t46:=Tryz.underlying204
 a46:=Tryz.isAgg204
 z46:=Tryz.sizeOf204
 v46:=Tryz.zeroValue204
 t51:=Tryz.underlying102
 a51:=Tryz.isAgg102
 z51:=Tryz.sizeOf102
 v51:=Tryz.zeroValue102
 t53:=Tryz.underlying55
 a53:=Tryz.isAgg55
 z53:=Tryz.sizeOf55
 v53:=Tryz.zeroValue55
 t171:=Tryz.underlying384
 a171:=Tryz.isAgg384
 z171:=Tryz.sizeOf384
 v171:=Tryz.zeroValue384
 t173:=Tryz.underlying386
 a173:=Tryz.isAgg386
 z173:=Tryz.sizeOf386
 v173:=Tryz.zeroValue386
 t212:=Tryz.underlying398
 a212:=Tryz.isAgg398
 z212:=Tryz.sizeOf398
 v212:=Tryz.zeroValue398
 t213:=Tryz.underlying399
 a213:=Tryz.isAgg399
 z213:=Tryz.sizeOf399
 t232:=Tryz.underlying418
 a232:=Tryz.isAgg418
 z232:=Tryz.sizeOf418
 v232:=Tryz.zeroValue418
 t233:=Tryz.underlying419
 a233:=Tryz.isAgg419
 z233:=Tryz.sizeOf419
 v233:=Tryz.zeroValue419
 g17:=au
 g18:=au
 g19:=au
 i0:=au
 i2:=au
 i3:=au
 i4:=au
 i5:=au
 i9:=au
 i20:=au
 i37:=au
 i46:=au
 i51:=au
 i53:=au
 i171:=au
 i173:=au
 i212:=au
 i232:=au
 i233:=au
 m17:=au
 m18:=au
 m19:=au
def Tryz.F1:Go.Shelf.Ren:=⟨λ|174=>254|247=>270|245=>271|287=>282|279=>283|280=>284|281=>285|282=>286|321=>295|322=>296|316=>297|171=>299|205=>298|243=>310|246=>269|283=>278|284=>279|285=>280|286=>281|129=>184|317=>291|318=>292|319=>293|320=>294|337=>308|338=>309|n=>n,λ|9=>9|3=>3|2=>2|75=>361|85=>362|4=>4|167=>388|5=>5|53=>55|175=>389|46=>204|168=>391|37=>355|0=>0|210=>402|21=>21|127=>411|145=>414|143=>412|171=>384|173=>386|212=>398|51=>102|20=>20|213=>399|232=>418|233=>419|80=>420|n=>n,λ|15=>1|16=>2|17=>0|18=>3|19=>4|n=>n⟩
def Tryz.Ce:Go.Proofs.LaysC.n174 Tryz.prog Tryz.F1 where
 mixed:=au
 f129:=Tryz.func184.trans (bH O au)
 f171:=Tryz.func299.trans (bH O au)
 f174:=Tryz.func254.trans (bH O au)
 f205:=Tryz.func298.trans (bH O au)
 f243:=Tryz.func310.trans (bH O au)
 f245:=Tryz.func271.trans (bH O au)
 f246:=Tryz.func269.trans (bH O au)
 f247:=Tryz.func270.trans (bH O au)
 f279:=Tryz.func283.trans (bH O au)
 f280:=Tryz.func284.trans (bH O au)
 f281:=Tryz.func285.trans (bH O au)
 f282:=Tryz.func286.trans (bH O au)
 f283:=Tryz.func278.trans (bH O au)
 f284:=Tryz.func279.trans (bH O au)
 f285:=Tryz.func280.trans (bH O au)
 f286:=Tryz.func281.trans (bH O au)
 f287:=Tryz.func282.trans (bH O au)
 f316:=Tryz.func297.trans (bH O au)
 f317:=Tryz.func291.trans (bH O au)
 f318:=Tryz.func292.trans (bH O au)
 f319:=Tryz.func293.trans (bH O au)
 f320:=Tryz.func294.trans (bH O au)
 f321:=Tryz.func295.trans (bH O au)
 f322:=Tryz.func296.trans (bH O au)
 f337:=Tryz.func308.trans (bH O au)
 f338:=Tryz.func309.trans (bH O au)
 t0:=Tryz.underlying0
 a0:=Tryz.isAgg0
 z0:=Tryz.sizeOf0
 v0:=Tryz.zeroValue0
 t2:=Tryz.underlying2
 a2:=Tryz.isAgg2
 z2:=Tryz.sizeOf2
 v2:=Tryz.zeroValue2
 t3:=Tryz.underlying3
 a3:=Tryz.isAgg3
 z3:=Tryz.sizeOf3
 v3:=Tryz.zeroValue3
 t4:=Tryz.underlying4
 a4:=Tryz.isAgg4
 z4:=Tryz.sizeOf4
 v4:=Tryz.zeroValue4
 t5:=Tryz.underlying5
 a5:=Tryz.isAgg5
 z5:=Tryz.sizeOf5
 v5:=Tryz.zeroValue5
 t9:=Tryz.underlying9
 a9:=Tryz.isAgg9
 z9:=Tryz.sizeOf9
 v9:=Tryz.zeroValue9
 t20:=Tryz.underlying20
 a20:=Tryz.isAgg20
 z20:=Tryz.sizeOf20
 v20:=Tryz.zeroValue20
 t21:=Tryz.underlying21
 a21:=Tryz.isAgg21
 z21:=Tryz.sizeOf21
 v21:=Tryz.zeroValue21
 t37:=Tryz.underlying355
 a37:=Tryz.isAgg355
 z37:=Tryz.sizeOf355
 v37:=Tryz.zeroValue355
 t46:=Tryz.underlying204
 a46:=Tryz.isAgg204
 z46:=Tryz.sizeOf204
 v46:=Tryz.zeroValue204
 t51:=Tryz.underlying102
 a51:=Tryz.isAgg102
 z51:=Tryz.sizeOf102
 v51:=Tryz.zeroValue102
 t53:=Tryz.underlying55
 a53:=Tryz.isAgg55
 z53:=Tryz.sizeOf55
 v53:=Tryz.zeroValue55
 t75:=Tryz.underlying361
 a75:=Tryz.isAgg361
 z75:=Tryz.sizeOf361
 v75:=Tryz.zeroValue361
 t85:=Tryz.underlying362
 a85:=Tryz.isAgg362
 z85:=Tryz.sizeOf362
 v85:=Tryz.zeroValue362
 t127:=Tryz.underlying411
 a127:=Tryz.isAgg411
 z127:=Tryz.sizeOf411
 v127:=Tryz.zeroValue411
 t143:=Tryz.underlying412
 a143:=Tryz.isAgg412
 z143:=Tryz.sizeOf412
 v143:=Tryz.zeroValue412
 t145:=Tryz.underlying414
 a145:=Tryz.isAgg414
 z145:=Tryz.sizeOf414
 v145:=Tryz.zeroValue414
 t167:=Tryz.underlying388
 a167:=Tryz.isAgg388
 z167:=Tryz.sizeOf388
 v167:=Tryz.zeroValue388
 t168:=Tryz.underlying391
 a168:=Tryz.isAgg391
 z168:=Tryz.sizeOf391
 v168:=Tryz.zeroValue391
 t171:=Tryz.underlying384
 a171:=Tryz.isAgg384
 z171:=Tryz.sizeOf384
 v171:=Tryz.zeroValue384
 t173:=Tryz.underlying386
 a173:=Tryz.isAgg386
 z173:=Tryz.sizeOf386
 v173:=Tryz.zeroValue386
 t175:=Tryz.underlying389
 a175:=Tryz.isAgg389
 z175:=Tryz.sizeOf389
 v175:=Tryz.zeroValue389
 t210:=Tryz.underlying402
 a210:=Tryz.isAgg402
 z210:=Tryz.sizeOf402
 v210:=Tryz.zeroValue402
 t212:=Tryz.underlying398
 a212:=Tryz.isAgg398
 z212:=Tryz.sizeOf398
 v212:=Tryz.zeroValue398
 t213:=Tryz.underlying399
 a213:=Tryz.isAgg399
 z213:=Tryz.sizeOf399
 t232:=Tryz.underlying418
 a232:=Tryz.isAgg418
 z232:=Tryz.sizeOf418
 v232:=Tryz.zeroValue418
 t233:=Tryz.underlying419
 a233:=Tryz.isAgg419
 z233:=Tryz.sizeOf419
 v233:=Tryz.zeroValue419
 g15:=au
 g16:=au
 g17:=au
 g18:=au
 g19:=au
 t80:=Tryz.underlying420
 a80:=Tryz.isAgg420
 z80:=Tryz.sizeOf420
 v80:=Tryz.zeroValue420
 i0:=au
 i2:=au
 i3:=au
 i4:=au
 i5:=au
 i9:=au
 i20:=au
 i21:=au
 i37:=au
 i46:=au
 i51:=au
 i53:=au
 i75:=au
 i80:=au
 i85:=au
 i127:=au
 i143:=au
 i145:=au
 i167:=au
 i168:=au
 i171:=au
 i173:=au
 i175:=au
 i210:=au
 i212:=au
 i232:=au
 i233:=au
 m15:=au
 m16:=au
 m17:=au
 m18:=au
 m19:=au
 c0:=au
 c2:=au
 c3:=au
 c4:=au
 c5:=au
 c9:=au
 c20:=au
 c21:=au
 c37:=au
 c46:=au
 c51:=au
 c53:=au
 c75:=au
 c80:=au
 c85:=au
 c127:=au
 c143:=au
 c145:=au
 c167:=au
 c168:=au
 c171:=au
 c173:=au
 c175:=au
 c210:=au
 c212:=au
 c213:=au
 c232:=au
 c233:=au
end Go.Proofs
namespace Go.Proofs.Mo
open Go Go.Ev Go.RowKit Go.Sort
def po.below {w w':zI} (h:po w) (c:RowKit.Below w.heap.size w w'):po w':=by
 obtain⟨a,f⟩:=h;refine⟨?_,λi j g b=>?_⟩
 .unfold Lib.TabIs at a⊢;unfold World.var? at a⊢;cases b:Tryz.prog.globalNamed "internal/strconv.uint64pow10" with
  |none=>rw[b]at a;cases a
  |some g=>
   rw[b]at a;simp only[aM]at a⊢;have k:g<w.heap.size:=by
    cases d:w.heap[g]? with
    |none=>rw[d]at a;cases a
    |some q=>exact (h4.1 d).1
   rw[c.block g k];exact a
 .obtain ⟨l,m,e⟩:=f i j g b;refine⟨l,m,?_⟩;rw[c.cell (p:=⟨g,0,Y⟩) (Lib.lt_of_cell e)];exact e
def IX(w:zI)(k:Nat)(a:Array Obj):RowKit.Below w.heap.size w (grow (w.drewN k) a):=⟨rfl,rfl,rfl,by simp[grow,World.drewN],λi hi=>by show(w.heap++a)[i]?=_;rw[Tr hi]⟩
def Gz(n b:Int)(a:b=10)(h0:-9223372036854775808<=n)(c:n<=9223372036854775807)(w:zI)(d:po w):
  Calls Tryz.prog 253 #[.int .i64 n,.int .i64 b] w λe w'=>e=.returned (.string ⟨(Lib.itoa n).toArray⟩)/\RowKit.Below w.heap.size w w':=by
 subst a;refine(Any.strconv_FormatInt_10 Tryz.Gz n h0 c w d.1).mono ?_;rintro e w' ⟨rfl,k,f,rfl⟩;exact⟨rfl,IX w k f⟩
def mM(l:Z NT):Int×Int:=if 20<l.length then(0,2)else match Lib.parseIntB 64 l with
 |.ok v=>if Lib.itoa v=l then(v,0)else(0,2)|_=>(0,2)
def toL(s:ByteArray):s.toList=s.data.toList:=Px s
def OG{l:Z NT}(h:20<l.length):mM l=(0,2):=by rw[mM,aj h]
def Ur{l:Z NT}{v:Int}(h0:¬20<l.length)(h:Lib.parseIntB 64 l=.ok v)(a:Lib.itoa v=l):mM l=(v,0):=by unfold mM;rw[ai h0,h];simp only[aj a]
def Us{l:Z NT}{v:Int}(h0:¬20<l.length)(h:Lib.parseIntB 64 l=.ok v)(a:¬Lib.itoa v=l):mM l=(0,2):=by unfold mM;rw[ai h0,h];simp only[ai a]
def Rz{l:Z NT}(h:∀v,Lib.parseIntB 64 l≠.ok v):mM l=(0,2):=by
 unfold mM;split
 .rfl
 .split
  .rename_i v hv;exact (h v hv).elim
  .rfl
def szL(s:ByteArray):s.data.toList.length=s.size:=nP
set_option maxHeartbeats 2000000 in
theorem OH(s:ByteArray)(i:s.size<=281474976710656)(w:zI)(f:po w)(v:Int)(h:Lib.parseIntB 64 s.data.toList=.ok v):
  Calls Tryz.prog 219 #[.string s] w λe w'=>e=.returned (.tuple #[.int .i64 (mM s.data.toList).1,.int .i64 (mM s.data.toList).2])/\RowKit.Below w.heap.size w w':=by
 have hv:=Lib.parseIntB_bounds h;have g:∀w,Calls Tryz.prog 254 #[.string s,.int .i64 10,.int .i64 64] w λe w'=>e=.returned (.tuple #[.int .i64 v,.nilIface])/\RowKit.Below w.heap.size w w':=λw=>(Any.strconv_ParseInt_10_at64_ok Tryz.Ce s M v h w).mono (by
  rintro e w' ⟨rfl,rfl|⟨t,rfl⟩⟩
  .exact ⟨rfl,RowKit.Below.refl _ _⟩
  .exact ⟨rfl,Lib.bytesWorld_below _ _ _⟩)
 go_enter Tryz.func219,Tryz.ntmps219
 go_wp2_with (first
  |(go_at_call 254;refine (g _).mono ?_;rintro e j ⟨rfl,a⟩)
  |(go_at_call 253;refine (Gz v 10 rfl M M _ (f.below a)).mono ?_;rintro e k ⟨rfl,c⟩)
  |go_in)
 .rename_i d
  go_ret2
  exact⟨by rw[OG (by rw[szL];omega)];rfl,RowKit.Below.refl _ _⟩
 .rename_i b;have d:(s.size:Int)<=20:=by assumption
  go_ret2
  refine⟨?_,a.trans (c.mono a.size)⟩;have:¬Lib.itoa v=s.data.toList:=by simpa[toL]using b
  rw[Us (by rw[szL];omega) h this];rfl
 .rename_i b;have d:(s.size:Int)<=20:=by assumption
  go_ret2
  refine⟨?_,a.trans (c.mono a.size)⟩;have:Lib.itoa v=s.data.toList:=by simpa[toL]using b
  rw[Ur (by rw[szL];omega) h this];rfl
set_option maxHeartbeats 2000000 in
theorem Cf(s:ByteArray)(w:zI)(h:∀v,Lib.parseIntB 64 s.data.toList≠.ok v)
  (c:Calls Tryz.prog 254 #[.string s,.int .i64 10,.int .i64 64] w λe w'=>(∃x a b,e=.returned (.tuple #[.int .i64 x,.iface a b]))/\RowKit.Below w.heap.size w w'):
  Calls Tryz.prog 219 #[.string s] w λe w'=>e=.returned (.tuple #[.int .i64 (mM s.data.toList).1,.int .i64 (mM s.data.toList).2])/\RowKit.Below w.heap.size w w':=by
 rw[Rz h]
 go_enter Tryz.func219,Tryz.ntmps219
 go_wp2_with (first
  |(go_at_call 254;refine c.mono ?_;rintro e f ⟨⟨x,a,b,rfl⟩,d⟩)
  |go_in)
 .go_ret2
  exact⟨rfl,RowKit.Below.refl _ _⟩
 .go_ret2
  exact⟨rfl,d⟩
def XV(s:ByteArray)(a:s.size<=281474976710656)(w:zI)(b:po w):
  Calls Tryz.prog 219 #[.string s] w λe w'=>e=.returned (.tuple #[.int .i64 (mM s.data.toList).1,.int .i64 (mM s.data.toList).2])/\RowKit.Below w.heap.size w w':=by
 cases h:Lib.parseIntB 64 s.data.toList with
 |ok v=>exact OH s a w b v h|range=>obtain⟨c,d,f⟩:=b.2 "strconv.ErrRange" (.inr rfl) _ (show Tryz.prog.globalNamed "strconv.ErrRange" =O (Tryz.F1.g 16) by kernel_rfl);exact Cf s w (λv e=>by rw[h]at e;cases e) ((Any.strconv_ParseInt_10_at64_range Tryz.Ce s a h _ w f (.inr ⟨c,d,rfl⟩)).mono λe w' ⟨N,q1,_,_,g⟩=>⟨⟨_,_,_,q1⟩,g⟩)
 |_=>obtain⟨c,d,f⟩:=b.2 "strconv.ErrSyntax" (.inl rfl) _ (show Tryz.prog.globalNamed "strconv.ErrSyntax" =O (Tryz.F1.g 15) by kernel_rfl);exact Cf s w (λv e=>by rw[h]at e;cases e) ((Any.strconv_ParseInt_10_at64_syntax Tryz.Ce s a h _ w f (.inr ⟨c,d,rfl⟩)).mono λe w' ⟨N,q1,_,_,g⟩=>⟨⟨_,_,_,q1⟩,g⟩)
end Go.Proofs.Mo
