import Derived.Shelf.Strconv.Itoa4
import Derived.Shelf.Strconv.ParseIntPublic10
import Derived.Lib.ParseIntBTie
import Derived.Test.YticakdhfjeljkaaGreatDoorZ13
set_option linter.all false
set_option maxRecDepth 100000
open Option renaming some->O,none->Y
open Bool renaming true->W,false->F
open Go.Proofs.Tryz
namespace Go.Proofs
open Go.RowKit Go.Sort Go.Shelf
def Tryz.MZ:Go.Shelf.Ren:=⟨λ|173=>206|246=>243|283=>261|284=>262|285=>263|286=>264|129=>192|317=>277|318=>278|319=>279|320=>280|337=>294|338=>295|n=>n,λ|2=>2|3=>3|9=>9|4=>4|171=>360|0=>0|53=>287|37=>295|5=>5|173=>362|212=>377|51=>96|20=>20|213=>378|46=>198|232=>395|233=>396|n=>n,λ|17=>1|18=>4|19=>5|n=>n⟩
theorem Tryz.Ii:Go.Proofs.LaysM.n173 Tryz.prog Tryz.MZ where
 mixed:=ap
 f129:=Tryz.func192.trans (bN O ap)
 f173:=Tryz.func206.trans (bN O ap)
 f246:=Tryz.func243.trans (bN O ap)
 f283:=Tryz.func261.trans (bN O ap)
 f284:=Tryz.func262.trans (bN O ap)
 f285:=Tryz.func263.trans (bN O ap)
 f286:=Tryz.func264.trans (bN O ap)
 f317:=Tryz.func277.trans (bN O ap)
 f318:=Tryz.func278.trans (bN O ap)
 f319:=Tryz.func279.trans (bN O ap)
 f320:=Tryz.func280.trans (bN O ap)
 f337:=Tryz.func294.trans (bN O ap)
 f338:=Tryz.func295.trans (bN O ap)
 t0:=Tryz.underlying0
 a0:=Tryz.isAgg0
 z0:=Tryz.sizeOf0
 v0:=Tryz.zeroValue0
 t2:=Tryz.underlying2
 a2:=Tryz.isAgg2
 z2:=Tryz.sizeOf2
 v2:=Tryz.zeroValue2
 t3:=Tryz.underlying3
 a3:=Tryz.isAgg3
 z3:=Tryz.sizeOf3
 v3:=Tryz.zeroValue3
 t4:=Tryz.underlying4
 a4:=Tryz.isAgg4
 z4:=Tryz.sizeOf4
 v4:=Tryz.zeroValue4
 t5:=Tryz.underlying5
 a5:=Tryz.isAgg5
 z5:=Tryz.sizeOf5
 v5:=Tryz.zeroValue5
 t9:=Tryz.underlying9
 a9:=Tryz.isAgg9
 z9:=Tryz.sizeOf9
 v9:=Tryz.zeroValue9
 t20:=Tryz.underlying20
 a20:=Tryz.isAgg20
 z20:=Tryz.sizeOf20
 v20:=Tryz.zeroValue20
 t37:=Tryz.underlying295
 a37:=Tryz.isAgg295
 z37:=Tryz.sizeOf295
 v37:=Tryz.zeroValue295
 t46:=Tryz.underlying198
 a46:=Tryz.isAgg198
 z46:=Tryz.sizeOf198
 v46:=Tryz.zeroValue198
 t51:=Tryz.underlying96
 a51:=Tryz.isAgg96
 z51:=Tryz.sizeOf96
 v51:=Tryz.zeroValue96
 t53:=Tryz.underlying287
 a53:=Tryz.isAgg287
 z53:=Tryz.sizeOf287
 v53:=Tryz.zeroValue287
 t171:=Tryz.underlying360
 a171:=Tryz.isAgg360
 z171:=Tryz.sizeOf360
 v171:=Tryz.zeroValue360
 t173:=Tryz.underlying362
 a173:=Tryz.isAgg362
 z173:=Tryz.sizeOf362
 v173:=Tryz.zeroValue362
 t212:=Tryz.underlying377
 a212:=Tryz.isAgg377
 z212:=Tryz.sizeOf377
 v212:=Tryz.zeroValue377
 t213:=Tryz.underlying378
 a213:=Tryz.isAgg378
 z213:=Tryz.sizeOf378
 t232:=Tryz.underlying395
 a232:=Tryz.isAgg395
 z232:=Tryz.sizeOf395
 v232:=Tryz.zeroValue395
 t233:=Tryz.underlying396
 a233:=Tryz.isAgg396
 z233:=Tryz.sizeOf396
 v233:=Tryz.zeroValue396
 g17:=ap
 g18:=ap
 g19:=ap
 i0:=ap
 i2:=ap
 i3:=ap
 i4:=ap
 i5:=ap
 i9:=ap
 i20:=ap
 i37:=ap
 i46:=ap
 i51:=ap
 i53:=ap
 i171:=ap
 i173:=ap
 i212:=ap
 i232:=ap
 i233:=ap
 m17:=ap
 m18:=ap
 m19:=ap
def Tryz.qV:Go.Shelf.Ren:=⟨λ|174=>207|247=>244|245=>245|287=>265|279=>266|280=>267|281=>268|282=>269|321=>281|322=>282|316=>283|171=>285|205=>284|243=>296|246=>243|283=>261|284=>262|285=>263|286=>264|129=>192|317=>277|318=>278|319=>279|320=>280|337=>294|338=>295|n=>n,λ|9=>9|3=>3|2=>2|75=>306|85=>307|4=>4|167=>364|5=>5|53=>287|175=>365|46=>198|168=>367|37=>295|0=>0|210=>381|21=>21|127=>354|145=>391|143=>389|171=>360|173=>362|212=>377|51=>96|20=>20|213=>378|232=>395|233=>396|80=>339|n=>n,λ|15=>2|16=>3|17=>1|18=>4|19=>5|n=>n⟩
theorem Tryz.Dq:Go.Proofs.LaysC.n174 Tryz.prog Tryz.qV where
 mixed:=ap
 f129:=Tryz.func192.trans (bN O ap)
 f171:=Tryz.func285.trans (bN O ap)
 f174:=Tryz.func207.trans (bN O ap)
 f205:=Tryz.func284.trans (bN O ap)
 f243:=Tryz.func296.trans (bN O ap)
 f245:=Tryz.func245.trans (bN O ap)
 f246:=Tryz.func243.trans (bN O ap)
 f247:=Tryz.func244.trans (bN O ap)
 f279:=Tryz.func266.trans (bN O ap)
 f280:=Tryz.func267.trans (bN O ap)
 f281:=Tryz.func268.trans (bN O ap)
 f282:=Tryz.func269.trans (bN O ap)
 f283:=Tryz.func261.trans (bN O ap)
 f284:=Tryz.func262.trans (bN O ap)
 f285:=Tryz.func263.trans (bN O ap)
 f286:=Tryz.func264.trans (bN O ap)
 f287:=Tryz.func265.trans (bN O ap)
 f316:=Tryz.func283.trans (bN O ap)
 f317:=Tryz.func277.trans (bN O ap)
 f318:=Tryz.func278.trans (bN O ap)
 f319:=Tryz.func279.trans (bN O ap)
 f320:=Tryz.func280.trans (bN O ap)
 f321:=Tryz.func281.trans (bN O ap)
 f322:=Tryz.func282.trans (bN O ap)
 f337:=Tryz.func294.trans (bN O ap)
 f338:=Tryz.func295.trans (bN O ap)
 t0:=Tryz.underlying0
 a0:=Tryz.isAgg0
 z0:=Tryz.sizeOf0
 v0:=Tryz.zeroValue0
 t2:=Tryz.underlying2
 a2:=Tryz.isAgg2
 z2:=Tryz.sizeOf2
 v2:=Tryz.zeroValue2
 t3:=Tryz.underlying3
 a3:=Tryz.isAgg3
 z3:=Tryz.sizeOf3
 v3:=Tryz.zeroValue3
 t4:=Tryz.underlying4
 a4:=Tryz.isAgg4
 z4:=Tryz.sizeOf4
 v4:=Tryz.zeroValue4
 t5:=Tryz.underlying5
 a5:=Tryz.isAgg5
 z5:=Tryz.sizeOf5
 v5:=Tryz.zeroValue5
 t9:=Tryz.underlying9
 a9:=Tryz.isAgg9
 z9:=Tryz.sizeOf9
 v9:=Tryz.zeroValue9
 t20:=Tryz.underlying20
 a20:=Tryz.isAgg20
 z20:=Tryz.sizeOf20
 v20:=Tryz.zeroValue20
 t21:=Tryz.underlying21
 a21:=Tryz.isAgg21
 z21:=Tryz.sizeOf21
 v21:=Tryz.zeroValue21
 t37:=Tryz.underlying295
 a37:=Tryz.isAgg295
 z37:=Tryz.sizeOf295
 v37:=Tryz.zeroValue295
 t46:=Tryz.underlying198
 a46:=Tryz.isAgg198
 z46:=Tryz.sizeOf198
 v46:=Tryz.zeroValue198
 t51:=Tryz.underlying96
 a51:=Tryz.isAgg96
 z51:=Tryz.sizeOf96
 v51:=Tryz.zeroValue96
 t53:=Tryz.underlying287
 a53:=Tryz.isAgg287
 z53:=Tryz.sizeOf287
 v53:=Tryz.zeroValue287
 t75:=Tryz.underlying306
 a75:=Tryz.isAgg306
 z75:=Tryz.sizeOf306
 v75:=Tryz.zeroValue306
 t85:=Tryz.underlying307
 a85:=Tryz.isAgg307
 z85:=Tryz.sizeOf307
 v85:=Tryz.zeroValue307
 t127:=Tryz.underlying354
 a127:=Tryz.isAgg354
 z127:=Tryz.sizeOf354
 v127:=Tryz.zeroValue354
 t143:=Tryz.underlying389
 a143:=Tryz.isAgg389
 z143:=Tryz.sizeOf389
 v143:=Tryz.zeroValue389
 t145:=Tryz.underlying391
 a145:=Tryz.isAgg391
 z145:=Tryz.sizeOf391
 v145:=Tryz.zeroValue391
 t167:=Tryz.underlying364
 a167:=Tryz.isAgg364
 z167:=Tryz.sizeOf364
 v167:=Tryz.zeroValue364
 t168:=Tryz.underlying367
 a168:=Tryz.isAgg367
 z168:=Tryz.sizeOf367
 v168:=Tryz.zeroValue367
 t171:=Tryz.underlying360
 a171:=Tryz.isAgg360
 z171:=Tryz.sizeOf360
 v171:=Tryz.zeroValue360
 t173:=Tryz.underlying362
 a173:=Tryz.isAgg362
 z173:=Tryz.sizeOf362
 v173:=Tryz.zeroValue362
 t175:=Tryz.underlying365
 a175:=Tryz.isAgg365
 z175:=Tryz.sizeOf365
 v175:=Tryz.zeroValue365
 t210:=Tryz.underlying381
 a210:=Tryz.isAgg381
 z210:=Tryz.sizeOf381
 v210:=Tryz.zeroValue381
 t212:=Tryz.underlying377
 a212:=Tryz.isAgg377
 z212:=Tryz.sizeOf377
 v212:=Tryz.zeroValue377
 t213:=Tryz.underlying378
 a213:=Tryz.isAgg378
 z213:=Tryz.sizeOf378
 t232:=Tryz.underlying395
 a232:=Tryz.isAgg395
 z232:=Tryz.sizeOf395
 v232:=Tryz.zeroValue395
 t233:=Tryz.underlying396
 a233:=Tryz.isAgg396
 z233:=Tryz.sizeOf396
 v233:=Tryz.zeroValue396
 g15:=ap
 g16:=ap
 g17:=ap
 g18:=ap
 g19:=ap
 t80:=Tryz.underlying339
 a80:=Tryz.isAgg339
 z80:=Tryz.sizeOf339
 v80:=Tryz.zeroValue339
 i0:=ap
 i2:=ap
 i3:=ap
 i4:=ap
 i5:=ap
 i9:=ap
 i20:=ap
 i21:=ap
 i37:=ap
 i46:=ap
 i51:=ap
 i53:=ap
 i75:=ap
 i80:=ap
 i85:=ap
 i127:=ap
 i143:=ap
 i145:=ap
 i167:=ap
 i168:=ap
 i171:=ap
 i173:=ap
 i175:=ap
 i210:=ap
 i212:=ap
 i232:=ap
 i233:=ap
 m15:=ap
 m16:=ap
 m17:=ap
 m18:=ap
 m19:=ap
 c0:=ap
 c2:=ap
 c3:=ap
 c4:=ap
 c5:=ap
 c9:=ap
 c20:=ap
 c21:=ap
 c37:=ap
 c46:=ap
 c51:=ap
 c53:=ap
 c75:=ap
 c80:=ap
 c85:=ap
 c127:=ap
 c143:=ap
 c145:=ap
 c167:=ap
 c168:=ap
 c171:=ap
 c173:=ap
 c175:=ap
 c210:=ap
 c212:=ap
 c213:=ap
 c232:=ap
 c233:=ap
end Go.Proofs
namespace Go.Proofs.Mo
open Go Go.Ev Go.RowKit Go.Sort
theorem rl.below {w w':af} (h:rl w) (c:RowKit.Below w.heap.size w w'):rl w':=by
 obtain⟨a,e⟩:=h;refine⟨?_,λf i g b=>?_⟩
 .unfold Lib.TabIs at a⊢;unfold World.var? at a⊢;cases b:Tryz.prog.globalNamed "internal/strconv.uint64pow10" with
  |none=>grind|some g=>
   rw[b]at a;simp only[aE]at a⊢;have j:g<w.heap.size:=by grind
   rw[c.block g j];exact a
 .obtain ⟨k,l,d⟩:=e f i g b;refine⟨k,l,?_⟩;rw[c.cell (p:=⟨g,0,Y⟩) (Lib.lt_of_cell d)];exact d
theorem Kz(w:af)(k:Nat)(a:Array Obj):RowKit.Below w.heap.size w (grow (w.drewN k) a):=⟨rfl,rfl,rfl,by simp_all,λi hi=>by
 show(w.heap++a)[i]?=_
 grind⟩
theorem Ii(n b:Int)(a:b=10)(h0:-9223372036854775808<=n)(c:n<=9223372036854775807)(w:af)(d:rl w):
  Calls Tryz.prog 206 #[.int .i64 n,.int .i64 b] w λe w'=>e=.returned (.string ⟨(Lib.itoa n).toArray⟩)/\RowKit.Below w.heap.size w w':=by
 subst a;refine(Any.strconv_FormatInt_10 Tryz.Ii n h0 c w d.1).mono ?_;rintro e w' ⟨rfl,k,f,rfl⟩;exact⟨rfl,Kz w k f⟩
def nL(l:Z bc):Int×Int:=if 20<l.length then(0,2)else match Lib.parseIntB 64 l with
 |.ok v=>if Lib.itoa v=l then(v,0)else(0,2)|_=>(0,2)
theorem toL(s:dR):s.toList=s.data.toList:=ByteArray.toList_eq s
theorem Qq{l:Z bc}(h:20<l.length):nL l=(0,2):=by rw[nL,aq h]
theorem Wp{l:Z bc}{v:Int}(h0:¬20<l.length)(h:Lib.parseIntB 64 l=.ok v)(a:Lib.itoa v=l):nL l=(v,0):=by unfold nL;grind
theorem Wq{l:Z bc}{v:Int}(h0:¬20<l.length)(h:Lib.parseIntB 64 l=.ok v)(a:¬Lib.itoa v=l):nL l=(0,2):=by unfold nL;grind
theorem TF{l:Z bc}(h:∀v,Lib.parseIntB 64 l≠.ok v):nL l=(0,2):=by grind [nL]
theorem szL(s:dR):s.data.toList.length=s.size:=EO
set_option maxHeartbeats 2000000 in
theorem Qr(s:dR)(i:s.size<=281474976710656)(w:af)(f:rl w)(v:Int)(h:Lib.parseIntB 64 s.data.toList=.ok v):
  Calls Tryz.prog 129 #[.string s] w λe w'=>e=.returned (.tuple #[.int .i64 (nL s.data.toList).1,.int .i64 (nL s.data.toList).2])/\RowKit.Below w.heap.size w w':=by
 have hv:=Lib.parseIntB_bounds h;have g:∀w,Calls Tryz.prog 207 #[.string s,.int .i64 10,.int .i64 64] w λe w'=>e=.returned (.tuple #[.int .i64 v,.nilIface])/\RowKit.Below w.heap.size w w':=λw=>(Any.strconv_ParseInt_10_at64_ok Tryz.Dq s M v h w).mono (by
  rintro e w' ⟨rfl,rfl|⟨t,rfl⟩⟩
  .exact ⟨rfl,RowKit.Below.refl _ _⟩
  .exact ⟨rfl,Lib.bytesWorld_below _ _ _⟩)
 go_enter Tryz.func129,Tryz.ntmps129
 go_wp2_with (first
  |(go_at_call 207;refine (g _).mono ?_;rintro e j ⟨rfl,a⟩)
  |(go_at_call 206;refine (Ii v 10 rfl M M _ (f.below a)).mono ?_;rintro e k ⟨rfl,c⟩)
  |go_in)
 .rename_i d
  go_ret2
  exact⟨by rw[Qq (by rw[szL];omega)];rfl,RowKit.Below.refl _ _⟩
 .rename_i b;have d:(s.size:Int)<=20:=by assumption
  go_ret2
  refine⟨?_,a.trans (c.mono a.size)⟩;have:¬Lib.itoa v=s.data.toList:=by simpa[toL]using b
  rw[Wq (by rw[szL];omega) h this];rfl
 .rename_i b;have d:(s.size:Int)<=20:=by assumption
  go_ret2
  refine⟨?_,a.trans (c.mono a.size)⟩;have:Lib.itoa v=s.data.toList:=by simpa[toL]using b
  rw[Wp (by rw[szL];omega) h this];rfl
set_option maxHeartbeats 2000000 in
theorem Dr(s:dR)(w:af)(h:∀v,Lib.parseIntB 64 s.data.toList≠.ok v)
  (c:Calls Tryz.prog 207 #[.string s,.int .i64 10,.int .i64 64] w λe w'=>(∃x a b,e=.returned (.tuple #[.int .i64 x,.iface a b]))/\RowKit.Below w.heap.size w w'):
  Calls Tryz.prog 129 #[.string s] w λe w'=>e=.returned (.tuple #[.int .i64 (nL s.data.toList).1,.int .i64 (nL s.data.toList).2])/\RowKit.Below w.heap.size w w':=by
 rw[TF h]
 go_enter Tryz.func129,Tryz.ntmps129
 go_wp2_with (first
  |(go_at_call 207;refine c.mono ?_;rintro e d ⟨⟨x,a,b,rfl⟩,f⟩)
  |go_in)
 .go_ret2
  exact⟨rfl,RowKit.Below.refl _ _⟩
 .go_ret2
  simp_all
theorem ZV(s:dR)(a:s.size<=281474976710656)(w:af)(b:rl w):
  Calls Tryz.prog 129 #[.string s] w λe w'=>e=.returned (.tuple #[.int .i64 (nL s.data.toList).1,.int .i64 (nL s.data.toList).2])/\RowKit.Below w.heap.size w w':=by
 cases h:Lib.parseIntB 64 s.data.toList with
 |ok v=>exact Qr s a w b v h|range=>obtain⟨c,d,f⟩:=b.2 "strconv.ErrRange" (.inr rfl) _ (show Tryz.prog.globalNamed "strconv.ErrRange" =O (Tryz.qV.g 16) by kernel_rfl);exact Dr s w (λv e=>by grind) ((Any.strconv_ParseInt_10_at64_range Tryz.Dq s a h _ w f (.inr ⟨c,d,rfl⟩)).mono λe w' ⟨N,q1,_,_,g⟩=>⟨⟨_,_,_,q1⟩,g⟩)
 |_=>obtain⟨c,d,f⟩:=b.2 "strconv.ErrSyntax" (.inl rfl) _ (show Tryz.prog.globalNamed "strconv.ErrSyntax" =O (Tryz.qV.g 15) by kernel_rfl);exact Dr s w (λv e=>by grind) ((Any.strconv_ParseInt_10_at64_syntax Tryz.Dq s a h _ w f (.inr ⟨c,d,rfl⟩)).mono λe w' ⟨N,q1,_,_,g⟩=>⟨⟨_,_,_,q1⟩,g⟩)
end Go.Proofs.Mo
