import Derived.Test.YtedadjfbbpjaiaaGreatZ31
set_option linter.all false
set_option maxRecDepth 20000
namespace Go.Proofs.Mo
open Go Go.Ev Go.X
theorem oh{n:Int}(h1:IntKind.i64.min<=n)(h2:n<=IntKind.i64.max):yJ n:=by
 have a:IntKind.i64.min=-9223372036854775808:=by decide
 have b:IntKind.i64.max=9223372036854775807:=by decide
 rw[a]at h1;rw[b]at h2;exact⟨h1,h2⟩
theorem fB{α:Type}{f:α->AV}{p:α->Prop}:∀{xs:List AV},(∀x∈xs,∃y,x=f y/\p y)->∃l:List α,xs=l.map f/\(∀y∈l,p y)
 |[],_=>⟨[],rfl,λy hy=>by cases hy⟩
 |x::xs,h=>by
  obtain⟨y,rfl,hp⟩:=h x (by simp);obtain⟨l,rfl,hl⟩:=fB (xs:=xs) λz hz=>h z (by simp[hz]);exact⟨y::l,rfl,λz hz=>by
   rcases c6.1 hz with e|e
   ·rw[e];exact hp
   ·exact hl z e⟩
mutual
theorem pG{K:Nat}:∀{s:Ev.Sh}{x:AV},s.jg K x->x.G0=true
 |.bool,x,h=>by obtain ⟨b,rfl⟩:=h;rfl|.int k,x,h=>by obtain ⟨n,rfl,_⟩:=h;rfl
 |.string,x,h=>by obtain ⟨l,rfl,_⟩:=h;rfl|.slice e,x,h=>by obtain⟨xs,rfl,_,h⟩:=h;show wC xs=true;exact yu λy hy=>pG (h y hy)
 |.struct fs,x,h=>by obtain⟨cs,rfl,h⟩:=h;show wC cs=true;exact yu (Ho h)
theorem Ho{K:Nat}:∀{fs:Ev.FJ}{cs:List AV},fs.jg K cs->∀c∈cs,c.G0=true
 |.nil,cs,h,c,hc=>by rw[show cs=[]from h]at hc;cases hc
 |.cons s r,cs,h,c,hc=>by
  obtain⟨x,ds,h1,h2,rfl⟩:=h;rcases dt.1 hc with hc|hc
  ·exact Ac (pG h1) c hc
  ·exact Ho h2 c hc
end
theorem aaF{x:AV}(h:Ev.Sh.string.jg 1048576 x):∃y:X.bE,x=enc TT .str y/\y.length<=1048576:=by obtain⟨s,rfl,h⟩:=h;exact⟨s,rfl,h⟩
theorem Qp{x:AV}(h:(Ev.Sh.int .i64).jg 1048576 x):∃y:Int,x=enc TT (.int .i64) y/\yJ y:=by obtain⟨n,rfl,h1,h2⟩:=h;exact⟨n,rfl,oh h1 h2⟩
def Og:Ev.Sh:=.struct (.cons (.int .i64) (.cons .string (.cons (.int .i64) (.cons (.slice (.int .i64)) .nil))))
def Qq(y:l7):Prop:=(yJ y.kind)/\(y.name.length<=1048576)/\(yJ y.num)/\(y.args.length<=1048576/\∀z∈y.args,yJ z)
theorem Wj{x:AV}(h:Og.jg 1048576 x):∃y:l7,x=enc TT (.struct 1) y/\Qq y:=by obtain⟨cs,rfl,a0,d0,⟨v0,rfl,h0,k0⟩,⟨a1,d1,⟨v1,rfl,h1⟩,⟨a2,d2,⟨v2,rfl,h2,k2⟩,⟨a3,d3,⟨w3,rfl,h3,k3⟩,rfl,rfl⟩,rfl⟩,rfl⟩,rfl⟩:=h;obtain⟨v3,rfl,q3⟩:=fB λy hy=>Qp (k3 y hy);rw[cM]at h3;exact⟨⟨v0,v1,v2,v3⟩,by show AV.agg _=AV.agg (TT.cl 1 _);rw[lh];rfl,oh h0 k0,h1,oh h2 k2,⟨h3,q3⟩⟩
def Hq:Ev.Sh:=.struct (.cons .string (.cons (.int .i64) .nil))
def LX(y:dR):Prop:=(y.name.length<=1048576)/\(yJ y.type)
theorem Sb{x:AV}(h:Hq.jg 1048576 x):∃y:dR,x=enc TT (.struct 12) y/\LX y:=by obtain⟨cs,rfl,a0,d0,⟨v0,rfl,h0⟩,⟨a1,d1,⟨v1,rfl,h1,k1⟩,rfl,rfl⟩,rfl⟩:=h;exact⟨⟨v0,v1⟩,by show AV.agg _=AV.agg (TT.cl 12 _);rw[lh];rfl,h0,oh h1 k1⟩
def LY:Ev.Sh:=.struct (.cons .string (.cons .string (.cons (.int .i64) (.cons (.int .i64) .nil))))
def Qr(y:cg):Prop:=(y.role.length<=1048576)/\(y.ab.length<=1048576)/\(yJ y.min)/\(yJ y.max)
theorem Wl{x:AV}(h:LY.jg 1048576 x):∃y:cg,x=enc TT (.struct 13) y/\Qr y:=by obtain⟨cs,rfl,a0,d0,⟨v0,rfl,h0⟩,⟨a1,d1,⟨v1,rfl,h1⟩,⟨a2,d2,⟨v2,rfl,h2,k2⟩,⟨a3,d3,⟨v3,rfl,h3,k3⟩,rfl,rfl⟩,rfl⟩,rfl⟩,rfl⟩:=h;exact⟨⟨v0,v1,v2,v3⟩,by show AV.agg _=AV.agg (TT.cl 13 _);rw[lh];rfl,h0,h1,oh h2 k2,oh h3 k3⟩
def LZ:Ev.Sh:=.struct (.cons .string (.cons .string (.cons .bool .nil)))
def Qs(y:fj):Prop:=(y.role.length<=1048576)/\(y.ab.length<=1048576)/\(True)
theorem Wm{x:AV}(h:LZ.jg 1048576 x):∃y:fj,x=enc TT (.struct 14) y/\Qs y:=by obtain⟨cs,rfl,a0,d0,⟨v0,rfl,h0⟩,⟨a1,d1,⟨v1,rfl,h1⟩,⟨a2,d2,⟨v2,rfl⟩,rfl,rfl⟩,rfl⟩,rfl⟩:=h;exact⟨⟨v0,v1,v2⟩,by show AV.agg _=AV.agg (TT.cl 14 _);rw[lh];rfl,h0,h1,trivial⟩
def aaG:Ev.Sh:=.struct (.cons .string (.cons .string (.cons .bool (.cons (.slice Hq) (.cons (.slice LY) (.cons (.slice LZ) .nil))))))
def acX(y:cN):Prop:=(y.name.length<=1048576)/\(y.cQ.length<=1048576)/\(True)/\(y.aW.length<=1048576/\∀z∈y.aW,LX z)/\(y.kids.length<=1048576/\∀z∈y.kids,Qr z)/\(y.refs.length<=1048576/\∀z∈y.refs,Qs z)
theorem ahh{x:AV}(h:aaG.jg 1048576 x):∃y:cN,x=enc TT (.struct 15) y/\acX y:=by obtain⟨cs,rfl,a0,d0,⟨v0,rfl,h0⟩,⟨a1,d1,⟨v1,rfl,h1⟩,⟨a2,d2,⟨v2,rfl⟩,⟨a3,d3,⟨w3,rfl,h3,k3⟩,⟨a4,d4,⟨w4,rfl,h4,k4⟩,⟨a5,d5,⟨w5,rfl,h5,k5⟩,rfl,rfl⟩,rfl⟩,rfl⟩,rfl⟩,rfl⟩,rfl⟩:=h;obtain⟨v3,rfl,q3⟩:=fB λy hy=>Sb (k3 y hy);rw[cM]at h3;obtain⟨v4,rfl,q4⟩:=fB λy hy=>Wl (k4 y hy);rw[cM]at h4;obtain⟨v5,rfl,q5⟩:=fB λy hy=>Wm (k5 y hy);rw[cM]at h5;exact⟨⟨v0,v1,v2,v3,v4,v5⟩,by show AV.agg _=AV.agg (TT.cl 15 _);rw[lh];rfl,h0,h1,trivial,⟨h3,q3⟩,⟨h4,q4⟩,⟨h5,q5⟩⟩
def Wn:Ev.Sh:=.struct (.cons (.int .i64) (.cons .string (.cons .string .nil)))
def aaH(y:Cell):Prop:=(yJ y.kind)/\(y.text.length<=1048576)/\(y.mark.length<=1048576)
theorem acY{x:AV}(h:Wn.jg 1048576 x):∃y:Cell,x=enc TT (.struct 16) y/\aaH y:=by obtain⟨cs,rfl,a0,d0,⟨v0,rfl,h0,k0⟩,⟨a1,d1,⟨v1,rfl,h1⟩,⟨a2,d2,⟨v2,rfl,h2⟩,rfl,rfl⟩,rfl⟩,rfl⟩:=h;exact⟨⟨v0,v1,v2⟩,by show AV.agg _=AV.agg (TT.cl 16 _);rw[lh];rfl,oh h0 k0,h1,h2⟩
def Qt:Ev.Sh:=.struct (.cons (.int .i64) (.cons .string (.cons .string .nil)))
def Wo(y:vo):Prop:=(yJ y.kind)/\(y.text.length<=1048576)/\(y.mark.length<=1048576)
theorem Zp{x:AV}(h:Qt.jg 1048576 x):∃y:vo,x=enc TT (.struct 17) y/\Wo y:=by obtain⟨cs,rfl,a0,d0,⟨v0,rfl,h0,k0⟩,⟨a1,d1,⟨v1,rfl,h1⟩,⟨a2,d2,⟨v2,rfl,h2⟩,rfl,rfl⟩,rfl⟩,rfl⟩:=h;exact⟨⟨v0,v1,v2⟩,by show AV.agg _=AV.agg (TT.cl 17 _);rw[lh];rfl,oh h0 k0,h1,h2⟩
def aaI:Ev.Sh:=.struct (.cons .string (.cons .string (.cons .bool (.cons .string .nil))))
def ahi(y:rm):Prop:=(y.ab.length<=1048576)/\(y.name.length<=1048576)/\(True)/\(y.expr.length<=1048576)
theorem ahj{x:AV}(h:aaI.jg 1048576 x):∃y:rm,x=enc TT (.struct 19) y/\ahi y:=by obtain⟨cs,rfl,a0,d0,⟨v0,rfl,h0⟩,⟨a1,d1,⟨v1,rfl,h1⟩,⟨a2,d2,⟨v2,rfl⟩,⟨a3,d3,⟨v3,rfl,h3⟩,rfl,rfl⟩,rfl⟩,rfl⟩,rfl⟩:=h;exact⟨⟨v0,v1,v2,v3⟩,by show AV.agg _=AV.agg (TT.cl 19 _);rw[lh];rfl,h0,h1,trivial,h3⟩
def EY:Ev.Sh:=.struct (.cons .string (.cons (.slice Og) (.cons (.slice Og) .nil)))
def Au(y:cC):Prop:=(y.ab.length<=1048576)/\(y.left.length<=1048576/\∀z∈y.left,Qq z)/\(y.right.length<=1048576/\∀z∈y.right,Qq z)
theorem Oh{x:AV}(h:EY.jg 1048576 x):∃y:cC,x=enc TT (.struct 20) y/\Au y:=by obtain⟨cs,rfl,a0,d0,⟨v0,rfl,h0⟩,⟨a1,d1,⟨w1,rfl,h1,k1⟩,⟨a2,d2,⟨w2,rfl,h2,k2⟩,rfl,rfl⟩,rfl⟩,rfl⟩:=h;obtain⟨v1,rfl,q1⟩:=fB λy hy=>Wj (k1 y hy);rw[cM]at h1;obtain⟨v2,rfl,q2⟩:=fB λy hy=>Wj (k2 y hy);rw[cM]at h2;exact⟨⟨v0,v1,v2⟩,by show AV.agg _=AV.agg (TT.cl 20 _);rw[lh];rfl,h0,⟨h1,q1⟩,⟨h2,q2⟩⟩
def L0:Ev.Sh:=.struct (.cons .string (.cons (.slice Wn) .nil))
def Qu(y:dw):Prop:=(y.ab.length<=1048576)/\(y.cells.length<=1048576/\∀z∈y.cells,aaH z)
theorem Wp{x:AV}(h:L0.jg 1048576 x):∃y:dw,x=enc TT (.struct 21) y/\Qu y:=by obtain⟨cs,rfl,a0,d0,⟨v0,rfl,h0⟩,⟨a1,d1,⟨w1,rfl,h1,k1⟩,rfl,rfl⟩,rfl⟩:=h;obtain⟨v1,rfl,q1⟩:=fB λy hy=>acY (k1 y hy);rw[cM]at h1;exact⟨⟨v0,v1⟩,by show AV.agg _=AV.agg (TT.cl 21 _);rw[lh];rfl,h0,⟨h1,q1⟩⟩
def EZ:Ev.Sh:=.struct (.cons .string (.cons (.slice Qt) .nil))
def Hr(y:cp):Prop:=(y.ab.length<=1048576)/\(y.pieces.length<=1048576/\∀z∈y.pieces,Wo z)
theorem Oi{x:AV}(h:EZ.jg 1048576 x):∃y:cp,x=enc TT (.struct 22) y/\Hr y:=by obtain⟨cs,rfl,a0,d0,⟨v0,rfl,h0⟩,⟨a1,d1,⟨w1,rfl,h1,k1⟩,rfl,rfl⟩,rfl⟩:=h;obtain⟨v1,rfl,q1⟩:=fB λy hy=>Zp (k1 y hy);rw[cM]at h1;exact⟨⟨v0,v1⟩,by show AV.agg _=AV.agg (TT.cl 22 _);rw[lh];rfl,h0,⟨h1,q1⟩⟩
def aaJ:Ev.Sh:=.struct (.cons .string (.cons (.int .i64) (.cons (.slice .string) (.cons (.slice aaG) (.cons (.slice aaI) (.cons (.slice EY) (.cons (.slice L0) (.cons (.slice EZ) .nil))))))))
def ahk(y:bT):Prop:=(y.name.length<=1048576)/\(yJ y.version)/\(y.rZ.length<=1048576/\∀z∈y.rZ,z.length<=1048576)/\(y.aQ.length<=1048576/\∀z∈y.aQ,acX z)/\(y.rules.length<=1048576/\∀z∈y.rules,ahi z)/\(y.equations.length<=1048576/\∀z∈y.equations,Au z)/\(y.c8.length<=1048576/\∀z∈y.c8,Qu z)/\(y.cd.length<=1048576/\∀z∈y.cd,Hr z)
theorem ahl{x:AV}(h:aaJ.jg 1048576 x):∃y:bT,x=enc TT (.struct 23) y/\ahk y:=by obtain⟨cs,rfl,a0,d0,⟨v0,rfl,h0⟩,⟨a1,d1,⟨v1,rfl,h1,k1⟩,⟨a2,d2,⟨w2,rfl,h2,k2⟩,⟨a3,d3,⟨w3,rfl,h3,k3⟩,⟨a4,d4,⟨w4,rfl,h4,k4⟩,⟨a5,d5,⟨w5,rfl,h5,k5⟩,⟨a6,d6,⟨w6,rfl,h6,k6⟩,⟨a7,d7,⟨w7,rfl,h7,k7⟩,rfl,rfl⟩,rfl⟩,rfl⟩,rfl⟩,rfl⟩,rfl⟩,rfl⟩,rfl⟩:=h;obtain⟨v2,rfl,q2⟩:=fB λy hy=>aaF (k2 y hy);rw[cM]at h2;obtain⟨v3,rfl,q3⟩:=fB λy hy=>ahh (k3 y hy);rw[cM]at h3;obtain⟨v4,rfl,q4⟩:=fB λy hy=>ahj (k4 y hy);rw[cM]at h4;obtain⟨v5,rfl,q5⟩:=fB λy hy=>Oh (k5 y hy);rw[cM]at h5;obtain⟨v6,rfl,q6⟩:=fB λy hy=>Wp (k6 y hy);rw[cM]at h6;obtain⟨v7,rfl,q7⟩:=fB λy hy=>Oi (k7 y hy);rw[cM]at h7;exact⟨⟨v0,v1,v2,v3,v4,v5,v6,v7⟩,by show AV.agg _=AV.agg (TT.cl 23 _);rw[lh];rfl,h0,oh h1 k1,⟨h2,q2⟩,⟨h3,q3⟩,⟨h4,q4⟩,⟨h5,q5⟩,⟨h6,q6⟩,⟨h7,q7⟩⟩
def aaK:Ev.Sh:=.struct (.cons .string (.cons .string .nil))
def ahm(y:IZ):Prop:=(y.name.length<=1048576)/\(y.value.length<=1048576)
theorem ahn{x:AV}(h:aaK.jg 1048576 x):∃y:IZ,x=enc TT (.struct 24) y/\ahm y:=by obtain⟨cs,rfl,a0,d0,⟨v0,rfl,h0⟩,⟨a1,d1,⟨v1,rfl,h1⟩,rfl,rfl⟩,rfl⟩:=h;exact⟨⟨v0,v1⟩,by show AV.agg _=AV.agg (TT.cl 24 _);rw[lh];rfl,h0,h1⟩
def aho:Ev.Sh:=.struct (.cons .string (.cons (.int .i64) .nil))
def BRf(y:Rf):Prop:=(y.role.length<=1048576)/\(yJ y.target)
theorem amz{x:AV}(h:aho.jg 1048576 x):∃y:Rf,x=enc TT (.struct 25) y/\BRf y:=by obtain⟨cs,rfl,a0,d0,⟨v0,rfl,h0⟩,⟨a1,d1,⟨v1,rfl,h1,k1⟩,rfl,rfl⟩,rfl⟩:=h;exact⟨⟨v0,v1⟩,by show AV.agg _=AV.agg (TT.cl 25 _);rw[lh];rfl,h0,oh h1 k1⟩
def ahp:Ev.Sh:=.struct (.cons (.int .i64) (.cons .string (.cons (.int .i64) (.cons .string (.cons (.slice aaK) (.cons (.slice (.int .i64)) (.cons (.slice aho) .nil)))))))
def BNd(y:Nd):Prop:=(yJ y.iD)/\(y.ab.length<=1048576)/\(yJ y.parent)/\(y.role.length<=1048576)/\(y.aW.length<=1048576/\∀z∈y.aW,ahm z)/\(y.kids.length<=1048576/\∀z∈y.kids,yJ z)/\(y.refs.length<=1048576/\∀z∈y.refs,BRf z)
theorem amA{x:AV}(h:ahp.jg 1048576 x):∃y:Nd,x=enc TT (.struct 26) y/\BNd y:=by obtain⟨cs,rfl,a0,d0,⟨v0,rfl,h0,k0⟩,⟨a1,d1,⟨v1,rfl,h1⟩,⟨a2,d2,⟨v2,rfl,h2,k2⟩,⟨a3,d3,⟨v3,rfl,h3⟩,⟨a4,d4,⟨w4,rfl,h4,k4⟩,⟨a5,d5,⟨w5,rfl,h5,k5⟩,⟨a6,d6,⟨w6,rfl,h6,k6⟩,rfl,rfl⟩,rfl⟩,rfl⟩,rfl⟩,rfl⟩,rfl⟩,rfl⟩:=h;obtain⟨v4,rfl,q4⟩:=fB λy hy=>ahn (k4 y hy);rw[cM]at h4;obtain⟨v5,rfl,q5⟩:=fB λy hy=>Qp (k5 y hy);rw[cM]at h5;obtain⟨v6,rfl,q6⟩:=fB λy hy=>amz (k6 y hy);rw[cM]at h6;exact⟨⟨v0,v1,v2,v3,v4,v5,v6⟩,by show AV.agg _=AV.agg (TT.cl 26 _);rw[lh];rfl,oh h0 k0,h1,oh h2 k2,h3,⟨h4,q4⟩,⟨h5,q5⟩,⟨h6,q6⟩⟩
theorem Wq{y:l7}(h:Qq y):wF y:=⟨h.2.1,h.2.2.2.1⟩
theorem ahq{y:cN}(h:acX y):sr y:=by obtain⟨h1,h2,_,⟨h3,h4⟩,⟨h5,h6⟩,⟨h7,h8⟩⟩:=h;exact⟨h1,h2,h3,λp hp=>(h4 p hp).1,h5,λp hp=>(h6 p hp).1,λp hp=>(h6 p hp).2.1,h7,λp hp=>(h8 p hp).1,λp hp=>(h8 p hp).2.1⟩
theorem amB{y:cC}(h:Au y):R4 y:=⟨h.1,h.2.1.1,λs hs=>Wq (h.2.1.2 s hs),h.2.2.1,λs hs=>Wq (h.2.2.2 s hs)⟩
theorem ahr{y:bT}(h:ahk y):pC y:=by obtain⟨h1,_,⟨h3,h4⟩,⟨h5,h6⟩,⟨h7,h8⟩,⟨h9,tf⟩,⟨Hw,JB⟩,⟨Rx,Sr⟩⟩:=h;exact⟨h1,h3,h4,h5,λc hc=>ahq (h6 c hc),h7,λr hr=>(h8 r hr).1,λr hr=>(h8 r hr).2.1,h9,λq hq=>amB (tf q hq),Hw,λd hd=>(JB d hd).1,λd hd=>(JB d hd).2.1,Rx,λd hd=>(Sr d hd).1,λd hd=>(Sr d hd).2.1⟩
theorem amC{y:Nd}(h:BNd y):Ao y:=by obtain⟨_,h2,h3,h4,⟨h5,h6⟩,⟨h7,h8⟩,⟨h9,tf⟩⟩:=h;exact⟨h2,h4,h5,λp hp=>(h6 p hp).1,h7,h8,h9,λr hr=>(tf r hr).1,h3⟩
def aaL:Ev.Sh:=.struct (.cons (.int .i64) (.cons (.slice ahp) .nil))
theorem ahs{x:AV}(h:aaL.jg 1048576 x):∃y:dX,x=enc TT (.struct 27) y/\∀n∈y.nodes,Ao n:=by obtain⟨cs,rfl,a0,d0,⟨v0,rfl,_,_⟩,⟨a1,d1,⟨w1,rfl,h1,k1⟩,rfl,rfl⟩,rfl⟩:=h;obtain⟨v1,rfl,q1⟩:=fB λy hy=>amA (k1 y hy);exact⟨⟨v0,v1⟩,by show AV.agg _=AV.agg (TT.cl 27 _);rw[lh];rfl,λn hn=>amC (q1 n hn)⟩
def Wr:List Ev.Sh:=[.slice aaJ,aaL,.int .i64,.string,.int .i64]
theorem tG(xs:List AV)(h:EW 1048576 Wr xs):oI Tryz.prog Env.none_ 3 xs (.ret [.v (.fl (.bool true))]):=by
 have amD:∀a∈xs,a.G0=true:=by
  obtain⟨a,xs1,rfl,ha,k1⟩:=gX h;obtain⟨b,xs2,rfl,hb,k2⟩:=gX k1;obtain⟨c,xs3,rfl,hc,k3⟩:=gX k2;obtain⟨d,xs4,rfl,hd,k4⟩:=gX k3;obtain⟨e,xs5,rfl,he,k5⟩:=gX k4;obtain rfl:=Hn k5;intro x hx;simp only[c6,List.not_mem_nil,or_false]at hx;rcases hx with rfl|rfl|rfl|rfl|rfl
  ·exact pG ha
  ·exact pG hb
  ·exact pG hc
  ·exact pG hd
  ·exact pG he
 obtain⟨a,xs1,rfl,⟨w,rfl,hl,hw⟩,k1⟩:=gX h;obtain⟨b,xs2,rfl,hb,k2⟩:=gX k1;obtain⟨c,xs3,rfl,hc,k3⟩:=gX k2;obtain⟨d,xs4,rfl,hd,k4⟩:=gX k3;obtain⟨e,xs5,rfl,he,k5⟩:=gX k4;obtain rfl:=Hn k5;obtain⟨ls,rfl,hls⟩:=fB λy hy=>ahl (hw y hy);rw[cM]at hl;obtain⟨m,rfl,hm⟩:=ahs hb;obtain⟨parent,rfl,hp⟩:=Qp hc;obtain⟨role,rfl,_⟩:=aaF hd;obtain⟨id,rfl,nP⟩:=Qp he;obtain⟨N,hN⟩:∃N:Nat,1073741824<=N:=⟨_,aP _⟩
 obtain⟨⟨r,h'⟩,hF,hr⟩:=law hN ls ⟨hl,λl hm=>ahr (hls l hm)⟩ m hm parent hp role id nP;have hr:r=true:=hr;subst hr;obtain⟨A',V',_,hD⟩:=(G3 N Env.none_ (λ_=>rfl)).tG (ls,m,parent,role,id) Pv [_,_,_,_,_] true h' sY (λ_=>false) ⟨_,_,rfl,⟨rfl,rfl⟩,_,_,rfl,⟨rfl,rfl⟩,_,_,rfl,⟨rfl,rfl⟩,_,_,rfl,⟨rfl,rfl⟩,_,_,rfl,⟨rfl,rfl⟩,rfl⟩ (λk hk _ i=>by rw[Pw k hk];exact ⟨rfl,rfl⟩) hF;exact G1 hD amD (λr hr=>by simp only[mX]at hr;subst hr;rfl)
end Go.Proofs.Mo
