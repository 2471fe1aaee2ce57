import Derived.Test.YtlacgaedkjhfhaaGreatDoorZC29
set_option linter.all false
set_option maxRecDepth 20000
open Option renaming some->O,none->Y
open Bool renaming true->W,false->F
open Go.Proofs.Tryz
namespace Go.Proofs.Mo
open Go Go.Ev Go.X
def ik{n:Int}(c:IntKind.i64.min<=n)(d:n<=IntKind.i64.max):jc n:=by have a:IntKind.i64.min=-9223372036854775808:=cd;have b:IntKind.i64.max=9223372036854775807:=cd;rw[a]at c;rw[b]at d;exact⟨c,d⟩
def fi{α:Type}{f:α->AV}{p:α->Prop}:∀{xs:Z AV},(∀x∈xs,∃y,x=f y/\p y)->∃l:Z α,xs=l.map f/\(∀y∈l,p y)
 |[],_=>⟨[],rfl,λy b=>by cases b⟩
 |x::xs,h=>by
  obtain⟨y,rfl,c⟩:=h x aE;obtain⟨l,rfl,d⟩:=fi (xs:=xs) λz a=>h z (by simp[a]);exact⟨y::l,rfl,λz a=>by
   rcases cT.1 a with e|e
   .rw[e];exact c
   .exact d z e⟩
mutual
def nK{K:Nat}:∀{s:Ev.Sh}{x:AV},s.hH K x->x.Dl=W
 |.bool,x,h=>by obtain ⟨b,rfl⟩:=h;rfl|.int k,x,h=>by obtain ⟨n,rfl,_⟩:=h;rfl
 |.string,x,h=>by obtain ⟨l,rfl,_⟩:=h;rfl|.slice e,x,h=>by obtain⟨xs,rfl,_,h⟩:=h;show ua xs=W;exact vW λy a=>nK (h y a)
 |.struct fs,x,h=>by obtain⟨cs,rfl,h⟩:=h;show ua cs=W;exact vW (ES h)
def ES{K:Nat}:∀{fs:Ev.zm}{cs:Z AV},fs.hH K cs->∀c∈cs,c.Dl=W
 |.nil,cs,h,c,a=>by rw[show cs=[]from h]at a;cases a
 |.cons s r,cs,h,c,a=>by
  obtain⟨x,ds,h1,b,rfl⟩:=h;rcases dR.1 a with a|a
  .exact xz (nK h1) c a
  .exact ES b c a
end
def ach{n:Nat}{y:CC n}{cs:Z AV}(h:cs=ka TT (UF n) (UU n y)):AV.agg cs=enc TT (.struct n) y:=by show AV.agg _=AV.agg (TT.cl n _);rw[ju,h]
def NP{α:Type}{f:α->AV}{p:α->Prop}{x:AV}{q:AV->Prop}(h:∃xs,x=.sl xs/\xs.length<=1048576/\∀y∈xs,q y)(g:∀{y},q y->∃z,y=f z/\p z):∃l:Z α,x=.sl (l.map f)/\l.length<=1048576/\∀z∈l,p z:=by obtain⟨xs,rfl,h1,a⟩:=h;obtain⟨l,rfl,b⟩:=fi λy c=>g (a y c);rw[dd]at h1;exact⟨l,rfl,h1,b⟩
def acb{x:AV}(h:Ev.Sh.string.hH 1048576 x):∃y:X.cI,x=enc TT .str y/\y.length<=1048576:=by obtain⟨s,rfl,h⟩:=h;exact⟨s,rfl,h⟩
def S9{x:AV}(h:(Ev.Sh.int .i64).hH 1048576 x):∃y:Int,x=enc TT (.int .i64) y/\jc y:=by obtain⟨n,rfl,h1,a⟩:=h;exact⟨n,rfl,ik h1 a⟩
def LR:Ev.Sh:=.struct (.cons (.int .i64) (.cons .string (.cons (.int .i64) (.cons (.slice (.int .i64)) .nil))))
def Ta{x:AV}(h:LR.hH 1048576 x):∃y:kI,x=enc TT (.struct 1) y/\(uf y):=by obtain⟨cs,rfl,a0,d0,⟨v0,rfl,h0,k0⟩,⟨e,d1,⟨v1,rfl,a⟩,⟨f,d2,⟨v2,rfl,g,i⟩,⟨j,d3,b,rfl,rfl⟩,rfl⟩,rfl⟩,rfl⟩:=h;obtain⟨c,rfl,d,k⟩:=NP b S9;exact⟨⟨v0,v1,v2,c⟩,ach rfl,⟨a,d⟩⟩
def ET:Ev.Sh:=.struct (.cons .string (.cons (.int .i64) .nil))
def Pn{x:AV}(h:ET.hH 1048576 x):∃y:eR,x=enc TT (.struct 12) y/\(y.name.length<=1048576):=by obtain⟨cs,rfl,a0,d0,⟨v0,rfl,h0⟩,⟨b,d1,⟨a,rfl,h1,c⟩,rfl,rfl⟩,rfl⟩:=h;exact⟨⟨v0,a⟩,ach rfl,h0⟩
def JG:Ev.Sh:=.struct (.cons .string (.cons .string (.cons (.int .i64) (.cons (.int .i64) .nil))))
def Tb{x:AV}(h:JG.hH 1048576 x):∃y:gp,x=enc TT (.struct 13) y/\(y.role.length<=1048576/\y.aw.length<=1048576):=by obtain⟨cs,rfl,a0,d0,⟨v0,rfl,h0⟩,⟨c,d1,⟨v1,rfl,a⟩,⟨d,d2,⟨v2,rfl,e,f⟩,⟨g,d3,⟨b,rfl,i,j⟩,rfl,rfl⟩,rfl⟩,rfl⟩,rfl⟩:=h;exact⟨⟨v0,v1,v2,b⟩,ach rfl,⟨h0,a⟩⟩
def JH:Ev.Sh:=.struct (.cons .string (.cons .string (.cons .bool .nil)))
def Tc{x:AV}(h:JH.hH 1048576 x):∃y:fH,x=enc TT (.struct 14) y/\(y.role.length<=1048576/\y.aw.length<=1048576):=by obtain⟨cs,rfl,a0,d0,⟨v0,rfl,h0⟩,⟨c,d1,⟨v1,rfl,a⟩,⟨d,d2,⟨b,rfl⟩,rfl,rfl⟩,rfl⟩,rfl⟩:=h;exact⟨⟨v0,v1,b⟩,ach rfl,⟨h0,a⟩⟩
def WT:Ev.Sh:=.struct (.cons .string (.cons .string (.cons .bool (.cons (.slice ET) (.cons (.slice JG) (.cons (.slice JH) .nil))))))
def acd{x:AV}(h:WT.hH 1048576 x):∃y:dt,x=enc TT (.struct 15) y/\(qD y):=by obtain⟨cs,rfl,a0,d0,⟨v0,rfl,h0⟩,⟨m,d1,⟨v1,rfl,h1⟩,⟨n,d2,⟨v2,rfl⟩,⟨o,d3,d,⟨q,d4,e,⟨r,d5,f,rfl,rfl⟩,rfl⟩,rfl⟩,rfl⟩,rfl⟩,rfl⟩:=h;obtain⟨v3,rfl,g,i⟩:=NP d Pn;obtain⟨v4,rfl,j,b⟩:=NP e Tb;obtain⟨k,rfl,l,c⟩:=NP f Tc;exact⟨⟨v0,v1,v2,v3,v4,k⟩,ach rfl,⟨h0,h1,g,i,j,λp a=>(b p a).1,λp a=>(b p a).2,l,λp a=>(c p a).1,λp a=>(c p a).2⟩⟩
def Td:Ev.Sh:=.struct (.cons (.int .i64) (.cons .string (.cons .string .nil)))
def Zc{x:AV}(h:Td.hH 1048576 x):∃y:Cell,x=enc TT (.struct 16) y/\(True):=by obtain⟨cs,rfl,a0,d0,⟨v0,rfl,h0,k0⟩,⟨b,d1,⟨v1,rfl,c⟩,⟨d,d2,⟨a,rfl,e⟩,rfl,rfl⟩,rfl⟩,rfl⟩:=h;exact⟨⟨v0,v1,a⟩,ach rfl,trivial⟩
def NQ:Ev.Sh:=.struct (.cons (.int .i64) (.cons .string (.cons .string .nil)))
def VS{x:AV}(h:NQ.hH 1048576 x):∃y:sU,x=enc TT (.struct 17) y/\(True):=by obtain⟨cs,rfl,a0,d0,⟨v0,rfl,h0,k0⟩,⟨b,d1,⟨v1,rfl,c⟩,⟨d,d2,⟨a,rfl,e⟩,rfl,rfl⟩,rfl⟩,rfl⟩:=h;exact⟨⟨v0,v1,a⟩,ach rfl,trivial⟩
def WV:Ev.Sh:=.struct (.cons .string (.cons .string (.cons .bool (.cons .string .nil))))
def acf{x:AV}(h:WV.hH 1048576 x):∃y:qy,x=enc TT (.struct 23) y/\(y.aw.length<=1048576/\y.name.length<=1048576):=by obtain⟨cs,rfl,a0,d0,⟨v0,rfl,h0⟩,⟨c,d1,⟨v1,rfl,a⟩,⟨d,d2,⟨v2,rfl⟩,⟨e,d3,⟨b,rfl,f⟩,rfl,rfl⟩,rfl⟩,rfl⟩,rfl⟩:=h;exact⟨⟨v0,v1,v2,b⟩,ach rfl,⟨h0,a⟩⟩
def CN:Ev.Sh:=.struct (.cons .string (.cons (.slice LR) (.cons (.slice LR) .nil)))
def LS{x:AV}(h:CN.hH 1048576 x):∃y:cV,x=enc TT (.struct 24) y/\(OZ y):=by obtain⟨cs,rfl,a0,d0,⟨v0,rfl,h0⟩,⟨d,d1,s1,⟨e,d2,s2,rfl,rfl⟩,rfl⟩,rfl⟩:=h;obtain⟨v1,rfl,h1,q1⟩:=NP s1 Ta;obtain⟨a,rfl,b,c⟩:=NP s2 Ta;exact⟨⟨v0,v1,a⟩,ach rfl,⟨h0,h1,q1,b,c⟩⟩
def JI:Ev.Sh:=.struct (.cons .string (.cons (.slice Td) .nil))
def Tf{x:AV}(h:JI.hH 1048576 x):∃y:er,x=enc TT (.struct 25) y/\(y.aw.length<=1048576/\y.cells.length<=1048576):=by obtain⟨cs,rfl,a0,d0,⟨v0,rfl,h0⟩,⟨b,d1,s1,rfl,rfl⟩,rfl⟩:=h;obtain⟨a,rfl,h1,q1⟩:=NP s1 Zc;exact⟨⟨v0,a⟩,ach rfl,⟨h0,h1⟩⟩
def CO:Ev.Sh:=.struct (.cons .string (.cons (.slice NQ) .nil))
def LU{x:AV}(h:CO.hH 1048576 x):∃y:cC,x=enc TT (.struct 26) y/\(y.aw.length<=1048576/\y.eb.length<=1048576):=by obtain⟨cs,rfl,a0,d0,⟨v0,rfl,h0⟩,⟨b,d1,s1,rfl,rfl⟩,rfl⟩:=h;obtain⟨a,rfl,h1,q1⟩:=NP s1 VS;exact⟨⟨v0,a⟩,ach rfl,⟨h0,h1⟩⟩
def WW:Ev.Sh:=.struct (.cons .string (.cons (.int .i64) (.cons (.slice .string) (.cons (.slice WT) (.cons (.slice WV) (.cons (.slice CN) (.cons (.slice JI) (.cons (.slice CO) .nil))))))))
def acg{x:AV}(h:WW.hH 1048576 x):∃y:cW,x=enc TT (.struct 27) y/\(nF y):=by obtain⟨cs,rfl,a0,d0,⟨v0,rfl,h0⟩,⟨z,d1,⟨v1,rfl,h1,A⟩,⟨B,d2,s2,⟨C,d3,g,⟨D,d4,i,⟨E,d5,j,⟨G,d6,k,⟨H,d7,l,rfl,rfl⟩,rfl⟩,rfl⟩,rfl⟩,rfl⟩,rfl⟩,rfl⟩,rfl⟩:=h;obtain⟨v2,rfl,m,n⟩:=NP s2 acb;obtain⟨v3,rfl,o,p⟩:=NP g acd;obtain⟨v4,rfl,q,c⟩:=NP i acf;obtain⟨v5,rfl,s,t⟩:=NP j LS;obtain⟨v6,rfl,u,e⟩:=NP k Tf;obtain⟨v,rfl,w,f⟩:=NP l LU;exact⟨⟨v0,v1,v2,v3,v4,v5,v6,v⟩,ach rfl,⟨h0,m,n,o,p,q,λr b=>(c r b).1,λr b=>(c r b).2,s,t,u,λd a=>(e d a).1,λd a=>(e d a).2,w,λd a=>(f d a).1,λd a=>(f d a).2⟩⟩
def WX:Ev.Sh:=.struct (.cons .string (.cons .string .nil))
def aci{x:AV}(h:WX.hH 1048576 x):∃y:Dm,x=enc TT (.struct 19) y/\(y.name.length<=1048576/\y.value.length<=1048576):=by obtain⟨cs,rfl,a0,d0,⟨v0,rfl,h0⟩,⟨c,d1,⟨a,rfl,b⟩,rfl,rfl⟩,rfl⟩:=h;exact⟨⟨v0,a⟩,ach rfl,⟨h0,b⟩⟩
def acj:Ev.Sh:=.struct (.cons .string (.cons (.int .i64) .nil))
def ag4{x:AV}(h:acj.hH 1048576 x):∃y:Rf,x=enc TT (.struct 20) y/\(y.role.length<=1048576):=by obtain⟨cs,rfl,a0,d0,⟨v0,rfl,h0⟩,⟨b,d1,⟨a,rfl,h1,c⟩,rfl,rfl⟩,rfl⟩:=h;exact⟨⟨v0,a⟩,ach rfl,h0⟩
def ack:Ev.Sh:=.struct (.cons (.int .i64) (.cons .string (.cons (.int .i64) (.cons .string (.cons (.slice WX) (.cons (.slice (.int .i64)) (.cons (.slice acj) .nil)))))))
def ag5{x:AV}(h:ack.hH 1048576 x):∃y:Nd,x=enc TT (.struct 21) y/\(LK y/\Y5 y):=by obtain⟨cs,rfl,a0,d0,⟨v0,rfl,h0,k0⟩,⟨q,d1,⟨v1,rfl,h1⟩,⟨r,d2,⟨v2,rfl,b,c⟩,⟨s,d3,⟨v3,rfl,i⟩,⟨t,d4,j,⟨u,d5,k,⟨v,d6,l,rfl,rfl⟩,rfl⟩,rfl⟩,rfl⟩,rfl⟩,rfl⟩,rfl⟩:=h;obtain⟨v4,rfl,d,e⟩:=NP j aci;obtain⟨v5,rfl,f,m⟩:=NP k S9;obtain⟨n,rfl,g,o⟩:=NP l ag4;exact⟨⟨v0,v1,v2,v3,v4,v5,n⟩,ach rfl,⟨⟨h1,i,d,λp a=>(e p a).1,f,m,g,o,ik b c⟩,⟨ik h0 k0,h1,ik b c,⟨d,λp a=>(e p a).2⟩,f,g⟩⟩⟩
def WY:Ev.Sh:=.struct (.cons (.int .i64) (.cons (.int .i64) (.cons (.int .i64) (.cons .string .nil))))
def acn{x:AV}(h:WY.hH 1048576 x):∃y:c8,x=enc TT (.struct 29) y/\(y.text.length<=1048576/\jc y.int):=by obtain⟨cs,rfl,a0,d0,⟨v0,rfl,h0,k0⟩,⟨e,d1,⟨v1,rfl,h1,f⟩,⟨g,d2,⟨v2,rfl,a,b⟩,⟨i,d3,⟨c,rfl,d⟩,rfl,rfl⟩,rfl⟩,rfl⟩,rfl⟩:=h;exact⟨⟨v0,v1,v2,c⟩,ach rfl,⟨d,ik a b⟩⟩
def WZ:Ev.Sh:=.struct (.cons (.int .i64) (.cons (.slice ack) .nil))
def acp{x:AV}(h:WZ.hH 1048576 x):∃y:hD,x=enc TT (.struct 22) y/\(∀n∈y.ay,LK n/\Y5 n):=by obtain⟨cs,rfl,a0,d0,⟨v0,rfl,h0,k0⟩,⟨b,d1,s1,rfl,rfl⟩,rfl⟩:=h;obtain⟨a,rfl,h1,q1⟩:=NP s1 ag5;exact⟨⟨v0,a⟩,ach rfl,q1⟩
def Tg:Ev.Sh:=.struct (.cons (.slice WW) (.cons WZ (.cons (.int .i64) (.cons (.int .i64) .nil))))
def W5{x:AV}(h:Tg.hH 1048576 x):∃y:Nj,x=enc TT (.struct 28) y/\(∀c:Z c8,c.length<=1048576->(∀x∈c,x.text.length<=1048576/\jc x.int)->In5 y.ls y.m c y.self y.bT):=by obtain⟨cs,rfl,a0,d0,d,⟨l,d1,s1,⟨m,d2,⟨v2,rfl,e,f⟩,⟨n,d3,⟨g,rfl,i,j⟩,rfl,rfl⟩,rfl⟩,rfl⟩,rfl⟩:=h;obtain⟨v0,rfl,h0,k⟩:=NP d acg;obtain⟨v1,rfl,q1⟩:=acp s1;exact⟨⟨v0,v1,v2,g⟩,ach rfl,λc a b=>⟨⟨h0,k⟩,q1,a,b,ik e f,ik i j⟩⟩
def Th:Ev.Sh:=.struct (.cons (.slice WY) .nil)
def W6{x:AV}(h:Th.hH 1048576 x):∃y:qI,x=enc TT (.struct 30) y/\(y.aq.length<=1048576/\∀x∈y.aq,x.text.length<=1048576/\jc x.int):=by obtain⟨cs,rfl,a0,d0,a,rfl,rfl⟩:=h;obtain⟨v0,rfl,h0,b⟩:=NP a acn;exact⟨⟨v0⟩,ach rfl,⟨h0,b⟩⟩
def Zb:Z Ev.Sh:=[Tg,Th]
def acm{e:zI}(n:po e)(xs:Z AV)(h:wA 1048576 Zb xs):nm Tryz.prog (EL e) 5 xs (.ret [.v (.fl (.bool W))]):=by
 obtain⟨a,B,rfl,f,o⟩:=lr h;obtain⟨b,C,rfl,g,p⟩:=lr o;obtain rfl:=xY p;have q:∀z∈[a,b],z.Dl=W:=by
  intro x j;simp only[cT,s8,or_false]at j;rcases j with rfl|rfl
  .exact nK f
  .exact nK g
 obtain⟨w,rfl,s⟩:=W5 f;obtain⟨c,rfl,l⟩:=W6 g;obtain⟨N,t⟩:∃N:Nat,1073741824<=N:=⟨_,a6 _⟩
 obtain⟨ls,m,u,v⟩:=w;obtain⟨c⟩:=c;obtain⟨⟨r,h'⟩,hF,d⟩:=aco t (s c l.1 l.2) IV ⟨rfl,rfl,rfl,rfl,rfl,rfl,rfl,rfl,rfl⟩;have d:r=W:=d;subst d;obtain⟨D,E,_,y⟩:=(G5 N (EL e) (WS n)).sy (Nj.mk ls m u v,qI.mk c) IV [_,_] W h' qH (λ_=>F) ⟨_,_,rfl,⟨rfl,rfl⟩,_,_,rfl,⟨rfl,rfl⟩,rfl⟩ (λk A _ i=>by rw[Gy k A];exact ⟨rfl,rfl⟩) hF;exact xA y q (λr d=>by simp only[iC]at d;subst d;rfl)
end Go.Proofs.Mo
