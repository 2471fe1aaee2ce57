import Derived.RangeFuncNested
import Derived.RangeFuncBound
import Derived.RangeFuncCalls
import Derived.RangeFuncLeaves
import Derived.Shelf.Abstract
import Derived.Shelf.RegionOpen
import Derived.WalkKit
import Derived.OwnWalkIn
import Derived.TacticsInMore
import Derived.LoopNIn
import Derived.LoopIn
import Derived.Maps.AppendAt
import Derived.Test.YtedadjfbbpjaiaaGreatProg
import Derived.Test.YtedadjfbbpjaiaaGreatZ23
set_option linter.all false
namespace Go.Proofs.Mo
open Go Go.Proofs Go.RowKit Go.Shelf
open Go.Ev (Shape)
variable{M M':Nat->Prop}{v:Value}{k base l:Nat}{e t:TypeId}{xs:List Value}{o:Obj}{P:Program}{W':World}
attribute [local go_sem] Oper.semAt_some
set_option maxRecDepth 100000 in
set_option maxHeartbeats 2000000 in
theorem acy(l:Nat)(A1 A2 A3:Addr)(v1 v2 v3:Value)(n:Nat)(hn:n<=maxLen)(x:Nat->ByteArray)(J:Nat->Nat->Nat->World->Prop)(Jx:World->Prop)(W:World)
  (h1:W.cell? A1=some v1)
  (h59:Calls Tryz.prog 59 #[v1] W λe W'=>∃A B cap,e=.returned (.slice A n cap)/\(0<n->A=some ⟨B,0,none⟩)/\J B cap 0 W')
  (hc:∀B cap k W,J B cap k W->k<n->W.cell? ⟨B,k,none⟩=some (.string (x k))/\W.cell? A1=some v1/\W.cell? ⟨A2.block,A2.off+1,none⟩=some v2/\W.cell? A3=some v3)
  (h60:∀B cap k W,J B cap k W->k<n->Calls Tryz.prog 60 #[v1,.string (x k),v2,v3] W λe W'=>∃b,e=.returned (.bool b)/\(b=false->J B cap (k+1) W')/\(b=true->YieldAt Fence.wide 2 Tryz.prog l #[.agg #[.string (x k),.int .i64 0]] W' λe W''=>(e=.returned (.bool true)/\J B cap (k+1) W'')∨(e=.returned (.bool false)/\Jx W''))):
  CallsIn Fence.wide 3 Tryz.prog 58 #[.func (.yield l) #[] #[],.pointer (some A1),.pointer (some A2),.pointer (some A3)] W λe W'=>(∃v,e=.returned v)/\((∃B cap,J B cap n W')∨Jx W'):=by
 have jX:Fence.wide.round=none:=rfl;have yU:n<=9223372036854775807:=hn;refine callsIn_of_wp Tryz.func58 rfl trivial ?_ jX;simp only[Tryz.ntmps58,mN,dE,kS,Nat.reduceAdd,Nat.reduceSub,Array.replicate_succ,Array.replicate_zero,List.push_toArray,List.append_toArray,pq,ou]
 gi_wp2_with (refine⟨trivial,?_⟩;gi_at_call 59;refine (callsIn_wide.2 h59).mono ?_;rintro e W' ⟨A,B,cap,rfl,hA,hJ⟩)
 gi_loopw [10] (λi wr=>∃k:Nat,k<=n/\i=.int .i64 k/\J B cap k wr) (λi _=>n-(intOf i).toNat)
 case atStart=>exact ⟨0,eC _,rfl,hJ⟩
 case round=>
  obtain⟨k,hk,rfl,hJs⟩:=hrel;by_cases eK:k<n
  ·obtain ⟨c1,c2,c3,c4⟩:=hc _ _ _ _ hJs eK;obtain rfl:=hA (by omega)
   gi_wp2_with (refine⟨trivial,?_⟩;gi_at_call 60;refine (callsIn_wide.2 (h60 _ _ _ _ hJs eK)).mono ?_;rintro e W' ⟨b,rfl,Ax,dZ⟩;cases b)
   ·gi_wp2
    have Jd:J B cap (k+1) W':=by simpa using Ax
    refine⟨λ_ h=>(by cases h),?_⟩
    gi_wp2
    go_roundw
    case rel=>exact ⟨k+1,by omega,by simp,Jd⟩
    case measure=>simp[intOf];omega
   ·obtain ⟨fn,tmps,assign,body,hy,hR⟩:=(show YieldAt _ _ _ _ _ _ _ by simpa using dZ)
    rw[hy]
    gi_wp2
    refine hR.mono ?_;rintro e W3 (⟨rfl,hJ3⟩|⟨rfl,ala⟩)
    ·gi_wp2
     go_roundw
     case rel=>exact ⟨k+1,by omega,by simp,hJ3⟩
     case measure=>simp[intOf];omega
    ·gi_wp2
     refine bodyPost_ret (results_none rfl _ _ _) rfl ?_;exact⟨⟨_,rfl⟩,.inr ala⟩
  ·obtain rfl:k=n:=by omega
   gi_wp2
   go_end0
   exact⟨⟨_,rfl⟩,.inl ⟨_,_,hJs⟩⟩
structure dy(M:Nat->Prop)(w w':World):Prop where
 os:w'.os=w.os
 tape:w'.tape=w.tape
 out:w'.output=w.output
 size:w.heap.size<=w'.heap.size
 oQ:∀k,k<w.heap.size->¬M k->w'.heap[k]?=w.heap[k]?
 shape:∀k,Shape w w' k
theorem dy.trans {w w1 w2:World} (h:dy M w w1) (h':dy M' w1 w2) (hM:∀k,M' k->M k∨w.heap.size<=k):dy M w w2:=⟨h'.os.trans h.os,h'.tape.trans h.tape,h'.out.trans h.out,dI h.size h'.size,λk hk hm=>(h'.oQ k (gC hk h.size) (λe=>(hM k e).elim hm (by omega))).trans (h.oQ k hk hm),λk=>(h.shape k).trans (h'.shape k)⟩
theorem dy.alloc (M:Nat->Prop) (w:World) (o:Obj):dy M w (w.alloc o):=⟨rfl,rfl,rfl,by simp,λk hk _=>Below.heap_alloc w o k hk,λk=>λcur t fr hc=>⟨cur,(Below.heap_alloc w o k (eT.1 hc).1).trans hc,rfl⟩⟩
theorem dy.putObj {w:World} {o':Obj} (hl:w.heap[l]?=some o) (ho:o.isCells=false) (hM:M l):dy M w (w.putObj l o'):=⟨rfl,rfl,rfl,by simp,λk _ hm=>World.putObj_heap_other (λe=>hm (e▸hM)),λk cur t fr hc=>⟨cur,(World.putObj_heap_other (λe=>by subst e;rw[hl]at hc;cases hc;cases ho)).trans hc,rfl⟩⟩
theorem dy.setCell {w:World} {b:Nat} (v':Value) (hb:Boxed w b t v) (hM:M b):dy M w (w.setCell ⟨b,0,none⟩ v'):=
 ⟨rfl,rfl,rfl,(KeepsWalks.setCell w _ v').size,λk _ hm=>Below.heap_setCell _ _ _ k (λe=>hm (by have e:k=b:=e;rw[e];exact hM)),λk cur t' fr hc=>by
  by_cases e:k=b
  ·subst e;rw[show w.heap[k]?=_ from hb]at hc;cases hc;exact⟨_,hb.set v',rfl⟩
  ·exact ⟨cur,(Below.heap_setCell _ _ _ k (λe'=>e e')).trans hc,rfl⟩⟩
theorem FF{w:World}(base:Nat)(t ty e:TypeId)(i:TypeInfo)(z:Value)(size bytes:Nat)(ht:P.underlying t=some (.slice e))(hi:P.info? e=some i)(hz:i.zero=some z)
  (oo:i.size=size) (Wt:i.bytes=bytes) (Fg:z.cells.size=size) (dh:0<size)
  (v:Value) (n:Nat) (xs:List Value) (qH:w.ownsRow base e size v n xs)
  (a:Addr) (m c:Nat) (news:List Value) (hl:news.length=m*size) (P3:∀j u,news[j]?=some u->w.cell? (a.add j)=some u) (h1:∀u∈news,u.oneCell'=true)
  (h63:n+m<=maxLen) (mM:(n+m)*bytes<=140737488355328) (sn:base<=w.heap.size) (hm:0<m):
  ∃v' w',(Builtin.append_ #[t,t] ty #[v,.slice (some a) m c]).run P w=.ok v' w'/\w'.ownsRow base e size v' (n+m) (xs++news)/\dy (λk=>some k=v.ownBlock) w w'/\(∀k,some k=v'.ownBlock->some k=v.ownBlock∨(w.heap.size<=k/\k<w'.heap.size)):=by
 obtain⟨v',w',hr,h2,h3,h4⟩:=run_append_own (P:=P) (w:=w) base t ty e i z size bytes ht hi hz oo Wt Fg dh v n xs qH a m c news hl P3 h1 h63 mM sn;have both:(∀k,Shape w w' k)/\∀k,some k=v'.ownBlock->some k=v.ownBlock∨(w.heap.size<=k/\k<w'.heap.size):=by
  subst oo;subst Wt;have aaO:n+m<=9223372036854775807:=by simp only[maxLen]at h63;omega
  have E6:∀(o:Obj) k,Shape w (w.drew.alloc o) k:=λo k cur tt fr hc=>⟨cur,(Below.heap_alloc w.drew o k (eT.1 hc).1).trans hc,rfl⟩
  have new:∀(o:Obj)(n c:Nat) k,some k=(Value.slice (some ⟨w.heap.size,0,none⟩) n c).ownBlock->w.heap.size<=k/\k<(w.drew.alloc o).heap.size:=λo n c k hk=>by
   have:k=w.heap.size:=by simpa[Value.ownBlock]using hk
   subst this;refine⟨aP _,?_⟩;show w.heap.size<(w.heap.push o).size;simp
  rcases qH.2 with⟨rfl,rfl⟩|⟨g,cap,cur,rfl,hbg,hg,hnc,E1,jl,VH⟩
  ·have yQ:=run_append_nil (P:=P) w t ty e i z ht hi hz a m c news hl P3 (by omega) (by omega) (by have hb:=mM;simp only[cS]at hb;omega);rw[yQ]at hr;cases hr;exact⟨E6 _,λk hk=>.inr (new _ _ _ k hk)⟩
  ·by_cases AD:n+m<=cap
   ·have ga:n*i.size+news.length<=cur.size:=by rw[hl,jl,<-ew];exact fK _ AD
    have yQ:=run_append_room (P:=P) w t ty e i ht hi g n cap cur hg a m c news hl P3 h1 AD ga;rw[yQ]at hr;cases hr;refine⟨λk fE tt fr hc=>?_,λk hk=>.inl hk⟩;by_cases ek:k=g
    ·subst ek;rw[hg]at hc;cases hc;refine⟨_,o7 w k _ _ e _ hg,?_⟩;simp only[mN,kR,my,xi,pN];omega
    ·exact ⟨fE,(nR w g k _ ek).trans hc,rfl⟩
   ·have holds:∀j u,xs[j]?=some u->w.cell? ((⟨g,0,none⟩:Addr).add j)=some u:=qH.cells (g:=g) rfl;have yQ:=run_append_grow (P:=P) w t ty e i z ht hi hz ⟨g,0,none⟩ n cap xs qH.1 holds a m c news hl P3 (by omega) (by omega) (growslice_fits (by omega) mM);rw[yQ]at hr;cases hr;exact⟨E6 _,λk hk=>.inr (new _ _ _ k hk)⟩
 exact⟨v',w',hr,h2,⟨h3.os,h3.tape,h3.output,h3.size,λk hk hm=>h3.block k hk (λe=>hm e),both.1⟩,both.2⟩
theorem N6{P:Program}{g:Operand}{ps:Array Tmp}{assign body:Code}{Q:Exit->Act->World->Prop}{a:Act}{w:World}{gf:Nat}{lb:Array Value}(hg:a.eval g=.func (.func gf) #[] lb)
  (eg:∀args w,(callFunc gf args).run P w=.ok (.enter gf args) w)
  (H:∀(W1:World)(rec:LoopState->Option Code->Obj),dy (λ_=>False) w W1->W1.heap[w.heap.size+1]?=some (rec .ready none)->W1.heap[w.heap.size]?=some (.deferred (some []))->(∀st pe,(rec st pe).isCells=false)->
    (∀(W:World)(x:Array Value)(R:Ending->World->Prop),W.heap[w.heap.size+1]?=some (rec .ready none)->x.size=ps.size->
      assign.wpIn (Fence.wide.inRound (w.heap.size+1)) 2 P (Exit.then (λa₁ w₁=>w₁.heap[w.heap.size+1]?=some (rec .ready none)/\body.wpIn (Fence.wide.inRound (w.heap.size+1)) 2 P (λe _ w₂=>match e with
       |.normal=>w₂.heap[w.heap.size+1]?=some (rec .busy none)/\R (.returned (.bool true)) (w₂.putObj (w.heap.size+1) (rec .ready none))|.ret=>w₂.heap[w.heap.size+1]?=some (rec .busy none)/\R (.returned (.bool false)) (w₂.putObj (w.heap.size+1) (rec .done (some .ret)))
       |_=>False) a₁ (w₁.putObj (w.heap.size+1) (rec .busy none))) (λ_ _ _=>False)) {tmps:=(ps.zip x).foldl (λt(p,v)=>t.setIfInBounds p v) a.tmps,defers:=[]} W->
      YieldAt Fence.wide 2 P (w.heap.size+1) x W R)->
    CallsIn Fence.wide 2 P gf (#[.func (.yield (w.heap.size+1)) #[] #[]]++lb) W1 λe W2=>(∃v,e=.returned v)/\((W2.heap[w.heap.size+1]?=some (rec .ready none)/\Q .normal {a with defers:={target:=.collected w.heap.size,args:=#[]}::a.defers} (W2.putObj (w.heap.size+1) (rec .exhausted none)))∨(W2.heap[w.heap.size+1]?=some (rec .done (some .ret))/\Code.ret.wpIn Fence.wide 3 P Q {a with defers:={target:=.collected w.heap.size,args:=#[]}::a.defers} (W2.putObj (w.heap.size+1) (rec .exhausted (some .ret)))))):
  (Code.rangeFunc g ps assign body).wpIn Fence.wide 3 P Q a w:=by
 refine wpIn_rangeFunc ?_;intro fn hfn;show∃_,_;obtain⟨rec,aH⟩:∃rec:LoopState->Option Code->Loop,rec=λst pe=>{state:=st,pending:=pe,fn,tmps:=a.tmps,params:=ps,assign,body,defers:=w.heap.size}:=⟨_,rfl⟩
 obtain⟨W1,hW1⟩:∃W1,(w.alloc (.deferred (some []))).alloc (.loop (rec .ready none))=W1:=⟨_,rfl⟩
 have WE:W1.heap[w.heap.size+1]?=some (.loop (rec .ready none)):=by rw[<-hW1];have:=World.alloc_heap_new (w.alloc (.deferred (some []))) (.loop (rec .ready none));rwa[World.size_alloc]at this
 have hK1:W1.heap[w.heap.size]?=some (.deferred (some [])):=by rw[<-hW1];exact (Below.heap_alloc _ _ _ (by simp)).trans (World.alloc_heap_new w _)
 have hT:dy (λ_=>False) w W1:=by rw[<-hW1];exact (dy.alloc _ w _).trans (dy.alloc (λ_=>False) _ _) (λ_ h=>h.elim)
 refine⟨w.heap.size+1,[{target:=.collected w.heap.size,args:=#[]}],W1,{target:=.fn (.func gf) lb,args:=#[.func (.yield (w.heap.size+1)) #[] #[]]},W1,gf,#[.func (.yield (w.heap.size+1)) #[] #[]]++lb,W1,?_,?_,?_,?_,λ_=>by decide,?_⟩
 ·rw[<-hW1,aH];exact run_enterLoop_outer _ _ _ _ _
 ·simp only[resolve,hg];simp[go_sem]
 ·intro f' Jt;trivial
 ·simp[invoke,go_sem,eg]
 ·refine (H W1 (λst pe=>.loop (rec st pe)) hT WE hK1 (λ_ _=>rfl) ?_).mono ?_
  ·intro W x R hl hx afJ;have hy:=run_yield (P:=P) (args:=x) hl (by rw[aH];exact hx);rw[aH]at hy;refine⟨fn,_,assign,body,hy,roundIn_of_wpIn hfn (wpIn_mono afJ ?_)⟩;rintro e a₁ w₁ hp;cases e with
   |normal=>
    obtain⟨BA,hb⟩:=hp;refine⟨_,run_beginRound BA (by rw[aH]),?_⟩;have e1:({rec .ready none with state:=.busy}:Loop)=rec .busy none:=by rw[aH]
    rw[e1];refine wpIn_mono hb ?_;rintro e a3 W3 hp;cases e with
    |normal=>
     obtain⟨VI,hR⟩:=hp;refine⟨_,_,run_endRound none VI,?_⟩;have e2:({rec .busy none with state:=(if(none:Option Code).isNone then .ready else .done),pending:=none}:Loop)=rec .ready none:=by rw[aH];rfl
     rw[e2];exact hR
    |ret=>
     obtain⟨VI,hR⟩:=hp;refine⟨_,_,run_endRound (some .ret) VI,?_⟩;have e2:({rec .busy none with state:=(if(some Code.ret).isNone then .ready else .done),pending:=some .ret}:Loop)=rec .done (some .ret):=by rw[aH];rfl
     rw[e2];exact hR
    |_=>exact hp.elim
   |_=>exact hp.elim
  ·rintro e W2 ⟨⟨v,rfl⟩,(⟨hl,hQ⟩|⟨hl,hQ⟩)⟩
   ·refine ⟨none,_,by have:=run_endLoop (P:=P) hl (by rw[aH];simp);rw[aH]at this;exact this,?_⟩;rw[aH]at hQ;exact hQ
   ·refine ⟨some .ret,_,by have:=run_endLoop (P:=P) hl (by rw[aH];simp);rw[aH]at this;exact this,?_⟩;rw[aH]at hQ;exact hQ
attribute [local go_sem] Oper.semAt_some
theorem wD{F:Fence}{n:Nat}(w:World){ops:Array Oper}{rest:List Oper}{o:Oper}{a:Act}{Q:Exit->Act->World->Prop}
  (hg:o.guard=none) (s x:Operand) (t:TypeId) (sX:o.op=Op.call {callee:=Callee.builtin Builtin.append,args:=#[s,x],argTypes:=#[t,t]})
  (base:Nat) (e:TypeId) (i:TypeInfo) (z:Value) (size bytes:Nat) (h1:P.underlying t=some (.slice e)) (h2:P.info? e=some i) (h3:i.zero=some z) (h4:i.size=size) (h5:i.bytes=bytes) (h6:z.cells.size=size) (h7:0<size)
  (v:Value) (k:Nat) (xs:List Value) (hs:a.eval s=v) (qH:w.ownsRow base e size v k xs) (ad:Addr) (m c:Nat) (news:List Value) (hx:a.eval x=.slice (some ad) m c) (hn:news.length=m*size)
  (hc:∀j u,news[j]?=some u->w.cell? (ad.add j)=some u) (h1c:∀u∈news,u.oneCell'=true) (b1:k+m<=maxLen) (b2:(k+m)*bytes<=140737488355328) (b3:base<=w.heap.size) (hm:0<m)
  (hK:∀v' w',w'.ownsRow base e size v' (k+m) (xs++news)->dy (λk=>some k=v.ownBlock) w w'->(∀k,some k=v'.ownBlock->some k=v.ownBlock∨(w.heap.size<=k/\k<w'.heap.size))->wpListIn F n P ops Q rest (a.put o.dst v') w'):
  wpListIn F n P ops Q (o::rest) a w:=by
 refine wpListIn_plain hg λK L6=>?_;obtain⟨v',w',cu,r1,r2,r3⟩:=FF (P:=P) (w:=w) base t o.type e i z size bytes h1 h2 h3 h4 h5 h6 h7 v k xs qH ad m c news hn hc h1c b1 b2 b3 hm;unfold Oper.wpIn;refine⟨?_,?_⟩
 ·simp[Oper.about,sX,resolve,Target.leads,b9]
 ·rw[Oper.semAt_plain F _ _ (by rw[sX];intro c kA;cases kA)];simp[execOp,sX,resolve,invoke,builtin,hs,hx,cu,Result.andThen];exact L6 _ _ (hK v' w' r1 r2 r3)
theorem kM{W:World}{size:Nat}(h:W.ownsRow base e size v k xs)(hk:∀g,some g=v.ownBlock->W'.heap[g]?=W.heap[g]?):W'.ownsRow base e size v k xs:=by refine⟨h.1,h.2.imp id ?_⟩;rintro⟨g,cap,cur,rfl,hb,hg,rest⟩;exact⟨g,cap,cur,rfl,hb,(hk g rfl).trans hg,rest⟩
theorem fQ{W:World}{size:Nat}(h:W.ownsRow base e size v k xs){g:Nat}(hg:some g=v.ownBlock):∃cur,W.heap[g]?=some (.cells cur e (0,0)):=by
 rcases h.2 with⟨rfl,_⟩|⟨g',cap,cur,rfl,hb,hgg,rest⟩
 ·simp[Value.ownBlock]at hg
 ·obtain rfl:g=g':=by simpa[Value.ownBlock]using hg
  exact⟨cur,hgg⟩
theorem Je(W:World)(x y:Value)(t:TypeId):∀(j:Nat) u,[x,y][j]?=some u->(W.alloc (.cells #[x,y] t)).cell? ((⟨W.heap.size,0,none⟩:Addr).add j)=some u:=by
 intro j u h;have hb:=World.alloc_heap_new W (.cells #[x,y] t);have key:∀i:Nat,(W.alloc (.cells #[x,y] t)).cell? ⟨W.heap.size,i,none⟩=#[x,y][i]?:=λi=>by unfold World.cell?;rw[hb];rfl
 match j,h with
 |0,h=>exact (key 0).trans h|1,h=>exact (key 1).trans h
 |j+2,h=>simp at h
theorem dy.mono {w w':World} (h:dy M w w') (hM:∀k,M k->M' k):dy M' w w':=⟨h.os,h.tape,h.out,h.size,λk hk hm=>h.oQ k hk (λe=>hm (hM k e)),h.shape⟩
theorem ko{W:World}{cur:Array Value}{fr:Nat×Nat}(h:W.heap[k]?=some (.cells cur t fr))(hl:W.heap[l]?=some o)(ho:o.isCells=false):k≠l:=λe=>by subst e;rw[h]at hl;cases hl;cases ho
theorem qm{W:World}{size:Nat}(h:W.ownsRow base e size v k xs):∃A cap,v=.slice A k cap:=by
 rcases h.2 with⟨rfl,rfl⟩|⟨g',cap,cur,rfl,_⟩
 ·exact ⟨_,_,rfl⟩
 ·exact ⟨_,_,rfl⟩
section
variable{β σ:Type}(bs:β->ByteArray)(f:β->σ->Option (Bool×σ))
def B6:List β->List β->σ->Option ((List β×Bool)×σ)
 |[],out,h=>some ((out,false),h)|s::ss,out,h=>(f s h).bind λy=>bif y.1 then(bif Nat.beq out.length 64 then some ((out,true),y.2)else B6 ss (out++[s]) y.2)else B6 ss out y.2
def flat(out:List β):List Value:=out.flatMap λs=>[Value.string (bs s),.int .i64 0]
theorem RT(out:List β)(s:β):flat bs (out++[s])=flat bs out++[.string (bs s),.int .i64 0]:=by simp[flat]
structure Loc(N:Nat)(names:List β)(M:Nat->Prop)(B:Nat)(z2 z3 v:Value)(out:List β)(W:World):Prop where
 m2:M N
 m3:M (N+1)
 m4:M (N+2)
 mD:M (N+3)
 ml:M (N+4)
 mB:0<names.length->M B
 hB:0<names.length->∃cur,W.heap[B]?=some (.cells cur 9 (0,0))/\∀(j:Nat) s,names[j]?=some s->cur[j]?=some (.string (bs s))
 b2:Boxed W N 31 z2
 b3:Boxed W (N+1) 4 z3
 b4:Boxed W (N+2) 31 v
 D:W.heap[N+3]?=some (.deferred (some []))
 row:W.ownsRow N 81 2 v out.length (flat bs out)
 mr:∀k,some k=v.ownBlock->M k
 len:out.length<=64
theorem Loc.kept {bs:β->ByteArray} {N:Nat} {names:List β} {B:Nat} {z2 z3:Value} {out:List β} {W:World} (h:Loc bs N names M B z2 z3 v out W) (hk:∀b,M b->W'.heap[b]?=W.heap[b]?):Loc bs N names M B z2 z3 v out W':=⟨h.m2,h.m3,h.m4,h.mD,h.ml,h.mB,λhn=>by obtain ⟨cur,h1,h2⟩:=h.hB hn;exact ⟨cur,(hk B (h.mB hn)).trans h1,h2⟩,(hk _ h.m2).trans h.b2,(hk _ h.m3).trans h.b3,(hk _ h.m4).trans h.b4,(hk _ h.mD).trans h.D,kM h.row λg hg=>hk g (h.mr g hg),h.mr,h.len⟩
theorem acz:(Tryz.prog.info? 81).map (λi=>(i.zero,i.size,i.bytes))=some (some (.agg #[.string ⟨#[]⟩,.int .i64 0]),2,24):=by kernel_rfl
theorem VJ(N:Nat)(A:Option Addr)(n c:Nat)(bb:Bool)(R:Ending->World->Prop)(tmps:Array Value)(W:World)(h2:Boxed W N 31 (.slice A n c))(h3:Boxed W (N+1) 4 (.bool bb))(hD:W.heap[N+3]?=some (.deferred (some [])))
  (L7:tmps[2]?=some (.pointer (some ⟨N,0,none⟩))) (ht3:tmps[3]?=some (.pointer (some ⟨N+1,0,none⟩))) (hR:R (.returned (.tuple #[.slice A n c,.bool bb])) (W.putObj (N+3) (.deferred none))):
  bodyPostM Fence.wide 3 Tryz.prog Tryz.f29 R .ret {tmps:=tmps,defers:=[{target:=Target.collected (N+3),args:=#[]}]} W:=by
 refine⟨by simp,.inl ⟨_,_,rfl,run_takeDeferred hD,?_⟩⟩;have q2:(W.putObj (N+3) (.deferred none)).cell? ⟨N,0,none⟩=some (.slice A n c):=by have:Boxed (W.putObj (N+3) (.deferred none)) N 31 (.slice A n c):=(World.putObj_heap_other (by omega)).trans h2;exact this.cell
 have q3:(W.putObj (N+3) (.deferred none)).cell? ⟨N+1,0,none⟩=some (.bool bb):=by have:Boxed (W.putObj (N+3) (.deferred none)) (N+1) 4 (.bool bb):=(World.putObj_heap_other (by omega)).trans h3;exact this.cell
 refine⟨.tuple #[.slice A n c,.bool bb],?_,hR⟩;simp[results,Tryz.results29,L7,ht3,q2,q3,go_sem]
set_option maxRecDepth 100000 in
set_option maxHeartbeats 4000000 in
theorem acA(A1 A2 A3:Addr)(v1 v2 v3:Value)(T:σ->(Nat->Prop)->World->Prop)(names:List β)(h0 h1:σ)(r:(List β×Bool)×σ)(hg:B6 f names [] h1=some r)(hn:names.length<=maxLen)(w:World)
  (so:∀h M W W',T h M W->dy M W W'->T h (λb=>M b∨(W.heap.size<=b/\b<W'.heap.size)) W')
  (mG:∀h(M M':Nat->Prop) W,T h M W->(∀k,M' k->M k)->T h M' W)
  (jm:∀h M W,T h M W->W.cell? A1=some v1/\W.cell? ⟨A2.block,A2.off+1,none⟩=some v2/\W.cell? A3=some v3)
  (h59:∀M W,T h0 M W->Calls Tryz.prog 59 #[v1] W λe W'=>∃(A:Option Addr)(B cap:Nat)(cur:Array Value),e=.returned (.slice A names.length cap)/\(0<names.length->A=some ⟨B,0,none⟩/\W'.heap[B]?=some (.cells cur 9 (0,0)))/\(∀(j:Nat) s,names[j]?=some s->cur[j]?=some (.string (bs s)))/\T h1 (λb=>M b∨(0<names.length/\b=B)) W'/\W.heap.size<=W'.heap.size/\∀b,M b->W'.heap[b]?=W.heap[b]?)
  (h60:∀h s b h' M W,T h M W->f s h=some (b,h')->Calls Tryz.prog 60 #[v1,.string (bs s),v2,v3] W λe W'=>e=.returned (.bool b)/\T h' M W'/\W.heap.size<=W'.heap.size/\∀b,M b->W'.heap[b]?=W.heap[b]?)
  (hT:T h0 (λ_=>False) w):
  Calls Tryz.prog 29 #[.func (.func 58) #[] #[.pointer (some A1),.pointer (some A2),.pointer (some A3)]] w λe W'=>∃v M,e=.returned (.tuple #[v,.bool r.1.2])/\T r.2 M W'/\W'.ownsRow w.heap.size 81 2 v r.1.1.length (flat bs r.1.1)/\∀k,some k=v.ownBlock->M k:=by
 have jX:Fence.wide.round=none:=rfl;have hN1:(1:Nat)<=3:=by decide
 obtain⟨i0,hi,hz0,AE,J4⟩:=info_parts acz;refine(callsIn_wide (n:=3)).1 ?_;refine callsIn_of_wp_marks Tryz.func29 rfl trivial ?_ jX;simp only[Tryz.ntmps29,mN,dE,kS,Nat.reduceAdd,Nat.reduceSub,Array.replicate_succ,Array.replicate_zero,List.push_toArray,List.append_toArray,pq,ou]
 gi_wp2
 obtain⟨N,hN⟩:∃N,w.heap.size=N:=⟨_,rfl⟩
 obtain⟨Wi,hWi⟩:∃Wi,(((w.alloc (Obj.cells #[Value.slice none 0 0] 31)).alloc (Obj.cells #[Value.bool false] 4)).alloc (Obj.cells #[Value.slice none 0 0] 31))=Wi:=⟨_,rfl⟩
 have dh:Wi.heap.size=N+3:=by rw[<-hWi,<-hN];simp
 have i2:Boxed Wi N 31 (.slice none 0 0):=by rw[<-hWi,<-hN];exact ((Boxed.new w 31 _).alloc _).alloc _
 have i3:Boxed Wi (N+1) 4 (.bool false):=by rw[<-hWi,<-hN];have:=(Boxed.new (w.alloc (Obj.cells #[Value.slice none 0 0] 31)) 4 (.bool false)).alloc (Obj.cells #[Value.slice none 0 0] 31);rwa[World.size_alloc]at this
 have i4:Boxed Wi (N+2) 31 (.slice none 0 0):=by rw[<-hWi,<-hN];have:=Boxed.new ((w.alloc (Obj.cells #[Value.slice none 0 0] 31)).alloc (Obj.cells #[Value.bool false] 4)) 31 (.slice none 0 0);simpa using this
 have iT:dy (λ_=>False) w Wi:=by rw[<-hWi];exact ((dy.alloc _ w _).trans (dy.alloc (λ_=>False) _ _) (λ_ h=>h.elim)).trans (dy.alloc (λ_=>False) _ _) (λ_ h=>h.elim)
 rw[hWi,hN];clear hWi;refine N6 (gf:=58) (lb:=#[.pointer (some A1),.pointer (some A2),.pointer (some A3)]) rfl (enters_of Tryz.func58 (by kernel_rfl) rfl) ?_;rw[dh];intro W1 rec hT1 BA hD1 aH acB;have g1:=so _ _ _ _ hT (iT.trans hT1 λ_ h=>h.elim);have eK:N+4<W1.heap.size:=(eT.1 BA).1;have g2:=mG _ _ (λb=>N<=b/\b<N+5) _ g1 λk hk=>.inr ⟨by omega,by omega⟩;have VK:∀b,b<N+3->W1.heap[b]?=Wi.heap[b]?:=λb hb=>hT1.oQ b (by omega) λh=>h;let J:Nat->Nat->Nat->World->Prop:=λB cap k W=>∃out h M v,B6 f (names.drop k) out h=some r/\T h M W/\Loc bs N names M B (.slice none 0 0) (.bool false) v out W/\W.heap[N+4]?=some (rec .ready none)/\N+4<W.heap.size;let Jx:World->Prop:=λW=>∃B out h M v,r=((out,true),h)/\T h M W/\Loc bs N names M B v (.bool true) v out W/\W.heap[N+4]?=some (rec .done (some .ret));refine(callsIn_wide.2 (callsIn_wide.1 (acy (N+4) A1 A2 A3 v1 v2 v3 names.length hn (λk=>(names[k]?.map bs).getD ⟨#[]⟩) J Jx W1 (jm _ _ _ g2).1 ?_ ?_ ?_))).mono ?_
 ·refine (h59 _ _ g2).mono ?_;rintro e W' ⟨A,B,cap,cur,rfl,hA,sw,hT',Ht,hk⟩;refine⟨A,B,cap,rfl,λh=>(hA h).1,[],h1,_,.slice none 0 0,by simpa using hg,hT',?_,(hk _ (by omega)).trans BA,by omega⟩;refine⟨.inl (by omega),.inl (by omega),.inl (by omega),.inl (by omega),.inl (by omega),λh=>.inr ⟨h,rfl⟩,λh=>⟨cur,(hA h).2,sw⟩,?_,?_,?_,?_,World.ownsRow_nil _ _ _ _,λk hk=>by simp[Value.ownBlock]at hk,by simp⟩
  ·exact (hk N (by omega)).trans ((VK _ (by omega)).trans i2)
  ·exact (hk (N+1) (by omega)).trans ((VK _ (by omega)).trans i3)
  ·exact (hk (N+2) (by omega)).trans ((VK _ (by omega)).trans i4)
  ·exact (hk (N+3) (by omega)).trans hD1
 ·rintro B cap k W ⟨out,h,M,v,P4,hTW,hL,hl,hlW⟩ hk;obtain⟨cur,hB,sw⟩:=hL.hB (by omega);have hs:names[k]?=some names[k]:=cq hk;refine⟨?_,jm _ _ _ hTW⟩;simp only[World.cell?,hB,hs,bQ,dB];simpa using sw k _ hs
 ·rintro B cap k W ⟨out,h,M,v,P4,hTW,hL,hl,hlW⟩ hk;have hs:names[k]?=some names[k]:=cq hk;have hd:names.drop k=names[k]::names.drop (k+1):=uY hk;rw[hd]at P4;obtain⟨⟨b,h'⟩,hf,P4⟩:=Eu.1 P4;simp only[hs,bQ,dB];refine(h60 h names[k] b h' M W hTW hf).mono ?_;rintro e W' ⟨rfl,hT',Ht,fM⟩;refine⟨b,rfl,λhb=>?_,λhb=>?_⟩
  ·subst hb;exact⟨out,h',M,v,P4,hT',hL.kept fM,(fM _ hL.ml).trans hl,by omega⟩
  ·subst hb;have rh:=hL.kept fM;have jq:=(fM _ hL.ml).trans hl;clear hL hl hTW fM h59 h60;refine acB W' _ _ jq rfl ?_
   gi_wp2
   obtain⟨Wb,hWb⟩:∃Wb,(W'.alloc (Obj.cells #[Value.string (bs names[k]),Value.int IntKind.i64 0] 81))=Wb:=⟨_,rfl⟩
   rw[hWb];have alb:N+4<W'.heap.size:=(eT.1 jq).1;have kb:∀b,b<W'.heap.size->Wb.heap[b]?=W'.heap[b]?:=λb hb=>by rw[<-hWb];exact Below.heap_alloc _ _ _ hb
   have hlb:Wb.heap[N+4]?=some (rec .ready none):=(kb _ alb).trans jq;refine⟨hlb,?_⟩;obtain⟨Wc,hWc⟩:∃Wc,Wb.putObj (N+3+1) (rec .busy none)=Wc:=⟨_,rfl⟩
   rw[hWc];have tb:dy (λb=>b=N+4) W' Wb:=by rw[<-hWb];exact dy.alloc _ _ _
   have tc:dy (λb=>b=N+4) W' Wc:=by rw[<-hWc];exact tb.trans (dy.putObj (M:=λb=>b=N+4) hlb (aH _ _) rfl) λ_ h=>.inl h
   have Hs:Wc.heap[N+4]?=some (rec .busy none):=by rw[<-hWc];exact World.putObj_heap_same (eT.1 hlb).1
   have kc:∀b,b<W'.heap.size->b≠N+4->Wc.heap[b]?=W'.heap[b]?:=tc.oQ;have c2:Boxed Wc N 31 (.slice none 0 0):=(kc _ (by omega) (by omega)).trans rh.b2;have c3:Boxed Wc (N+1) 4 (.bool false):=(kc _ (by omega) (by omega)).trans rh.b3;have c4:Boxed Wc (N+2) 31 v:=(kc _ (by omega) (by omega)).trans rh.b4;have q2:=c2.cell;have q3:=c3.cell;have q4:=c4.cell;have p2:=c2.frozen;have p3:=c3.frozen;have p4:=c4.frozen;have VL:Wc.ownsRow N 81 2 v out.length (flat bs out):=kM rh.row λg hg=>kc g (by have:=rh.row.lt g hg.symm;omega) (by obtain ⟨cur,hc⟩:=fQ rh.row hg;exact ko hc jq (aH _ _));have aac:Wc.heap[W'.heap.size]?=some (.cells #[Value.string (bs names[k]),Value.int IntKind.i64 0] 81 (0,0)):=by rw[<-hWc,World.putObj_heap_other (by omega),<-hWb];exact World.alloc_heap_new _ _
   have hi0:Wc.cell? ⟨W'.heap.size,0,none⟩=some (.string (bs names[k])):=by simp[World.cell?,aac]
   have hi1:Wc.cell? ⟨W'.heap.size,1,none⟩=some (.int .i64 0):=by simp[World.cell?,aac]
   have hlen:=rh.len;have Mp:=tc.size;obtain⟨Av,wE,rfl⟩:=qm VL;clear hWc hWb;by_cases h64:out.length=64
   ·have alc:(out.length:Int)=64:=by omega
    gi_wp2
    rw[h64]at c4;have e1:=c2.set (.slice Av 64 wE);have u1:=dy.setCell (M:=λb=>b=N) (.slice Av 64 wE) c2 rfl;have c3':Boxed (Wc.setCell ⟨N,0,none⟩ (.slice Av 64 wE)) (N+1) 4 (.bool false):=(u1.oQ _ (by omega) (by omega)).trans c3;have e2:=c3'.set (.bool true);have u2:=dy.setCell (M:=λb=>b=N+1) (.bool true) c3' rfl;have VI:((Wc.setCell ⟨N,0,none⟩ (.slice Av 64 wE)).setCell ⟨N+1,0,none⟩ (.bool true)).heap[N+4]?=some (rec .busy none):=(u2.oQ _ (by have:=u1.size;omega) (by omega)).trans ((u1.oQ _ (by omega) (by omega)).trans Hs);refine⟨VI,?_⟩;have u3:=dy.putObj (M:=λb=>b=N+4) (o':=rec .done (some .ret)) VI (aH _ _) rfl;have tt:=((tc.mono (M':=λb=>b=N+4∨b=N∨b=N+1) (λ_ h=>.inl h)).trans u1 (λ_ h=>.inl (.inr (.inl h)))).trans u2 (λ_ h=>.inl (.inr (.inr h)));have t3:=tt.trans u3 (λ_ h=>.inl (.inl h));have g3:=so _ _ _ _ hT' (t3.mono λb hb=>by
     rcases hb with rfl|rfl|rfl
     ·exact rh.ml
     ·exact rh.m2
     ·exact rh.m3)
    have hr:r=((out,true),h'):=by rw[h64]at P4;exact(dc P4).symm
    refine⟨B,out,h',M,.slice Av 64 wE,hr,mG _ _ _ _ g3 (λ_ h=>.inl h),?_,World.putObj_heap_same (eT.1 VI).1⟩;have VM:∀g,some g=(Value.slice Av out.length wE).ownBlock->g≠N+4/\g≠N/\g≠N+1:=λg hg=>by
     obtain⟨cc,jn⟩:=fQ VL hg;refine⟨ko jn Hs (aH _ _),λe=>?_,λe=>?_⟩
     ·subst e;rw[show Wc.heap[g]?=_ from c2]at jn;cases jn
     ·subst e;rw[show Wc.heap[N+1]?=_ from c3]at jn;cases jn
    have Y8:=kM rh.row λg hg=>t3.oQ g (by have:=rh.row.lt g hg.symm;omega) (by have:=VM g hg;rintro (h|h|h)<;>omega);have hmr:=rh.mr;rw[h64]at Y8 hmr;refine⟨rh.m2,rh.m3,rh.m4,rh.mD,rh.ml,rh.mB,λhn=>?_,?_,?_,?_,?_,by rw[h64];exact Y8,hmr,by omega⟩
    ·obtain ⟨cc,jn,sw⟩:=rh.hB hn;refine⟨cc,(t3.oQ B (eT.1 jn).1 ?_).trans jn,sw⟩;rintro(h|h|h)
     ·subst h;rw[jq]at jn;exact ko (k:=N+4) (l:=N+4) (by rw[jq];exact jn) jq (aH _ _) rfl
     ·subst h;rw[show W'.heap[B]?=_ from rh.b2]at jn;cases jn
     ·subst h;rw[show W'.heap[N+1]?=_ from rh.b3]at jn;cases jn
    ·exact (u3.oQ _ (by have:=u1.size;have:=u2.size;omega) (by omega)).trans ((u2.oQ _ (by have:=u1.size;omega) (by omega)).trans e1)
    ·exact (u3.oQ _ (by have:=u1.size;have:=u2.size;omega) (by omega)).trans e2
    ·exact (u3.oQ _ (by have:=u1.size;have:=u2.size;omega) (by omega)).trans ((u2.oQ _ (by have:=u1.size;omega) (by omega)).trans ((u1.oQ _ (by omega) (by omega)).trans c4))
    ·exact (t3.oQ _ (by omega) (by omega)).trans rh.D
   ·have alc:¬(out.length:Int)=64:=by omega
    gi_wp2_with (gi_at_builtin;refine wD _ rfl _ _ 31 rfl N 81 i0 _ 2 24 Tryz.underlying31 hi hz0 AE J4 rfl (by decide) _ _ _ rfl (VL.alloc _) ⟨Wc.heap.size,0,none⟩ 1 1 [.string (bs names[k]),.int .i64 0] rfl rfl (Je _ _ _ _) (by simp[Value.oneCell']) (by simp[maxLen];omega) (by omega) (by have:=tc.size;simp;omega) (by decide) ?_;intro v' w1 P5 LA jd;obtain ⟨g',eY,rfl⟩:=ownsRow_succ P5;have Su:Boxed w1 (N+2) 31 (.slice Av out.length wE):=(LA.oQ (N+2) (by simp;omega) (λe=>by obtain ⟨cc,jn⟩:=fQ VL e;rw[show Wc.heap[N+2]?=_ from c4]at jn;cases jn)).trans (c4.alloc _);have sP:=Su.cell;have Mh:=Su.frozen)
    have VM:∀g,some g=(Value.slice Av out.length wE).ownBlock->g≠N+4/\g≠N/\g≠N+1/\g≠N+2:=λg hg=>by
     obtain⟨cc,jn⟩:=fQ VL hg;refine⟨ko jn Hs (aH _ _),λe=>?_,λe=>?_,λe=>?_⟩
     ·subst e;rw[show Wc.heap[g]?=_ from c2]at jn;cases jn
     ·subst e;rw[show Wc.heap[N+1]?=_ from c3]at jn;cases jn
     ·subst e;rw[show Wc.heap[N+2]?=_ from c4]at jn;cases jn
    have al:(Wc.alloc (.cells #[.string (bs names[k]),.int .i64 0] 81)).heap.size=Wc.heap.size+1:=by simp
    have t1:=((tc.mono (M':=λb=>b=N+4∨b=N+2∨some b=(Value.slice Av out.length wE).ownBlock) (λ_ h=>.inl h)).trans (dy.alloc (λ_=>False) Wc (.cells #[.string (bs names[k]),.int .i64 0] 81)) (λ_ h=>h.elim)).trans LA (λ_ h=>.inl (.inr (.inr h)));have u1:=dy.setCell (M:=λb=>b=N+2) (.slice (some ⟨g',0,none⟩) (out.length+1) eY) Su rfl;have t2:=t1.trans u1 (λ_ h=>.inl (.inr (.inl h)));have BA:w1.heap[N+4]?=some (rec .busy none):=(LA.oQ _ (by omega) (λe=>(VM _ e).1 rfl)).trans ((Below.heap_alloc _ _ _ (by omega)).trans Hs);have VI:=(u1.oQ (N+4) (by have:=LA.size;omega) (by omega)).trans BA;refine⟨VI,?_⟩;have u3:=dy.putObj (M:=λb=>b=N+4) (o':=rec .ready none) VI (aH _ _) rfl;have t3:=t2.trans u3 (λ_ h=>.inl (.inl h));have g3:=so _ _ _ _ hT' (t3.mono λb hb=>by
     rcases hb with rfl|rfl|h
     ·exact rh.ml
     ·exact rh.m4
     ·exact rh.mr _ h)
    have ald:B6 f (names.drop (k+1)) (out++[names[k]]) h'=some r:=by
     have:Nat.beq out.length 64=false:=by
      cases h:Nat.beq out.length 64 with
      |true=>exact absurd (bM h) h64|false=>rfl
     rw[this]at P4;exact P4
    have aad:∀g,some g=(Value.slice (some ⟨g',0,none⟩) (out.length+1) eY).ownBlock->g≠N+4/\g≠N+2:=λg hg=>by obtain⟨cc,jn⟩:=fQ P5 hg;refine⟨ko jn BA (aH _ _),λe=>?_⟩;subst e;rw[show w1.heap[N+2]?=_ from Su]at jn;cases jn
    have s1:=LA.size;have s2:=u1.size;have s3:=u3.size;have afK:=kM P5 λg hg=>u1.oQ g (P5.lt g hg.symm).2 (aad g hg).2;have Y8:=kM afK λg hg=>u3.oQ g (afK.lt g hg.symm).2 (aad g hg).1;refine⟨out++[names[k]],h',_,.slice (some ⟨g',0,none⟩) (out.length+1) eY,ald,g3,?_,World.putObj_heap_same (eT.1 VI).1,gC (show N+4<w1.heap.size by omega) (dI s2 s3)⟩;refine⟨.inl rh.m2,.inl rh.m3,.inl rh.m4,.inl rh.mD,.inl rh.ml,λhn=>.inl (rh.mB hn),λhn=>?_,?_,?_,?_,?_,?_,λg hg=>?_,by simp;omega⟩
    ·obtain ⟨cc,jn,sw⟩:=rh.hB hn;refine⟨cc,(t3.oQ B (eT.1 jn).1 ?_).trans jn,sw⟩;rintro(h|h|h)
     ·exact ko jn jq (aH _ _) h
     ·subst h;rw[show W'.heap[N+2]?=_ from rh.b4]at jn;cases jn
     ·obtain ⟨cc',VN⟩:=fQ rh.row h;rw[jn]at VN;cases VN
    ·exact (t3.oQ _ (by omega) (by have:=VM N;rintro (h|h|h);omega;omega;exact (this h).2.1 rfl)).trans rh.b2
    ·exact (t3.oQ _ (by omega) (by have:=VM (N+1);rintro (h|h|h);omega;omega;exact (this h).2.2.1 rfl)).trans rh.b3
    ·exact (u3.oQ _ (by omega) (by omega)).trans (Su.set _)
    ·refine (t3.oQ _ (by omega) ?_).trans rh.D;rintro(h|h|h)
     ·omega
     ·omega
     ·obtain ⟨cc',VN⟩:=fQ rh.row h;rw[rh.D]at VN;cases VN
    ·rw[RT];simpa using Y8
    ·rcases jd g hg with h|h
     ·exact .inl (rh.mr g h)
     ·exact .inr ⟨by omega,by omega⟩
 ·rintro e W2 ⟨hv,(⟨B,cap,hJ⟩|hJx)⟩
  ·obtain ⟨out,h,M,v,P4,hT2,hL,hl,hlW⟩:=hJ;refine⟨hv,.inl ⟨hl,?_⟩⟩;have u0:=dy.putObj (M:=λb=>b=N+4) (o':=rec .exhausted none) hl (aH _ _) rfl;obtain⟨W3,hW3⟩:∃W3,W2.putObj (N+3+1) (rec .exhausted none)=W3:=⟨_,rfl⟩
   rw[hW3];have u0:dy (λb=>b=N+4) W2 W3:=by rw[<-hW3];exact u0
   clear hW3;have c2:Boxed W3 N 31 (.slice none 0 0):=(u0.oQ _ (by omega) (by omega)).trans hL.b2;have c3:Boxed W3 (N+1) 4 (.bool false):=(u0.oQ _ (by omega) (by omega)).trans hL.b3;have c4:Boxed W3 (N+2) 31 v:=(u0.oQ _ (by omega) (by omega)).trans hL.b4;have q2:=c2.cell;have q3:=c3.cell;have q4:=c4.cell;have p2:=c2.frozen;have p3:=c3.frozen;have p4:=c4.frozen;have hr:r=((out,false),h):=by rw[List.drop_length]at P4;exact(dc P4).symm
   obtain⟨Av,wE,rfl⟩:=qm hL.row;have hD3:W3.heap[N+3]?=some (.deferred (some [])):=(u0.oQ _ (by omega) (by omega)).trans hL.D
   gi_wp2
   have u1:=dy.setCell (M:=λb=>b=N) (.slice Av out.length wE) c2 rfl;have c3':Boxed (W3.setCell ⟨N,0,none⟩ (.slice Av out.length wE)) (N+1) 4 (.bool false):=(u1.oQ _ (by have:=u0.size;omega) (by omega)).trans c3;have u2:=dy.setCell (M:=λb=>b=N+1) (.bool false) c3' rfl;have s0:=u0.size;have s1:=u1.size;have s2:=u2.size;have hD4:=(u2.oQ (N+3) (by omega) (by omega)).trans ((u1.oQ (N+3) (by omega) (by omega)).trans hD3);have u3:=dy.putObj (M:=λb=>b=N+3) (o':=.deferred none) hD4 rfl rfl;have tt:=((u0.mono (M':=λb=>b=N+4∨b=N∨b=N+1∨b=N+3) (λ_ h=>.inl h)).trans u1 (λ_ h=>.inl (.inr (.inl h)))).trans u2 (λ_ h=>.inl (.inr (.inr (.inl h))));have t3:=tt.trans u3 (λ_ h=>.inl (.inr (.inr (.inr h))));refine VJ N Av out.length wE false _ _ _ ?_ (c3'.set _) hD4 rfl rfl ⟨_,rfl,_,so _ _ _ _ hT2 (t3.mono ?_),kM hL.row λg hg=>t3.oQ g (by have:=hL.row.lt g hg.symm;omega) ?_,λk hk=>.inl (hL.mr k hk)⟩
   ·exact (u2.oQ _ (by omega) (by omega)).trans (c2.set _)
   ·rintro b (rfl|rfl|rfl|rfl)
    ·exact hL.ml
    ·exact hL.m2
    ·exact hL.m3
    ·exact hL.mD
   ·obtain ⟨cc,jn⟩:=fQ hL.row hg;rintro(e|e|e|e)
    ·exact ko jn hl (aH _ _) e
    ·subst e;rw[show W2.heap[g]?=_ from hL.b2]at jn;cases jn
    ·subst e;rw[show W2.heap[N+1]?=_ from hL.b3]at jn;cases jn
    ·exact ko jn hL.D rfl e
  ·obtain ⟨B,out,h,M,v,hr,hT2,hL,hl⟩:=hJx;refine⟨hv,.inr ⟨hl,?_⟩⟩;have hlW:N+4<W2.heap.size:=(eT.1 hl).1;have u0:=dy.putObj (M:=λb=>b=N+4) (o':=rec .exhausted (some .ret)) hl (aH _ _) rfl;obtain⟨W3,hW3⟩:∃W3,W2.putObj (N+3+1) (rec .exhausted (some .ret))=W3:=⟨_,rfl⟩
   rw[hW3];have u0:dy (λb=>b=N+4) W2 W3:=by rw[<-hW3];exact u0
   clear hW3;have hD3:W3.heap[N+3]?=some (.deferred (some [])):=(u0.oQ _ (by omega) (by omega)).trans hL.D
   gi_wp2
   obtain⟨Av,wE,rfl⟩:=qm hL.row;have s0:=u0.size;have u3:=dy.putObj (M:=λb=>b=N+3) (o':=.deferred none) hD3 rfl rfl;have t3:=(u0.mono (M':=λb=>b=N+4∨b=N+3) (λ_ h=>.inl h)).trans u3 (λ_ h=>.inl (.inr h));refine VJ N Av out.length wE true _ _ _ ?_ ?_ hD3 rfl rfl ⟨_,rfl,_,so _ _ _ _ hT2 (t3.mono ?_),kM hL.row λg hg=>t3.oQ g (by have:=hL.row.lt g hg.symm;omega) ?_,λk hk=>.inl (hL.mr k hk)⟩
   ·exact (u0.oQ _ (by omega) (by omega)).trans hL.b2
   ·exact (u0.oQ _ (by omega) (by omega)).trans hL.b3
   ·rintro b (rfl|rfl)
    ·exact hL.ml
    ·exact hL.mD
   ·obtain ⟨cc,jn⟩:=fQ hL.row hg;rintro(e|e)
    ·exact ko jn hl (aH _ _) e
    ·exact ko jn hL.D rfl e
end
end Go.Proofs.Mo
namespace Go.Ev
open Go
section
variable{P:Program}{E:Env}{w0 w w':World}{I0 I:Cells}{a a0 a':Nat->Option Ob}{u u':Nat->Bool}{M:Nat->Prop}
structure afL(E:Env)(w0 w:World)(I:Cells)(a:Nat->Option Ob)(B:Nat):Prop where
 fresh:E.fresh w0 B
 lt:B<w.heap.size
 mem:∀p,I p->p.block≠B
 bN:¬E.bN w B
 ob:∀j,a j≠none->I.ar j≠some B
structure tW(P:Program)(E:Env)(w0:World)(I0:Cells)(a:Nat->Option Ob)(u:Nat->Bool)(w:World)(I:Cells)(M:Nat->Prop):Prop where
 ar:yv P E w0 I0 a u w I
 own:∀k,M k->afL E w0 w I a k
theorem tW.less {M':Nat->Prop} (h:tW P E w0 I0 a u w I M) (hM:∀k,M' k->M k):tW P E w0 I0 a u w I M':=⟨h.ar,λk hk=>h.own k (hM k hk)⟩
theorem tW.step (h:tW P E w0 I0 a u w I M) (Ay:w'.os=w.os) (ji:w'.tape=w.tape) (mJ:w'.output=w.output) (dh:w.heap.size<=w'.heap.size) (et:∀k,k<w.heap.size->¬M k->w'.heap[k]?=w.heap[k]?)
  (FM:∀k,M k->Shape w w' k):tW P E w0 I0 a u w' I (λk=>M k∨(w.heap.size<=k/\k<w'.heap.size)):=by
 have U8:∀B',Shape w w' B':=λB'=>by
  by_cases e:M B'
  ·exact FM B' e
  ·intro cur t fr hc;exact⟨cur,(et B' (eT.1 hc).1 e).trans hc,rfl⟩
 have hs:=h.ar.since.step (I':=I) Ay ji mJ dh M (λk hk hm=>et k hk hm) (λk hk=>⟨(h.own k hk).fresh,(h.own k hk).bN⟩) U8 (λ_ h=>h) rfl (λ_ h=>.inl h);have hpM:∀p,I p->¬M p.block:=λp hp hm=>(h.own _ hm).mem p hp rfl;have G:cH w w' I I:=.world (λp v hp hv=>by rw[ct (et p.block (h.ar.since.lt p hp) (hpM p hp))];exact hv) U8;have hf:∀b,E.bN w' b->E.bN w b:=(E.stays w w' h.ar.since.inv λb hb=>et b (E.lt w b h.ar.since.inv hb) (λe=>(h.own b e).bN hb)).2;have JD:∀i B,(Yc a u).a i≠none->I.ar i=some B->¬M B:=λi B hi hB hm=>(h.own B hm).ob i hi hB;refine⟨⟨hs,rfl,.nil,λt ht=>(by omega),λd x hx=>(by cases hx),λd d' B h=>(h rfl).elim,λd B h=>(h rfl).elim,λd bo _ _ h=>(h rfl).elim,h.ar.aO.dN G rfl (λi B hi hB=>et B (h.ar.aO.own i B hi hB).2.1 (JD i B hi hB)) dh (λp hp=>.inl hp) (λb _ hb=>hf b hb) (λB hB=>.inl hB)⟩,λk hk=>?_⟩;rcases hk with hk|⟨JX,Iv⟩
 ·obtain ⟨q1,q2,q3,q4,q6⟩:=h.own k hk;exact⟨q1,by omega,q3,λhb=>q4 (hf k hb),q6⟩
 ·refine ⟨.inl (dI h.ar.since.size JX),Iv,λp hp e=>?_,λhb=>?_,λj hj hB=>?_⟩
  ·have:=h.ar.since.lt p hp;omega
  ·have:=E.lt w k h.ar.since.inv (hf k hb);omega
  ·have:=(h.ar.aO.own j k hj hB).2.1;omega
theorem tW.call {f:FuncId} {args:List AV} {vs:Array Value} {rs:List RV} (h:tW P (E.cx a0 I0) w0 I0 a u w I M) (hd:nE P E f args a u (.ret rs) a' u') (dH:mm w I vs.toList args):
  Calls P f vs w λe w'=>∃v I' bo,e=.returned v/\tW P (E.cx a0 I0) w0 I0 a' u' w' I' M/\cH w w' I I'/\w.heap.size<=w'.heap.size/\(∀k,M k->w'.heap[k]?=w.heap[k]?)/\(∀j B,bo j=some B->¬M B/\(E.cx a0 I0).fresh w0 B/\∀i,a' i≠none->I'.ar i≠some B)/\jr P (E.cx a I) w' I' ((E.cx a I).fresh w) bo v rs:=by
 refine(hd.2 w I vs h.ar.since.inv (λp hp=>⟨h.ar.since.lt p hp,h.ar.since.off p hp⟩) ⟨h.ar.aO.obj,h.ar.aO.inj,λj B h1 h2=>?_,h.ar.aO.un,λi x hx=>by cases hx⟩ dH).mono λe w' he=>?_
 ·obtain ⟨g1,g2,g3,g4,_⟩:=h.ar.aO.own j B h1 h2;exact⟨.inr (Env.eE.2 ⟨j,h1,h2⟩),g2,g3,g4,λh=>h⟩
 obtain⟨v,I',bo,rfl,hs,hr,Ax,dZ,hA⟩:=he;have WZ:∀k,M k->¬(E.cx a I).BK k:=λk hk hl=>by obtain⟨i,hi,hB⟩:=Env.eE.1 hl;exact(h.own k hk).ob i hi hB
 have C7:∀k,M k->w'.heap[k]?=w.heap[k]?:=λk hk=>hs.block k (h.own k hk).lt (h.own k hk).bN (WZ k hk);have hlI:∀p,I p->¬(E.cx a I).BK p.block:=λp hp hl=>by obtain⟨i,hi,hB⟩:=Env.eE.1 hl;exact(h.ar.aO.own i _ hi hB).2.2.1 p hp rfl
 have G:cH w w' I I':=⟨hs.more,hs.ar,λp v hp hv=>by rw[ct (hs.block p.block (h.ar.since.lt p hp) (h.ar.since.off p hp) (hlI p hp))];exact hv,hs.shape⟩
 have Az:∀k,k<w.heap.size->¬E.bN w k->¬E.bN w' k:=λk hk hn hb=>by
  rcases hs.bN k hb with h1|h1
  ·exact hn h1
  ·omega
 have hbM:∀j B,bo j=some B->¬M B:=λj B hB hm=>by
  rcases dZ j B hB with h1|h1
  ·have:=(h.own B hm).lt;omega
  ·exact WZ B hm h1
 refine⟨v,I',bo,rfl,⟨h.ar.ur (E:=E.cx a0 I0) rfl (λ_=>rfl) (a':=a') (u':=u') hs hA,λk hk=>?_⟩,G,hs.size,C7,λj B hB=>⟨hbM j B hB,?_,λi hi ly=>(hA.own i B hi ly).2.2.2.2 ⟨j,hB⟩⟩,hr⟩
 ·obtain ⟨q1,q2,q3,q4,q6⟩:=h.own k hk;refine⟨q1,gC q2 hs.size,λp hp e=>?_,Az k q2 q4,λj hj hB=>?_⟩
  ·rcases hs.new p hp with h1|h1|h1
   ·exact q3 p h1 e
   ·omega
   ·exact WZ k hk (by rw[<-e];exact h1)
  ·rcases (hA.own j k hj hB).1 with h1|h1
   ·omega
   ·exact WZ k hk h1
 ·rcases dZ j B hB with h1|h1
  ·exact .inl (dI h.ar.since.size h1)
  ·obtain ⟨i,hi,ly⟩:=Env.eE.1 h1;exact(h.ar.aO.own i B hi ly).1
end
end Go.Ev
