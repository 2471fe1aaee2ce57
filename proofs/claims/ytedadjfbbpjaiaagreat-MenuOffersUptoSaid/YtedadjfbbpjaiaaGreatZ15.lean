import Derived.Sort.Row
import Derived.Sort.EncStr
import Derived.Sort.Grow
import Derived.Test.YtedadjfbbpjaiaaGreatZ14
set_option linter.all false
namespace Go.X
open Go Go.Ev
section
variable{U:cm}{α:Type}(X:Ctx U)(esc:List (Nat×Nat))
noncomputable def U5 (nr:Nat) (c:Code) (m d:Nat) (a b:Ty) (mk:S U.C->Option (den U.C (.rJ a b))) (hint:Hint):abv U α:=λkx s k=>Ef X kx esc nr c s λs1=>match mk s1 with
 |some φ=>exec X kx esc (qk (nr+2) c) hint ((s1.put (some m) (.sC (.val (.rJ a b) φ))).put (some d) .none) k|none=>none
end
def Pt(P:Program)(e:TypeId):Bool:=match P.info? e with
 |some i=>match i.zero with
  |some (.agg _)=>false|some _=>true
  |none=>false
 |none=>false
theorem NR{P:Program}{e:TypeId}(h:Pt P e=true):∃zi z,P.info? e=some zi/\zi.zero=some z/\z.cells=#[z]:=by
 unfold Pt at h;split at h
 ·rename_i i hi;split at h
  ·cases h
  ·rename_i z hn hz;refine⟨i,z,hi,hz,?_⟩;cases z<;>first|rfl|exact absurd rfl (hn _)
  ·cases h
 ·cases h
section
variable{P:Program}{E:Env}{U:cm}{T:da U.C}{X:Ctx U}{w0:World}{I0:Cells}{n:Nat}{α:Type}{out:α}{kx:tz U->S U.C->Option α}{esc:List (Nat×Nat)}
variable(L:Lawful U T)
theorem Bu:∀{m:Nat}{c:Code},codeOk n c=true->codeOk n (qk m c)=true
 |0,c,h=>h|m+1,c,h=>by
  cases c with
  |seq a b=>simp only[codeOk,aD]at h;exact Bu (m:=m) h.2|_=>exact h
include L in
theorem U6(FD:P.follows .mixedOrders=true)(hX:bG P E T X){sB:S U.C}(hE:(∃k,sB.m k=true)->E.fixed=false){Z:AV->St->Prop}(hZ:∀av q',XE P E T X sB kx out av q'->Z av q'){nr:Nat}{c:Code}{m d:Nat}{a b:Ty}{mk:S U.C->Option (den U.C (.rJ a b))}{hint:Hint}
  {f i1 i2:Nat} {e:TypeId} {o1 o2 o3:Oper} {ts:List Nat} {zi:TypeInfo} {z:Value}
  (U7:qk nr c=.seq (.region i1 #[o1] false) (.seq (.region i2 #[o2,o3] false) (qk (nr+2) c))) (hz:P.info? e=some zi) (AE:zi.zero=some z) (J4:z.cells=#[z]) (sP:P.cellsOf e=1)
  (Sd:o1.op=.alloc e) (sF:o1.dst=some m) (Lr:o1.guard=none) (Zr:o2.op=.makeFunc (.func f) #[] (ts.map Operand.tmp++[Operand.tmp m]).toArray) (xh:o2.dst=some d) (hg2:o2.guard=none)
  (Md:o3.op=.store e (.tmp m) (.tmp d)) (hd3:o3.dst=none) (Sw:o3.guard=none) (hm:m<n) (hd:d<n) (Rn:d≠m)
  (L8:∀s1 q1 φ,aN P E T X s1 q1->mk s1=some φ->∃aX N,aX.length=ts.length/\(∀(j t:Nat),ts[j]?=some t->t<n/\t≠m/\∃av,aX[j]?=some av/\q1.r t=.val av)/\∀B,mT P E T (.mz a b) φ (tU B f aX N))
  (hc:codeOk n c=true):∀(s:S U.C)(k:Ex->S U.C->Option α)(q:St)(Q:bZ->St->Prop),bu sB s->U5 X esc nr c m d a b mk hint kx s k=some out->aN P E T X s q->(∀e s' q',aN P E T X s' q'->bu s s'->k e s'=some out->Q (ae e) q')->lz P E w0 I0 n c Q Z q:=λs k q Q hL h hS hQ=>by
 refine z6 L FD hX hE hZ nr c s _ q Q hc hL h hS λs' q' h1 h2 h3=>?_;split at h3
 ·rename_i φ hφ;obtain⟨aX,N,k1,k2,k3⟩:=L8 s' q' φ h1 hφ;rw[U7];refine U3 hz AE J4 sP Sd sF Lr Zr xh hg2 Md hd3 Sw hm hd Rn k1 k2 N λB=>?_;have Gx:=(h1.put (some m) (r:=.sC (.val (.rJ a b) φ)) (u:=.val (tU B f aX N)) (KU (ty:=.mz a b) (k3 B))).put (some d) (r:=.none) (u:=.none) (.none _);have WE:bu s' ((s'.put (some m) (.sC (.val (.rJ a b) φ))).put (some d) .none):=(bd _ _).trans (bd _ _);exact pX L hX hE (oP L FD hX) hZ _ hint _ k _ Q (Bu hc) (hL.trans (h2.trans WE)) h3 Gx λe s2 q2 g1 g2 g3=>hQ e s2 q2 g1 ((h2.trans WE).trans g2) g3
 ·cases h3
end
end Go.X
namespace Go.Ev
open Go
variable{a:Nat->Option Ob}{u:Nat->Bool}{i:Nat}
theorem nQ.xZ {P:Program} {E:Env} {w0 w w':World} {I:Cells} {T:Nat->Prop} (h:nQ P E w0 w I a u T) {B:Nat} {x:Ob} (hi:a i≠.none) (hB:I.ar i=some B) (G:cH w w' I I)
  (et:∀k,k<w.heap.size->k≠B->w'.heap[k]?=w.heap[k]?) (dh:w.heap.size<=w'.heap.size) (hx:qx P w' I B x) (hf:∀b,b<w.heap.size->E.bN w' b->E.bN w b) (jX:∀j,E.ro j=.none):nQ P E w0 w' I (bF a i (some x)) u T:=by
 have dA:∀j,bF a i (some x) j≠.none->a j≠.none:=λj hj=>by
  by_cases e:j=i
  ·subst e;exact hi
  ·rwa[ay _ _ e]at hj
 refine⟨λj y hy=>?_,λj j' B' h1 h2=>h.inj j j' B' (dA j h1) (dA j' h2),λj B' hj cZ=>?_,h.un,λj x h=>(by rw[jX]at h;cases h)⟩
 ·by_cases e:j=i
  ·subst e;rw[bA]at hy;cases hy;exact ⟨B,hB,hx⟩
  ·rw[ay _ _ e]at hy;obtain⟨B',h1,h2⟩:=h.obj j y hy;have hb:B'≠B:=λe'=>e (h.inj j i B' (by rw[hy];simp) hi h1 (by rw[hB,e']));exact⟨B',h1,h2.dN G (et B' (h.own j B' (by rw[hy];simp) h1).2.1 hb)⟩
 ·obtain ⟨q1,q2,q3,q4,q5⟩:=h.own j B' (dA j hj) cZ;exact⟨q1,by omega,q3,λhb=>q4 (hf B' q2 hb),q5⟩
section
open Go.RowKit Go.Sort Go.Proofs
def iC(ss:List (List UInt8)):List (List UInt8):=ss.mergeSort λx y=>decide (x<=y)
abbrev sAV(s:List UInt8):AV:=.fl (bs s)
variable{P:Program}{E:Env}{f:FuncId}
theorem NS(RJ:Enters P f)
  (nF:∀(oQ cap:Nat)(ss:List (List UInt8))(w:World),Holds encStr w oQ 0 ss.toArray->oQ<w.heap.size->ss.length<4611686018427387904->Calls P f #[.slice (some ⟨oQ,0,none⟩) ss.length cap] w λe w'=>e=.returned (.tuple #[])/\∃n os,w'=grow (putRow encStr (Sort.ahead w n) oQ 0 (iC ss).toArray) os) {e:TypeId} {ss:List (List UInt8)} (ha:a i=some (.aT e (ss.map sAV))) (hn:0<ss.length) (eK:ss.length<4611686018427387904) (hc:P.cellsOf e=1):
  nE P E f [.view i 1 ss.length] a u (.ret []) (bF a i (some (.aT e ((iC ss).map sAV)))) u:=by
 refine⟨RJ,λw0 I0 vs hinv hI hA dH=>?_⟩;obtain⟨hlen,hr⟩:=dH;have AO:vs.size=1:=by simpa using hlen
 obtain⟨v,rfl⟩:∃v,vs=#[v]:=⟨vs[0],by
  apply CL
  ·simp[AO]
  ·intro j h1 h2;have:j=0:=by omega
   subst this;rfl⟩
 have hv:=hr 0 v _ rfl rfl;obtain⟨B,hB,h0,iE,jk,cur,cap,hw,sw,gy,hle,vE⟩:=hA.obj i _ ha;rw[cM]at hle iE;have hsl:v=.slice (some ⟨B,0,none⟩) ss.length cap:=by
  generalize eS:AV.view i 1 ss.length=av at hv;cases hv with
  |view i' sz len B' eY e' fE A h qB hs hl hA'=>
   cases eS;rw[hB]at h;cases h;rw[hw]at qB;cases qB;have:eY=cap:=by rw[hc]at sw;omega
   subst this;rw[hA' (by omega)]
  |qv i' sz A cap h=>simp only[AV.view.injEq]at eS;omega|_=>cases eS
 subst hsl;obtain⟨q1,q2,q3,q4,_⟩:=hA.own i B (by rw[ha];simp) hB;have tu:∀j,(hj:j<ss.length)->cur[j]?=some (encStr ss[j]):=λj hj=>by
  have:=vE j 0 (sAV ss[j]) (sAV ss[j]) (by simp[hj]) rfl;rw[hc,yX,mL]at this;have h1:=bR this;have eK:j<cur.size:=by rw[sw,hc];omega
  simp only[jI,sW eK,dB]at h1;rw[sW eK,h1]
 have hH:Holds encStr w0 B 0 ss.toArray:=λj hj=>by
  have hj:j<ss.length:=by simpa using hj
  rw[cS];refine⟨?_,?_⟩
  ·simp only[World.cell?,hw];rw[getElem!_pos _ j (by simpa using hj)];simpa using tu j hj
  ·simp[World.frozen?,hw]
 refine(nF B cap ss w0 hH q2 eK).mono λe' w' he=>?_;obtain⟨rfl,n,os,rfl⟩:=he;have hl:B<w0.heap.size:=q2;obtain⟨w1,E3⟩:∃w1,grow (putRow encStr (Sort.ahead w0 n) B 0 (iC ss).toArray) os=w1:=⟨_,rfl⟩
 rw[E3];have hh:w1.heap=w0.heap.modify B (onCells (putCells encStr 0 (iC ss).toArray))++os:=by rw[<-E3];rfl
 have dh:w0.heap.size<=w1.heap.size:=by rw[hh];simp
 have lq:∀k,k<w0.heap.size->w1.heap[k]?=if B=k then(w0.heap[k]?).map (onCells (putCells encStr 0 (iC ss).toArray))else w0.heap[k]?:=λk hk=>by rw[hh,aaR (by simpa using hk),J6]
 have et:∀k,k<w0.heap.size->k≠B->w1.heap[k]?=w0.heap[k]?:=λk hk dA=>by rw[lq k hk,ai (c5 dA)]
 have hB1:w1.heap[B]?=some (.cells (putCells encStr 0 (iC ss).toArray cur) e (0,0)):=by rw[lq B q2,ap rfl,hw];rfl
 have aeS:(putCells encStr 0 (iC ss).toArray cur).size=cur.size:=by simp[putCells]
 have FM:∀B',Shape w0 w1 B':=λB' c t fr kA=>by
  by_cases e':B'=B
  ·subst e';rw[hw]at kA;cases kA;exact ⟨_,hB1,aeS⟩
  ·exact ⟨c,(et B' (eT.1 kA).1 e').trans kA,rfl⟩
 have G:cH w0 w1 I0 I0:=.world (λp v hp hv=>by rw[ct (et p.block (hI p hp).1 (q3 p hp))];exact hv) FM;have hs:er (E.cx a I0) w0 I0 w1 I0:=(er.refl (E:=E.cx a I0) hinv hI).step (by rw[<-E3];rfl) (by rw[<-E3];rfl) (by rw[<-E3];rfl) dh (λk=>k=B) (λk hk hm=>et k hk hm) (λk hk=>by subst hk;exact ⟨q1,q4⟩) FM (λ_ h=>h) rfl (λ_ h=>.inl h);have hf:∀b,E.bN w1 b->E.bN w0 b:=(E.stays w0 w1 hinv λb hb=>et b (E.lt w0 b hinv hb) (λe'=>q4 (e'▸hb))).2;have Z2:(iC ss).length=ss.length:=by simp[iC]
 refine⟨_,I0,λ_=>none,rfl,hs,⟨#[],rfl,rfl,λj r hj=>(by simp at hj)⟩,(λj j' B h=>by cases h),(λj B h=>by cases h),?_⟩;have:=hA.xZ (w':=w1) (x:=.aT e ((iC ss).map sAV)) (by rw[ha];simp) hB G et dh ⟨h0,by simpa[Z2]using iE,λj x hx=>?_,_,cap,hB1,by rw[aeS,sw],gy,by simpa[Z2]using hle,λj k x c hx kA=>?_⟩ (λb _ hb=>hf b hb) (λ_=>rfl)
 ·exact ⟨this.obj,this.inj,λj B' h1 h2=>by obtain ⟨g1,g2,g3,g4,_⟩:=this.own j B' h1 h2;exact ⟨g1,g2,g3,g4,λ⟨_,h⟩=>by cases h⟩,this.un,this.ro⟩
 ·obtain ⟨s,_,rfl⟩:=cK.1 (bC hx);exact⟨hc.symm,λc kA=>by simp[AV.cells]at kA;subst kA;rfl⟩
 ·simp only[dd,ck]at hx;obtain⟨s,hx,rfl⟩:=hx;have hk:k=0/\c=sAV s:=by
   cases k with
   |zero=>simp[AV.cells]at kA;exact ⟨rfl,kA.symm⟩|succ k=>simp[AV.cells]at kA
  obtain⟨rfl,rfl⟩:=hk;have hj:j<(iC ss).length:=(aV.1 hx).1;have SC:j<cur.size:=by rw[sw,hc];omega
  have:(putCells encStr 0 (iC ss).toArray cur)[j]?=some (encStr s):=by simp only[putCells,Array.getElem?_mapIdx,sW SC,bQ];rw[ap ⟨eC _,by simpa using hj⟩];simp only[rA];rw[getElem!_pos _ j (by simpa using hj)];have:=(aV.1 hx).2;simp[this]
  rw[hc,yX,mL];simp only[jI,this,dB];exact .fl _ rfl
theorem Ls(RJ:Enters P f)(nF:∀(A:Option Addr)(w:World),Calls P f #[.slice A 0 0] w λe w'=>e=.returned (.tuple #[])/\w'=w):nE P E f [.emp] a u (.ret []) a u:=by
 refine⟨RJ,λw0 I0 vs hinv hI hA dH=>?_⟩;obtain⟨hlen,hr⟩:=dH;have AO:vs.size=1:=by simpa using hlen
 obtain⟨v,rfl⟩:∃v,vs=#[v]:=⟨vs[0],by
  apply CL
  ·simp[AO]
  ·intro j h1 h2;have:j=0:=by omega
   subst this;rfl⟩
 have hv:=hr 0 v _ rfl rfl;obtain⟨A,rfl⟩:∃A,v=.slice A 0 0:=by
  generalize eS:AV.emp=av at hv;cases hv with
  |emp A=>exact ⟨A,rfl⟩|_=>cases eS
 refine(nF A w0).mono λe' w' he=>?_;obtain⟨rfl,rfl⟩:=he;exact⟨_,I0,λ_=>none,rfl,er.refl (E:=E.cx a I0) hinv hI,⟨#[],rfl,rfl,λj r hj=>(by simp at hj)⟩,(λj j' B h=>by cases h),(λj B h=>by cases h),⟨hA.obj,hA.inj,λj B' h1 h2=>by obtain ⟨g1,g2,g3,g4,_⟩:=hA.own j B' h1 h2;exact ⟨g1,g2,g3,g4,λ⟨_,h⟩=>by cases h⟩,hA.un,hA.ro⟩⟩
end
end Go.Ev
