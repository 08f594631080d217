/- Part 5. No condition. -/
import Derived.Test.YtiiglbogpodloaaGreatDoorA4
import Derived.Conc.CrowdComm
import Derived.Conc.SmallLaws
import Derived.Conc.EventLaws
set_option linter.all false
set_option maxHeartbeats 8000000
open Go.Proofs
open Go.Proofs.Tryz
open List renaming length → c, range → aA, getD_eq_getElem?_getD → al, all_eq_true → aW
open Go renaming Value → X, TypeId → an, World → au, Frame → aG, execOp → ab, Operand → ae, Program → aD, Goroutine → ag, Oper → ao
open Option renaming some → f, none → n
open Bool renaming true → l, false → v
open Nat renaming beq → ad, ble → ay
open Go.Op renaming bytesLess → aQ
open Go.Proofs.Tryz renaming prog → S
namespace Go.AM
variable {j A:Nat}{h:Int}{d i e u:Nat}{W:an}{H:X->(Nat->Option Obj)->Prop}{L:Array Bool}{bB:Mem}{F:Nat}{P:aD}{br:ag->a6->Prop}{s:Code}{C:ag}{r:ao}{b:a6}{o:an}{aa:X}{p:au}{α:Type}{η:ae->y}{ι:Type}{k:m ar}{J:bM}{all:m ao}{dt:Array an}{cap:m M}{cS:m y}{lc:Nat->Option Obj}{ai:m aG}{bf:m (Nat×Bool)}{V:Nat->m M}{cQ:ae}{gs:Array ag}{aY:m Nat}{cp:m Prop}{off:Nat}{op:BinOp}{aV:Array ao}{Z:m Prop}{bq:m ao}{aF:a6}{ty:an}{val:Nat->Nat->X}{z:m X}{bi:au}{ah:Array ae}{aq di:m ar}{res:ι->y}{aX:ι->m ar}
variable {CT:m (Nat×bI)}{av:m iv}{be:fF}{ac:m (Nat×cq)}{a5:cq}
def dH.cB:dH->Nat
 |.nil=>0
 |.ax a _ _ b=>a.cB+b.cB+1
namespace R1
variable {q:af S}
def VB(o)(j):Y q 215 [ax (eT o),R j] [] (R (o.find j)) []:=by
 refine Y.I func215 rfl λs=>?_;refine aR a B (g.loop (λd:dH=>d.find j=o.find j) (λd=>[(0,ax (eT d)),(1,R j)]) (λ_=>[]) (λd=>d.cB) o a (.cons a (eO a D)) a ?_);intro d b;cases d with
 |nil=>
  refine aR a B (g.aL (r1 a underlying270 a a a) a a ?_);refine a4 [-7,-15] a D (g.bs a a ?_);refine aR a B (g.aL (r1 a underlying270 a a a) a a ?_);refine aR a B (g.aw a ?_);exact bF
 |ax h e k i=>
  have r:(dH.ax h e k i).find j=if j=e then k else if j<e then h.find j else i.find j:=rfl;rw[r]at b;refine aR a B (g.aL (tG a underlying270 a a a) a a ?_);by_cases p:j=e
  .subst p;rw[bl a]at b;refine a4 [7,-15] a D (g.bs a a ?_);refine aR a B (g.aL (tG a underlying270 a a a) a a ?_);refine aR a B (g.aw a ?_);exact bv
  rw[bj p]at b;by_cases m:j<e
  .rw[bl m]at b;cases h<;>exact a4 [7,15,22] rfl bv ⟨_,b,by simp only[dH.cB];omega,.cons rfl (eO rfl D),rfl⟩
  rw[bj m]at b;cases i<;>exact a4 [7,15,-22] rfl bv ⟨_,b,by simp only[dH.cB];omega,.cons rfl (eO rfl D),rfl⟩
end R1
namespace R1
section
variable {q:af S}
def Jn(b)(d)(e:dJ b)(j:d.1=4)(h:Nat->m M)(i:Y q 160 [aI 6 0,iY (l4 d)] (oM b d (a3.fn b.2.2)) (.T []) (oM b d h)):
  bm (ι:=Unit) q 68 [bX b,ev d] [] (λ_=>.n (.agg [dD 0 (c b.1) (c b.1),dD 1 (c b.2.1) (c b.2.1),dD 2 (c b.2.2) (c b.2.2)])) (λ_=>[.q 86 2 (c b.1) (a2.fn b.1),.q 90 2 (c b.2.1) (bh.fn b.2.1),.q 56 2 (c b.2.2) h]):=by refine bm.bE bb func68 rfl rfl rfl λk=>?_;refine aR a B (g.aB (JN b e.a0 e.bn e.a1 e.bt e.aM) [] a (aR a B (g.aB (Vm d j) [] a (aR a B (g.cL i.tocI a a a a D a ?_)))));intro _;refine aR a B (g.bg () [3,4,5] ?_ eN);simp
def Jo(b)(d)(V:Nat->m M)(e)(g:c e=c b.2.2)(p:bs (c b.2.2) V (a3.fn e))(i:bm (ι:=Unit) q 68 [bX b,ev d] [] (λ_=>.n (.agg [dD 0 (c b.1) (c b.1),dD 1 (c b.2.1) (c b.2.1),dD 2 (c b.2.2) (c b.2.2)])) (λ_=>[.q 86 2 (c b.1) (a2.fn b.1),.q 90 2 (c b.2.1) (bh.fn b.2.1),.q 56 2 (c b.2.2) V])):
  Y q 68 [bX b,ev d] [] (bX (b.1,b.2.1,e)) []:=by
 have r:=bm.bK (aX:=λ_:Unit=>[.q 86 2 (c b.1) (a2.fn b.1),.q 90 2 (c b.2.1) (bh.fn b.2.1)]) (W:=56) (h:=2) (j:=λ_=>c b.2.2) (V:=λ_=>V) i bn (λ_=>?_) bn (λ_=>g5 _);have k:=bm.bK (aX:=λ_:Unit=>[.q 86 2 (c b.1) (a2.fn b.1)]) (W:=90) (h:=2) (j:=λ_=>c b.2.1) (V:=λ_=>bh.fn b.2.1) r bn (λ_=>?_) bn (λ_=>g5 _);have o:=bm.bK (aX:=λ_:Unit=>[]) (W:=86) (h:=2) (j:=λ_=>c b.1) (V:=λ_=>a2.fn b.1) k bn (λ_=>?_) bn (λ_=>bC _);refine(o.le (oJ:=λ_=>bX (b.1,b.2.1,e)) bn (λ_=>?_)).R
 .simp only[U.Y,U,a9,ba];refine⟨bs.same,bs.same,g.symm,?_⟩;intro s a;exact p s (by first|exact a|(rw[<-g];exact a))
 .simp
 .simp
 simp
def W4(b)(a:dq)(d:dJ b)(i:a.1=4)(e:0<=a.2.1)(g:a.2.1<c b.2.2)(h:a8 .i64 (3-lA b a)):
  Y q 68 [bX b,ev a] [] (bX (b.1,b.2.1,b.2.2.set (0+a.2.1.toNat) (3-lA b a,(b.2.2.getD (0+a.2.1.toNat) a3.E).2))) []:=
 Jo b a _ _ D (a3.cV b.2.2 (0+a.2.1.toNat) (3-lA b a,(b.2.2.getD (0+a.2.1.toNat) a3.E).2) (c b.2.2) (bC _)) (Jn b a d i _ (VE b a e g h))
def W3(b)(d:dq)(e:dJ b)(h:d.1=4)(g:¬(0<=d.2.1/\d.2.1<c b.2.2)):Y q 68 [bX b,ev d] [] (bX b) []:=
 Jo b d _ b.2.2 a bs.same (Jn b d e h _ (VD b d g))
abbrev Ey(a:cc)(i:dq)(e:Nat)(g b d:Nat)(h:m X):m ar:=tM a i [.q 86 2 (c a.1) (gr a.1 e (.slice (f ⟨g,0,n⟩) d b)),.q 90 2 (c a.2.1) (bh.fn a.2.1),.K (ct 121 2 (.row g b) d h)] (dD 3 (c a.1) (c a.1)) (dD 4 (c a.2.1) (c a.2.1)) (.c (h6 a.2.2))
def gZ(a:m c1)(b:Nat)(d:bA):m c1:=a.set b ((a.getD b (0,[])).1,d)
def J_{ah}{o}{d}(k:et 2 (c ah) (bH.fn ah) d)(e:A<c ah)(j:nd z [.c (.S o)]):et 2 (c ah) (bH.fn (gZ ah A o)) (d.take (A*2+1)++z++d.drop (A*2+1+c z)):=by
 refine et.fi k A 1 e j D (λq p h=>?_) a λg m b=>?_
 .simp[c6.fn,gK,gZ,al,n',o8 h]
 have i:bH.fn (gZ ah A o) A=[.int .i64 (ah.getD A (0,[])).1,.S o]:=by simp[c6.fn,gK,gZ,al,n',e];rfl
 rw[i]at b;rcases g with _|_|g
 .simp at b;subst b;exact .inr ⟨by omega,a⟩
 .grind
 simp at b
def UO(b)(i:dq)(V:c b.1<=4000000)(d r e p:Nat)(ah)(Q:(b.1.getD d (0,[])).2=ah)(T:d<c b.1)(K:(b.1.getD d (0,[])).1=i.2.1)(N:∀x,x<c b.1->x≠d->(b.1.getD x (0,[])).1≠i.2.1)(M:i.2.2.1=p)(S:p<c ah)(W:c ah<=4000000)(C)(J:et 2 (c ah) (bH.fn ah) C):
  bm (ι:={y:m X // et 2 (c ah) (bH.fn (gZ ah p i.2.2.2)) y}) q 159 [aI 6 0,iY (l4 i)] (Ey b i d r e (c ah) C) (λ_=>.T []) (λy=>Ey b i d r e (c ah) y.1):=by
 refine bm.bN func159 rfl rfl rfl (g.aQ ?_);refine aR a B (g.aH 7 (λj:Nat×m X=>j.1<=c b.1/\(j.1<=d->j.2=C)/\(d<j.1->et 2 (c ah) (bH.fn (gZ ah p i.2.2.2)) j.2)) (λj=>[(0,aI 6 0),(1,iY (l4 i)),(8,.n (.R (dD 3 (c b.1) (c b.1)))),(9,R (c b.1)),(10,R j.1)]) (λj=>Ey b i d r e (c ah) j.2) (λj=>c b.1-j.1) (0,C) a D a D a ⟨by omega,λ_=>rfl,λF=>by omega⟩ ?_);rintro⟨h,k⟩ ⟨t,E,A⟩;simp only at t E A;have I:0+(h:Int).toNat=h:=w;by_cases F:h<c b.1
 .by_cases o:h=d
  .subst o;obtain rfl:=E (bC _);refine gv [11] 12 a Q3 (g.aL (a1.e9 bb (ak:=.agg [.c (.int .i64 i.2.1),.c (.val (.slice (f ⟨r,0,n⟩) (c ah) e))]) a a a a a ?_ ?_) a a ?_)
   .show f (E1.agg [.c (.int .i64 (b.1.getD (0+(h:Int).toNat) (0,[])).1),.c (nF b.1 h (.slice (f ⟨r,0,n⟩) (c ah) e) (0+(h:Int).toNat))])=_;rw[I,K,nF,bl a]
   .show 0+(h:Int).toNat<_;omega
   refine a4 [19,24,31] a ?_ ?_
   .simp only[U,a8,bw,gm,ba,a9];exact fE
   have Z:=J.len;have u:0+i.2.2.1.toNat*2+1=p*2+1:=w;refine g.eP bb 5 a a a a a a a ?_ a a λz s=>?_
   .show 0+i.2.2.1.toNat*2+1+1<=c k;omega
   have Y:=J_ J S s;refine aR a F' (g.az (h+1,k.take (p*2+1)++z++k.drop (p*2+1+c z)) a D ?_ ?_ ?_)
   .simp only[U.Y,U,bs.same,a9,ba];show ct 121 2 _ _ (List.take (0+i.2.2.1.toNat*2+1) k++z++List.drop (0+i.2.2.1.toNat*2+1+c z) k)=_;rw[u]
   .grind
   grind
  have O:=N h F o;refine gv [11] 12 a Q3 (g.aL (a1.e9 bb (ak:=.agg [.c (.int .i64 (b.1.getD h (0,[])).1),.c (.B v 2 (b.1.getD h (0,[])).2.length (bH.fn (b.1.getD h (0,[])).2))]) a a a a a ?_ ?_) a a ?_)
  .show f (E1.agg [.c (.int .i64 (b.1.getD (0+(h:Int).toNat) (0,[])).1),.c (nF b.1 d (.slice (f ⟨r,0,n⟩) (c ah) e) (0+(h:Int).toNat))])=_;rw[I,nF,bj o]
  .show 0+(h:Int).toNat<_;omega
  refine a4 [-19,-24,-31] a ?_ (g.az (h+1,k) a ?_ ?_ ?_ ?_)
  .simp only[U,a8,eW,ba,a9];exact⟨by omega,O⟩
  .simp
  .simp
  .grind
  grind
 obtain rfl:h=c b.1:=w;refine a4 [-11] a D (g.aA ?_);exact aR a B ⟨⟨k,A T⟩,.inr a,a,a,_,_,_,a,a,a,B⟩
structure ss(b:cc)(d:dq)(i0 A:Nat):Prop where
 a':i0<c b.1
 c5:(b.1.getD i0 (0,[])).1=d.2.1
 bU:∀u,u<c b.1->u≠i0->(b.1.getD u (0,[])).1≠d.2.1
 b4:d.2.2.1=A
 gu:A<(b.1.getD i0 (0,[])).2.length
def Mh(ah)(A)(o):c (gZ ah A o)=c ah:=by simp[gZ]
def vq{a:cc}{i0}(b:i0<c a.1):a.1.getD i0 (0,[])∈a.1:=N
set_option maxRecDepth 20000 in
def W0(b)(d)(i:dJ b)(s:d.1=3)(i0 A)(h:ss b d i0 A):
  bm (ι:={j:fy×m X // et 2 (b.1.getD i0 (0,[])).2.length (bH.fn (gZ (b.1.getD i0 (0,[])).2 A d.2.2.2)) j.2}) q 68 [bX b,ev d] []
   (λ_=>.n (.agg [dD 0 (c b.1) (c b.1),dD 1 (c b.2.1) (c b.2.1),.c (h6 b.2.2)]))
   (λj=>[.q 86 2 (c b.1) (gr b.1 i0 (c5 j.1.1 (b.1.getD i0 (0,[])).2.length)),.q 90 2 (c b.2.1) (bh.fn b.2.1),.K (ct 121 2 j.1.1 (b.1.getD i0 (0,[])).2.length j.1.2)]):=by have t:=h.gu;have r:=i.bn _ (vq h.a');refine bm.bE bb func68 rfl rfl rfl λC=>?_;refine aR a B (g.a2 (Yv b i0 h.a' w i.a0 i.bn i.a1 i.bt i.aM) [] a bn ?_);rintro⟨⟨o,x⟩,z⟩;refine g.fD (ct.len (d:=5) a) λp=>?_;obtain⟨k,e,rfl⟩:=p.2.2.1 w;refine aR a B (g.aB (Jc d s) [] a (aR a B (g.cL (UO b d i.a0 i0 k e A _ a h.a' h.c5 h.bU h.b4 t r x z) a a a a D a ?_)));rintro⟨y,u⟩;refine aR a B (g.bg ⟨(.row k e,y),u⟩ [3,4,5] ?_ eN);simp
abbrev hd(b:cc)(d:dq)(a e:Nat):cc:=(b.1.set a ((b.1.getD a (0,[])).1,gZ (b.1.getD a (0,[])).2 e d.2.2.2),b.2.1,b.2.2)
def U7{p}{args}(b)(d)(i0 A)(x:i0<c b.1)(s:bm (ι:={g:fy×m X // et 2 (b.1.getD i0 (0,[])).2.length (bH.fn (gZ (b.1.getD i0 (0,[])).2 A d.2.2.2)) g.2}) q p args []
   (λ_=>.n (.agg [dD 0 (c b.1) (c b.1),dD 1 (c b.2.1) (c b.2.1),.c (h6 b.2.2)]))
   (λg=>[.q 86 2 (c b.1) (gr b.1 i0 (c5 g.1.1 (b.1.getD i0 (0,[])).2.length)),.q 90 2 (c b.2.1) (bh.fn b.2.1),.K (ct 121 2 g.1.1 (b.1.getD i0 (0,[])).2.length g.1.2)])):
  Y q p args [] (bX (hd b d i0 A)) []:=by
 generalize e:b.1.getD i0 (0,[])=i at *;have z:∀k,k≠i0->a2.fn (hd b d i0 A).1 k=a2.fn b.1 k:=λk o=>by simp[c6.fn,gK,al,n',o8 o]
 have C:a2.fn (hd b d i0 A).1 i0=[.int .i64 i.1,.B v 2 (c i.2) (bH.fn (gZ i.2 A d.2.2.2))]:=by have:(hd b d i0 A).1.getD i0 a2.E=(i.1,gZ i.2 A d.2.2.2):=N;show a2.a8 ((hd b d i0 A).1.getD i0 a2.E)=_;rw[this];show[M.int .i64 i.1,M.B v 2 (c (gZ i.2 A d.2.2.2)) (bH.fn (gZ i.2 A d.2.2.2))]=_;rw[Mh]
 have y:=bm.fx (aX:=λg:{g:fy×m X // et 2 (c i.2) (bH.fn (gZ i.2 A d.2.2.2)) g.2}=>[.q 86 2 (c b.1) (gr b.1 i0 (c5 g.1.1 (c i.2))),.q 90 2 (c b.2.1) (bh.fn b.2.1)]) (fp:=λ_=>[.q 86 2 (c b.1) (a2.fn (hd b d i0 A).1),.q 90 2 (c b.2.1) (bh.fn b.2.1)]) (W:=121) (h:=2) (j:=c i.2) (bQ:=λg=>g.1.1) (ah:=λg=>g.1.2) s (λg=>g.2) 0 bn bn bn bn (λ_=>g5 _)
  (λg k o=>by exact bF)
  (λg k o r B O=>by
   by_cases t:k=i0
   .subst t;rw[C]at O;have:gr b.1 k (c5 g.1.1 (c i.2)) k=[.int .i64 i.1,.val (c5 g.1.1 (c i.2))]:=OM;rw[this];rcases r with _|_|r
    .simp at O;subst O;exact⟨_,a,.inl a⟩
    .exact R2
    exact bF
   .rw[z k t]at O;have:gr b.1 i0 (c5 g.1.1 (c i.2)) k=a2.fn b.1 k:=Fq
    rw[this];exact⟨B,O,.inl a⟩)
 have u:=bm.bK (aX:=λ_=>[.q 86 2 (c b.1) (a2.fn (hd b d i0 A).1)]) (W:=90) (h:=2) (j:=λ_=>c b.2.1) (V:=λ_=>bh.fn b.2.1) y bn (λ_=>?_) bn (λ_=>g5 _);have w:=bm.bK (aX:=λ_=>[]) (W:=86) (h:=2) (j:=λ_=>c b.1) (V:=λ_=>a2.fn (hd b d i0 A).1) u bn (λ_=>?_) bn (λ_=>bC _);refine(w.le (oJ:=λ_=>bX (hd b d i0 A)) bn (λ_=>?_)).R
 .exact Px
 .simp
 simp
set_option maxRecDepth 20000 in
def WZ(b)(d)(e:dJ b)(g:d.1=3)(i0 A)(a:ss b d i0 A):Y q 68 [bX b,ev d] [] (bX (hd b d i0 A)) []:=
 U7 b d i0 A a.a' (W0 b d e g i0 A a)
def pX(d:cc)(b:dq):Prop:=∀a,a<c d.1->¬((d.1.getD a (0,[])).1=b.2.1/\0<=b.2.2.1/\b.2.2.1<(d.1.getD a (0,[])).2.length)
def UP(b)(d)(j:dJ b)(r:pX b d):Y q 159 [aI 5 0,iY (l4 d)] (mV b d) (.T []) (mV b d):=by
 have y:=j.a0;refine bm.toY (bm.bN (ι:=Unit) (res:=λ_=>.T []) (aq:=λ_=>mV b d) func159 rfl rfl rfl (g.aQ ?_));refine aR a B (g.aH 6 (λe=>e<=c b.1) (λe:Nat=>[(0,aI 5 0),(1,iY (l4 d)),(8,.n (.R (dD 3 (c b.1) (c b.1)))),(9,R (c b.1)),(10,R e)]) (λ_=>mV b d) (λe=>c b.1-e) 0 a D a D a w ?_);intro e o;by_cases k:e<c b.1
 .have s:=r e k;have t:=j.bn _ (vq k);have p:0+(e:Int).toNat=e:=w;have i:b.1.getD (0+(e:Int).toNat) a2.E=b.1.getD e (0,[]):=by rw[p];rfl
  generalize b.1.getD e (0,[])=m at *;by_cases x:m.1=d.2.1
  .by_cases u:0<=d.2.2.1
   .have h:¬d.2.2.1<c m.2:=λh=>s ⟨x,u,h⟩;refine a4 [11,19,24,-31] a RH (g.az (e+1) a D D q6 ?_);omega
   refine a4 [11,19,-24,-31] a RH (g.az (e+1) a D D q6 ?_);omega
  refine a4 [11,-19,-24,-31] a ?_ (g.az (e+1) a ?_ ?_ ?_ ?_)
  .simp only[U,a8,i,eW,bw,dr,ba,a9];and_intros<;>first|exact x|omega
  .simp
  .simp
  .exact q6
  omega
 obtain rfl:e=c b.1:=w;refine a4 [-11] a D (g.aA ?_);exact RT
def W2(b)(d)(e:dJ b)(i:d.1=3)(h:pX b d):
  bm (ι:=Unit) q 68 [bX b,ev d] [] (λ_=>.n (.agg [dD 0 (c b.1) (c b.1),dD 1 (c b.2.1) (c b.2.1),.c (h6 b.2.2)])) (λ_=>[.q 86 2 (c b.1) (a2.fn b.1),.q 90 2 (c b.2.1) (bh.fn b.2.1)]):=by refine bm.bE bb func68 rfl rfl rfl λj=>?_;refine aR a B (g.aB (pf b e.a0 e.bn e.a1 e.bt e.aM) [] a (aR a B (g.aB (Jc d i) [] a (aR a B (g.cL (UP b d e h).tocI a a a a D a ?_)))));intro _;refine aR a B (g.bg () [3,4] ?_ eN);simp
def W1(b)(d)(a:dJ b)(g:d.1=3)(e:pX b d):Y q 68 [bX b,ev d] [] (bX b) []:=CO (W2 b d a g e)
end
section
open Go.Sort (pdq bitsLen ltInt Below)
variable {q:af S}
def j3(a:m Int):m Int:=a.mergeSort λb d=>decide (b<=d)
def qU(d):c (j3 d)=c d:=List.length_mergeSort _
def acL(d):pdq ltInt d.toArray 0 (c d) (bitsLen (c d)) l l=(j3 d).toArray:=by have a:=Go.Sort.sortInt d;unfold Go.Sort.sort at a;rw[List.size_toArray]at a;exact Array.ext' bF
theorem Ue(d):s0 d.toArray=az.fn d:=by funext u;simp only[s0,c6.fn,gK,az,al];simp
abbrev jo(b:Nat)(a:m Int):ar:=.q 3 1 b (az.fn a)
def CQ(d)(b:c d<=4000000):Y q 171 [dK (c d)] [jo (c d) d] (.T []) [jo (c d) (j3 d)]:=by
 refine Y.I func171 rfl λe=>?_;refine cA a bF (g.aB (Jm (c d) b) [] a (cA a B ?_));have i:=sQ (E:=c d) (h:=22) N;have key:Y q 208 [dK (c d),R 0,R (c d),R (bitsLen (c d))] [jo (c d) d] (.T []) [jo (c d) (j3 d)]:=by have:=XQ (q:=q) (c d) b (c d) d.toArray 0 (c d) (bitsLen (c d)) w D w (bC _) w (.inl a) (E:=0) a a a (acL d).symm;grind[Ue]
 exact g.aB key [0] a (cA a B sn)
def fI(b:m Int):Nat->m Int
 |0=>[]
 |a+1=>if a≠0/\b.getD a 0=b.getD (a-1) 0 then fI b a else fI b a++[b.getD a 0]
def hZ(a:m Int):m Int:=fI a (c a)
def xm(d):∀a,c (fI d a)<=a
 |0=>bC _
 |a+1=>by have:=xm d a;simp[fI];grind
def uR{d}:∀{b:Nat},b<=c d->(∀a,1<=a->a<b->d.getD a 0≠d.getD (a-1) 0)->fI d b=d.take b
 |0,_,_=>by simp[fI]
 |b+1,h,g=>by rw[fI,bj,uR w λa e i=>g a e w,iq w 0];grind
structure St(d:m Int)(ti:Nat)(rW:Nat)(nU:m Int):Prop where
 iZ:1<=rW
 fA:ti+rW<=c d
 len:c nU=c d
 lt:c (fI d (ti+rW))<ti+rW
 done:nU.take (c (fI d (ti+rW)))=fI d (ti+rW)
 hL:∀e,ti+rW<=e+1->nU.getD e 0=d.getD e 0
abbrev AH(d:m Int):Type:={a:Nat->m M // ∀b,b<c d->a b=az.fn d b}
def I8(d)(Z:c d<=4000000):bm (ι:=AH (hZ d)) q 172 [dK (c d)] [jo (c d) d] (λ_=>cE 0 (.B (c d) 1 0 (c (hZ d)))) (λA=>[.q 3 1 (c d) A.1]):=by
 refine bm.cf func172 rfl rfl rfl λY=>?_;by_cases Q:c d<2
 .have t:hZ d=d:=by unfold hZ;rw[uR (bC _) λb _ _=>by omega,c8]
  refine bO [8] a bv (g.bu ⟨az.fn d,λb _=>by rw[t]⟩ (g.aJ [0] a ?_ hi));simp[t]
 refine bO [-8] a bv (g.ck (S2:=Unit) 0 a a (λ_=>hZ d=d) (λ_=>[(0,dK (c d))]) (λ_=>[jo (c d) d]) 1 (λh:Nat=>1<=h/\h<=c d/\∀b,1<=b->b<h->d.getD b 0≠d.getD (b-1) 0) (λh=>[(0,dK (c d)),(3,R h)]) (λ_=>[jo (c d) d]) (λh=>c d-h) 1 a D a D a ⟨bC _,by omega,λb G Q=>by omega⟩ ?_ ?_)
 .rintro dy h ⟨V,bY,F⟩;by_cases ab:h<c d
  .have aa:((h:Int)-1).toNat=h-1:=w;have I:∀u,d.getD u az.E=d.getD u 0:=λ_=>rfl;by_cases o:d.getD h 0=d.getD (h-1) 0
   .refine bO [13,25] a ?_ ?_
    .simp only[U,cV,cW,aa,I,o,a8,bw,gm,ba,a9];exact fE
    have a0:=uR (d:=d) w F;have H:fI d (h+1)=d.take h:=by rw[fI,bl ⟨by omega,o⟩,a0]
    refine g.ck (S2:=m Int) 2 a a (λs=>c s=c d/\s.take (c (hZ d))=hZ d) (λ_=>[(0,dK (c d)),(3,R (c (hZ d)))]) (λs=>[jo (c d) s]) 1 (λe:Nat×m Int=>St d h e.1 e.2) (λe=>[(0,dK (c d)),(3,R (c (fI d (h+e.1)))),(4,cE 0 (.B (c d) 1 h (c d-h))),(5,R e.1)]) (λe=>[jo (c d) e.2]) (λe=>c d-e.1) (1,d) a bF a D a ?_ ?_ ?_
    .exact⟨bC _,by omega,a,by grind,by grind,λ_ _=>rfl⟩
    .rintro T ⟨i,s⟩ ⟨hf,iU,jR,u3,j,r⟩;simp only at hf iU jR u3 j r;by_cases ae:h+i<c d
     .have K:((i:Int)-1).toNat=i-1:=w;have E:∀u,s.getD u az.E=s.getD u 0:=λ_=>rfl;have C:s.getD (h+i) 0=d.getD (h+i) 0:=r _ w;have O:s.getD (h+(i-1)) 0=d.getD (h+(i-1)) 0:=r _ w;by_cases x:d.getD (h+i) 0=d.getD (h+(i-1)) 0
      .have p:fI d (h+(i+1))=fI d (h+i):=by rw[show h+(i+1)=h+i+1 by omega,fI,bl ⟨by omega,by rw[x,show h+i-1=h+(i-1) by omega]⟩]
       refine bO [32,-44] a ?_ (g.az (i+1,s) a ?_ ?_ ?_ ?_)
       .simp only[U,cV,cW,K,E,C,O,x,a8,bw,iz,fB,gm,ba,a9];and_intros<;>first|trivial|omega
       .exact bF
       .simp
       .exact⟨by grind,by grind,jR,by grind,by grind,λb k=>r b N⟩
       omega
      have p:fI d (h+(i+1))=fI d (h+i)++[d.getD (h+i) 0]:=by rw[show h+(i+1)=h+i+1 by omega,fI,bj];rintro⟨_,o⟩;exact x (by rw[o,show h+i-1=h+(i-1) by omega])
      refine bO [32,44] a ?_ (g.az (i+1,s.set (c (fI d (h+i))) (d.getD (h+i) 0)) a ?_ ?_ ?_ ?_)
      .simp only[U,cV,cW,K,E,C,O,a8,bw,jl,eW,iC,ea,ba,a9];and_intros<;>first|exact x|omega
      .exact bF
      .have z:=az.cV s (c (fI d (h+i))) (d.getD (h+i) 0) (c d) w;simp only[U.Y,U,cV,cW,E,C,a9,ba];exact z
      .refine⟨by grind,by grind,by grind,by grind,?_,λb k=>?_⟩
       .simp only;rw[p,dm,show ∀S:Int,[S].length=1 fromλ_=>rfl,uO,A7,GA N,j,iy w];rfl
       simp only at k⊢;rw[al,kJ w,<-al];grind
      omega
     have X:h+i=c d:=w;have J:fI d (h+i)=hZ d:=bF;refine bO [-32] a bv (g.aA ?_);rw[J]at j;exact T s ⟨jR,j⟩ a (by simp[J]) a D
    rintro s ⟨M,y⟩;have W:c (hZ d)<=c d:=xm d _;refine cA a bv (g.aL (a1.eX bb a a a a a a wN) a a ?_);refine aR a bv (g.aS ⟨⟨nV (0+bW 0 (f (c (hZ d):Int))) (0+bW 0 (f (c (hZ d):Int))+(bW (c d) n-bW 0 (f (c (hZ d):Int)))) dZ.zero (az.fn s),λb k=>?_⟩,bZ.mk [0] a ?_ a a a hi⟩)
    .have z:s[b]?=(hZ d)[b]?:=N;refine(Om wN).trans ?_;simp[c6.fn,gK,al,z]
    exact bF
   refine bO [13,-25] a ?_ (g.az (h+1) a ?_ ?_ ?_ ?_)
   .simp only[U,cV,cW,aa,I,a8,bw,eW,ea,ba,a9];and_intros<;>first|exact o|omega
   .simp
   .simp
   .grind
   omega
  obtain rfl:h=c d:=w;refine bO [-13] a D (g.aA ?_);exact dy () (by unfold hZ;rw[uR (bC _) F,c8]) a D a D
 rintro⟨⟩ t;refine cA a B (g.bu ⟨az.fn d,λb _=>by rw[t]⟩ (g.aJ [0] a ?_ hi));simp[t]
end
section
variable {q:af S}
def ed(a:m m_):m Int:=a.flatMap (·.2)
def gk(a:ej):m Int:=hZ (j3 (ed a.2))
def Ld{d}(a:e<c d):ed (d.take (e+1))=ed (d.take e)++(d.getD e ([],[])).2:=by rw[iq a ([],[])];simp[ed]
def _root_.Go.AM.c6.g6(b:c6 α)(a i)(j)(e:j=c (a++i)):bs j (cj (c a) (b.fn a) (b.fn i)) (b.fn (a++i)):=by intro g d;simp only[cj,c6.fn,gK,al];grind
def Yi(b)(z:c b.2<=4000000)(j:c (ed b.2)<=4000000)(t:∀d,d<=c b.2->c (ed (b.2.take d))<=4000000):
  bm (ι:=AH (gk b)) q 132 [i1 b] [] (λ_=>cE 0 (.B (c (ed b.2)) 1 0 (c (gk b)))) (λe=>[.q 3 1 (c (ed b.2)) e.1]):=by
 refine bm.cf func132 rfl rfl rfl λy=>?_;refine bO [902] a B (g.e' 3 3 1 (az.fn []) a ?_);refine cA a B ?_;refine g.aH 2 (λd=>d<=c b.2) (λd:Nat=>[(3,cE 1 (.B (c (ed (b.2.take d))) 1 0 (c (ed (b.2.take d))))),(7,cw.B b.2),(8,R (c b.2)),(9,R d)])
  (λd=>[.cells 90 [.c (.int .i64 b.1),.c (.B v 2 (c b.2) (cw.fn b.2))],jo (c (ed (b.2.take d))) (ed (b.2.take d))]) (λd=>c b.2-d) 0 a ?_ a ?_ a w ?_
 .simp[ed]
 .simp[bs,ed]
 intro d r;by_cases k:d<c b.2
 .have i:b.2.getD (d:Int).toNat cw.E=b.2.getD d ([],[]):=du;have h:=Ld k;have p:=t (d+1) k;rw[h,dm]at p;refine bO [10] a ?_ (g.az (d+1) a ?_ ?_ ?_ ?_)
  .simp only[U,i,a8,show dZ.bytes=8 from a,bw,ba,a9];exact fE
  .simp only[U.Y,U,i,h,dm,a9,ba];and_intros<;>first|exact bs.same|rfl|omega
  .have u:=az.g6 (ed (b.2.take d)) (b.2.getD d ([],[])).2 _ a;simp_all
  .omega
  omega
 obtain rfl:d=c b.2:=w;rw[c8];refine bO [-10] a D (g.aA ?_);refine cA a B (g.aB (CQ (ed b.2) j) [1] a (cA a B ?_));have m:=I8 (q:=q) (j3 (ed b.2)) (by rw[qU];exact j);rw[qU]at m;refine g.a2 m [1] a bn ?_;rintro⟨e,o⟩;refine cA a B (g.bu ⟨e,o⟩ (g.aJ [1] a ?_ (λx s=>absurd s D)));simp[gk]
def Le(d)(e):c (ed (d.take e))<=c (ed d):=by
 have a:ed d=ed (d.take e)++ed (d.drop e):=by unfold ed;grind[List.take_append_drop]
 grind
def Ik(d):c (hZ d)<=c d:=xm d _
def Yh(E)(e:c E.2<=4000000)(a:c (ed E.2)<=4000000):Y q 132 [i1 E] [] (az.B (gk E)) []:=by
 have b:=Yi (q:=q) E e a λg _=>fY (Le _ _) a;have d:=bm.bK (aX:=λ_:AH (gk E)=>[]) (W:=3) (h:=1) (j:=λ_=>c (ed E.2)) (V:=λV=>V.1) b bn (λ_=>?_) bn (λ_=>bC _);refine(d.le (oJ:=λ_=>az.B (gk E)) bn (λV=>?_)).R
 .simp only[U.Y,U,a9,ba];exact V.2
 have:c (gk E)<=c (ed E.2):=R';exact bv
def YT(b)(e)(d:d6 b=l)(p:3<=e)(h:e<=c b)(m:c b<=4000000):Y q 312 [b2 b,R e] [] (bg (pK b e)) []:=by
 refine Y.I func312 rfl λj=>?_;have k:=tk d (e-1) w;have o:=tk d (e-2) w;have r:=tk d (e-3) w;have i:((kM b ((e:Int)-1)).toNat:Int)=ds b (e-1):=ug;have O:((kM b ((e:Int)-2)).toNat:Int)=ds b (e-2):=ug;have s:((kM b ((e:Int)-3)).toNat:Int)=ds b (e-3):=ug;refine aR a ?_ (g.aw a ?_)
 .simp only[U,a8,i,O,s];omega
 exact O5
abbrev H2:bI:=ek eL c7 (λa b=>bg (pK a b.toNat)) λa b=>[d6 a=l,3<=b,b<=c a,c a<=4000000]
def aek:bL q 312 H2:=.bl λh b g=>by
 obtain⟨d,i,j,e⟩:=g;obtain⟨a,rfl⟩:∃a:Nat,b=a:=⟨b.toNat,by omega⟩
 exact YT h a d w w e
def UF(o)(d)(e:d6 o=l)(t:d<=c o)(y:c o<=4000000):Y q 295 [b2 o,R d] [] (R (eu o d)) []:=by
 refine Y.I func295 rfl λu=>?_;have j:a' q [(312,H2)]:=.cons aek .nil;refine b9 j a B (g.b' (λb=>b<=5/\lS o d (5-b)=eu o d) (λb:Nat=>[(0,b2 o),(1,R d),(5,R (3+b))]) (λ_=>[]) (λb=>5-b) 0 a D a B ⟨by omega,a⟩ ?_);rintro b ⟨x,i⟩;by_cases r:b<5
 .obtain⟨h,bY⟩:∃h,5-b=h+1:=⟨4-b,by omega⟩
  have m:d+(7-h)=d+3+b:=w;rw[bY]at i;simp[lS,m]at i;by_cases k:c o<=d+3+b
  .rw[bl k]at i;refine a_ j [7,15] a Sm (g.bS (bZ.zero a ?_));exact bv
  rw[bj k]at i;have ak:((d:Int)+(3+(b:Int))).toNat=d+3+b:=w;cases s:pK o (d+3+b)with
  |true=>
   rw[s,bl a]at i;refine a_ j [7,-15,22] a Q1 (g.bS (bZ.zero a ?_));exact bv
  |false=>
   rw[s,bj D]at i;refine a_ j [7,-15,-22] a Q1 (g.b6 (b+1) a ?_ a B ⟨by omega,by grind⟩ w);exact bv
 have ak:eu o d=min (d+8) (c o):=by rw[<-i,show 5-b=0 by omega];rfl
 have p:a8 .i64 ((min (d+8) (c o):Nat):Int):=bF;refine a_ j [-7] a bv (g.bs a a ?_);refine b9 j a bF (g.aL (yX ((min (d+8) (c o):Nat):Int) a a a w p) a a ?_);refine b9 j a B (g.aw a ?_);simp[ak]
abbrev Hl:bI:=ek eL c7 (λa b=>R (eu a b.toNat)) λa b=>[d6 a=l,0<=b,b<=c a,c a<=4000000]
def adu:bL q 295 Hl:=.bl λh b g=>by
 obtain⟨d,i,j,e⟩:=g;obtain⟨a,rfl⟩:∃a:Nat,b=a:=⟨b.toNat,by omega⟩
 exact UF h a d w e
abbrev mA(b:bA):m Int:=(TT b).map λa:Nat=>(a:Int)
def Vt(o)(y:d6 o=l)(E:c o<=4000000):Y q 251 [b2 o] [] (az.B (mA o)) []:=by
 refine Y.I func251 rfl λC=>?_;have i:a' q [(295,Hl)]:=.cons adu .nil;refine a_ i [903] a B (g.bG 3 3 1 a a ?_);refine b9 i a B (g.aH 1 (λd:Nat×m Int=>d.1<=c o/\c d.2<=d.1/\∃e,c o<=d.1+e/\mA o=d.2++(lj o e d.1).map λz:Nat=>(z:Int)) (λd=>[(0,b2 o),(3,.n (.R (.x 0 1 (c d.2) (az.fn d.2)))),(4,R d.1)]) (λd=>[.x 3 1 (c d.2) (az.fn d.2)]) (λd=>c o-d.1) (0,[]) a D a D a ⟨by simp,by simp,c o,by simp,by exact bF⟩ ?_);rintro⟨h,b⟩ ⟨w,u,e,k,s⟩;simp only at w u k s;by_cases j:h<c o
 .obtain⟨e,rfl⟩:∃p,e=p+1:=⟨e-1,by omega⟩
  have x:=rJ o h j;have t:=az.aW b (eu o h:Int);have r:c b+1=c (b++[(eu o h:Int)]):=D;refine a_ i [9] a ?_ (g.az (eu o h,b++[(eu o h:Int)]) a ?_ ?_ ?_ ?_)
  .simp only[U,y,show dZ.bytes=8 from a,bw,ba,a9];exact fE
  .exact U.Y.2 ⟨a,U.Y.2 ⟨⟨r,t⟩,U.Y.2 ⟨a,B⟩⟩⟩
  .exact U.Y.2 ⟨⟨r,t⟩,B⟩
  .refine⟨x.2.1,by grind,e,by grind,?_⟩;rw[s];simp only[lj,bl j];simp
  grind
 have A:mA o=b:=by
  have:lj o e h=[]:=by cases e<;>simp[lj,j]
  grind
 refine a_ i [-9] a bv (g.aA ?_);refine b9 i a B (g.aw a ?_);simp_all
abbrev Hs:bI:=dc eL (λa=>az.B (mA a)) λa=>[d6 a=l,c a<=4000000]
def adD:bL q 251 Hs:=.a9 λb a=>Vt b a.1 a.2
def Ub{d a}{b:α}(h:d.drop e=b::a)(g:α):e<c d/\d.getD e g=b/\d.drop (e+1)=a:=by grind[List.drop_eq_nil_of_le,List.drop_eq_getElem_cons]
def IV(o):∀a b,c (lj o a b)<=a
 |0,_=>bC _
 |a+1,b=>by
  simp[lj];split
  .have:=IV o a (eu o b);grind
  simp
def Uz(o)(S:d6 o=l)(Q:c o<=4000000):Y q 196 [b2 o] [] (bS.B (cn o)) []:=by
 refine Y.I func196 rfl λW=>?_;have j:a' q [(251,Hs)]:=.cons adD .nil;have V:c (mA o)<=c o:=by simp[mA,kK];exact IV o _ _
 refine a_ j [902] a B (g.bG 3 9 1 a a ?_);refine b9 j a du (g.aH 1 (λd:Nat×Nat×m bA=>d.1<=c (mA o)/\d.2.1<=c o/\c d.2.2<=d.1/\∃h,c o<=d.2.1+h/\(mA o).drop d.1=((lj o h d.2.1).map λJ:Nat=>(J:Int))/\cn o=d.2.2++iJ o h d.2.1) (λd=>[(0,b2 o),(3,.n (.R (.x 0 1 (c d.2.2) (bS.fn d.2.2)))),(4,R d.2.1),(5,az.B (mA o)),(6,R d.1)]) (λd=>[.x 9 1 (c d.2.2) (bS.fn d.2.2)]) (λd=>c (mA o)-d.1) (0,0,[]) a D a D a ⟨by simp,by simp,by simp,c o,by simp,by exact bF,by simp[cn]⟩ ?_);rintro⟨s,b,e⟩ ⟨p,I,F,h,r,x,w⟩;simp only at p I F r x w;by_cases k:s<c (mA o)
 .have C:lj o h b≠[]:=by grind[List.length_drop]
  obtain⟨h,rfl⟩:∃u,h=u+1:=by
   cases h with
   |zero=>exact bF
   |succ h=>grind
  have i:b<c o:=by
   rcases dY b (c o) with k|k
   .exact k
   exact absurd (by simp[lj,bj (show¬b<c o by omega)]) C
  simp[lj,bl i,mm]at x;obtain⟨_,X,M⟩:=Ub x 0;have K:=rJ o b i;have t:(mA o).getD (s:Int).toNat az.E=(eu o b:Int):=N;have y:mx o (f (b:Int)) (f (eu o b:Int))=(o.drop b).take (eu o b-b):=OU;have E:=bS.aW e ((o.drop b).take (eu o b-b));have A:c e+1=c (e++[(o.drop b).take (eu o b-b)]):=D;refine a_ j [13] a ?_ (g.az (s+1,eu o b,e++[(o.drop b).take (eu o b-b)]) a ?_ ?_ ?_ ?_)
  .simp only[U,t,a8,jq,show tc.bytes=16 from a,bw,ba,a9];exact fE
  .simp only[U.Y,U,t,y,ba,a9];and_intros<;>first|exact A|exact E|simp|omega
  .simp only[U.Y,U,t,y,ba,a9];and_intros<;>first|exact A|exact E
  .refine⟨by grind,K.2.1,by grind,h,by grind,M,?_⟩;rw[w];simp only[iJ,bl i];simp
  grind
 have T:cn o=e:=by
  have z:lj o h b=[]:=by grind[List.map_eq_nil_iff]
  have i:¬b<c o:=by
   intro O;cases h with
   |zero=>omega
   |succ h=>simp only[lj,bl O]at z;cases z
  rw[w];cases h<;>simp[iJ,i]
 refine a_ j [-13] a du (g.aA ?_);refine b9 j a B (g.aw a ?_);simp_all
abbrev xG:bI:=dc eL (λa=>bS.B (cn a)) λa=>[d6 a=l,c a<=4000000]
def EU:bL q 196 xG:=.a9 λb a=>Uz b a.1 a.2
def _root_.Go.AM.c6.eZ(e:c6 α)(d)(b h):bs (c d+1+1) (cj (c d+1) (cj (c d) (e.fn d) λa=>[e.a8 b].getD a []) λa=>[e.a8 h].getD a []) (e.fn (d++[b,h])):=by
 have j:=e.aW d b;have g:=e.aW (d++[b]) h;rw[show(d++[b]).length=c d+1 by simp,show d++[b]++[h]=d++[b,h] by simp]at g;intro a k;rw[<-g a k];simp[cj];by_cases i:a<c d+1
 .rw[bl i,bl i];exact j a i
 grind
abbrev TY(a:c1):y:=.n (.agg [.c (.int .i64 a.1),.c (.S a.2)])
def jC(d:c1)(a:m c1×Bool)(b:c1):m c1×Bool:=if a.2=l then(a.1++[b],l)else if d.1<b.1 then(a.1++[d,b],l)else(a.1++[b],v)
def M'(b):∀d(a:m c1),(d.foldl (jC b) (a,l))=(a++d,l)
 |[],a=>by simp
 |e::g,a=>by rw[iT,show jC b (a,l) e=(a++[e],l)from rfl,M' b g];simp
def Na(b):∀g(a:m c1),(if(g.foldl (jC b) (a,v)).2=l then(g.foldl (jC b) (a,v)).1 else(g.foldl (jC b) (a,v)).1++[b])=a++fK g b
 |[],a=>by simp[fK]
 |d::h,a=>by
  rw[iT];by_cases e:b.1<d.1
  .rw[show jC b (a,v) d=(a++[b,d],l) by simp[jC,e],M'];simp[fK,e]
  rw[show jC b (a,v) d=(a++[d],v) by simp[jC,e],Na b h];simp[fK,e]
theorem Nb(b):∀d(a:m c1×Bool),(d.foldl (jC b) a).1.length<=c a.1+c d+1-(if a.2=l then 1 else 0)
 |[],a=>by grind
 |g::e,a=>by rw[iT];have:=Nb b e (jC b a g);unfold jC at this⊢;grind
abbrev mr(d:c1)(b:m c1)(a:Nat):m c1×Bool:=(b.take a).foldl (jC d) ([],v)
def SR{E}{d}(a:e<c d):mr E d (e+1)=jC E (mr E d e) (d.getD e (0,[])):=ir
def GD(a)(d)(e):(mr a d e).1.length<=c d+1:=by grind[Nb]
abbrev aa2(d:m c1)(e:c1)(b:Nat)(a:m c1×Bool):bM:=[(0,bH.B d),(3,aI 0 0),(5,.n (.R (.x 1 2 (c a.1) (bH.fn a.1)))),(6,bg a.2),(7,R b)]
abbrev aa1(b:c1)(a:m c1):m ar:=[.cells 121 [.c (.int .i64 b.1),.c (.S b.2)],.x 121 2 (c a) (bH.fn a)]
def XW(d)(E)(y:c d<=4000000):Y q 202 [bH.B d,TY E] [] (bH.B (fK d E)) []:=by
 refine Y.I func202 rfl λx=>?_;refine bO [902] a B (g.bG 5 121 2 a a ?_);refine cA a B (g.aH 2 (λb=>b<=c d) (λb:Nat=>aa2 d E b (mr E d b)) (λb=>aa1 E (mr E d b).1) (λb=>c d-b) 0 a ?_ a ?_ a w ?_)
 .simp[mr]
 .simp[mr]
 intro b r;by_cases p:b<c d
 .have j:=SR (E:=E) p;have i:=GD E d b;have aj:d.getD (b:Int).toNat bH.E=d.getD b (0,[]):=N;generalize mr E d b=e at j i;obtain⟨e,m⟩:=e;simp only at i;have h:=bH.aW e (d.getD b (0,[]));have o:=bH.eZ e E (d.getD b (0,[]));cases m with
  |true=>
   have s:mr E d (b+1)=(e++[d.getD b (0,[])],l):=j;have u:c e+1=c (e++[d.getD b (0,[])]):=D;refine bO [12] a ?_ (g.az (b+1) a ?_ ?_ ?_ ?_)
   .simp only[U,aj,a8,show mH.bytes=24 from a,bw,ba,a9];exact fE
   .exact Ph
   .exact PD
   .grind
   omega
  |false=>
   by_cases k:E.1<(d.getD b (0,[])).1
   .have s:mr E d (b+1)=(e++[E,d.getD b (0,[])],l):=by rw[j];simp only[jC,bl k];rfl
    have u:c e+1+1=c (e++[E,d.getD b (0,[])]):=D;refine bO [12,25] a ?_ (g.az (b+1) a ?_ ?_ ?_ ?_)
    .simp only[U,aj,a8,show mH.bytes=24 from a,k,lJ,bw,ba,a9];exact fE
    .rw[s];simp[U.Y,U,aj,ba,a9];and_intros<;>first|exact u|exact o|simp|rfl|omega
    .rw[s];simp[U.Y,U,aj,ba,a9];and_intros<;>first|exact u|exact o|exactλ_ _=>rfl|rfl|omega
    .grind
    omega
   have s:mr E d (b+1)=(e++[d.getD b (0,[])],v):=by rw[j];simp only[jC,bj k];rfl
   have u:c e+1=c (e++[d.getD b (0,[])]):=D;refine bO [12,-25] a ?_ (g.az (b+1) a ?_ ?_ ?_ ?_)
   .simp only[U,aj,a8,show mH.bytes=24 from a,bw,k,n8,qc,dr,ba,a9];exact fE
   .exact Ph
   .exact PD
   .grind
   omega
 obtain rfl:b=c d:=w;have O:=Na E d [];have i:=GD E d (c d);refine bO [-12] a D (g.aA ?_);have t:mr E d (c d)=d.foldl (jC E) ([],v):=N;rw[t]at i⊢;generalize d.foldl (jC E) ([],v)=e at *;obtain⟨e,m⟩:=e;simp only[p_]at O i;cases m with
 |true=>
  exact O6
 |false=>
  simp only[kg,dn]at O;have h:=bH.aW e E;refine cA a ?_ (g.aw a ?_)
  .simp only[U,show mH.bytes=24 from a,ba,a9];grind
  rw[<-O];simp only[U.Y,U,ba,a9];and_intros<;>first|exact h|simp
abbrev HT:bI:=ek (eS bH) sy (λa b=>bH.B (fK a b)) λa _=>[c a<=4000000]
def aea:bL q 202 HT:=.bl λb d a=>XW b d a
abbrev T2(a:fr):y:=.n (.agg [.c (.int .i64 a.1),.c (.int .i64 a.2)])
def fv(d:fr)(a:m fr×Bool)(b:fr):m fr×Bool:=
 if a.2=l then(if b.1=d.1 then a else(a.1++[b],l))else if d.1<=b.1 then(if b.1=d.1 then(a.1++[d],l)else(a.1++[d,b],l))else(a.1++[b],v)
def zI(b):∀(g:m fr)a,(g.foldl (fv b) (a,l))=(a++g.filter λi=>!(i.1==b.1),l)
 |[],a=>by simp
 |e::h,a=>by
  rw[iT];by_cases d:e.1=b.1
  .rw[show fv b (a,l) e=(a,l) by simp[fv,d],zI b h];simp[d]
  rw[show fv b (a,l) e=(a++[e],l) by simp[fv,d],zI b h];simp[d]
def Nd(a):∀g(b:m fr),(if(g.foldl (fv a) (b,v)).2=l then(g.foldl (fv a) (b,v)).1 else(g.foldl (fv a) (b,v)).1++[a])=b++ee g a
 |[],b=>by simp[ee]
 |d::i,b=>by
  rw[iT];by_cases h:a.1<=d.1
  .have s:¬d.1<a.1:=w;by_cases e:d.1=a.1
   .rw[show fv a (b,v) d=(b++[a],l) by simp[fv,e],zI];simp[ee,e]
   rw[show fv a (b,v) d=(b++[a,d],l) by simp[fv,h,e],zI];simp[ee,s,e]
  have s:d.1<a.1:=w;rw[show fv a (b,v) d=(b++[d],v) by simp[fv,h],Nd a i];simp[ee,s]
theorem Nf(b):∀i(a:m fr×Bool),(i.foldl (fv b) a).1.length<=c a.1+c i+1-(if a.2=l then 1 else 0)
 |[],a=>by grind
 |d::k,a=>by
  rw[iT];have g:=Nf b k (fv b a d);obtain⟨a,j⟩:=a;simp[fs];cases j with
  |true=>
   by_cases e:d.1=b.1
   .rw[show fv b (a,l) d=(a,l) by simp[fv,e]]at g⊢;grind
   rw[show fv b (a,l) d=(a++[d],l) by simp[fv,e]]at g⊢;grind
  |false=>
   by_cases h:b.1<=d.1
   .by_cases e:d.1=b.1
    .rw[show fv b (a,v) d=(a++[b],l) by simp[fv,e]]at g⊢;grind
    rw[show fv b (a,v) d=(a++[b,d],l) by simp[fv,h,e]]at g⊢;grind
   rw[show fv b (a,v) d=(a++[d],v) by simp[fv,h]]at g⊢;grind
abbrev k'(d:fr)(b:m fr)(a:Nat):m fr×Bool:=(b.take a).foldl (fv d) ([],v)
def SS{E}{d}(a:e<c d):k' E d (e+1)=fv E (k' E d e) (d.getD e (0,0)):=ir
def GF(a)(d)(e):(k' a d e).1.length<=c d+1:=by grind[Nf]
abbrev aa4(d:m fr)(e:fr)(b:Nat)(a:m fr×Bool):bM:=[(0,fi.B d),(3,aI 0 0),(5,.n (.R (.x 1 2 (c a.1) (fi.fn a.1)))),(6,bg a.2),(7,R b)]
abbrev aa3(b:fr)(a:m fr):m ar:=[.cells 255 [.c (.int .i64 b.1),.c (.int .i64 b.2)],.x 255 2 (c a) (fi.fn a)]
def XX(d)(E:fr)(x:c d<=4000000):Y q 201 [fi.B d,T2 E] [] (fi.B (ee d E)) []:=by
 refine Y.I func201 rfl λt=>?_;refine bO [902] a B (g.bG 5 255 2 a a ?_);refine cA a B (g.aH 2 (λb=>b<=c d) (λb:Nat=>aa4 d E b (k' E d b)) (λb=>aa3 E (k' E d b).1) (λb=>c d-b) 0 a ?_ a ?_ a w ?_)
 .simp[k']
 .simp[k']
 intro b p;by_cases o:b<c d
 .have h:=SS (E:=E) o;have i:=GF E d b;have aj:d.getD (b:Int).toNat fi.E=d.getD b (0,0):=N;generalize k' E d b=e at h i;obtain⟨e,j⟩:=e;simp only at i;have u:=fi.aW e (d.getD b (0,0));have k:=fi.aW e E;have m:=fi.eZ e E (d.getD b (0,0));cases j with
  |true=>
   by_cases heq:(d.getD b (0,0)).1=E.1
   .have s:k' E d (b+1)=(e,l):=by rw[h];simp only[fv,dx,bl heq]
    refine bO [12,-38] a RC (g.az (b+1) a Gi Gi N ?_);omega
   have s:k' E d (b+1)=(e++[d.getD b (0,0)],l):=by rw[h];simp only[fv,dx,bj heq]
   refine bO [12,38] a RC (g.az (b+1) a PA Qj N ?_);omega
  |false=>
   by_cases ak:E.1<=(d.getD b (0,0)).1
   .by_cases heq:(d.getD b (0,0)).1=E.1
    .have s:k' E d (b+1)=(e++[E],l):=by rw[h];simp only[fv,bl ak,bl heq];rfl
     refine bO [12,25,-38] a FE (g.az (b+1) a ?_ ?_ ?_ ?_)
     .rw[s];simp only[U.Y,U,aj,ba,a9];and_intros<;>first|exact u|exact k|simp|simp|rfl|omega|simp
     .rw[s];exact bF
     .grind
     omega
    have s:k' E d (b+1)=(e++[E,d.getD b (0,0)],l):=by rw[h];simp only[fv,bl ak,bj heq];rfl
    refine bO [12,25,38] a FE (g.az (b+1) a ?_ ?_ ?_ ?_)
    .rw[s];simp only[U.Y,U,aj,ba,a9];and_intros<;>first|exact u|exact k|exact m|simp|rfl|omega|simp
    .rw[s];simp only[U.Y,U,aj,ba,a9];and_intros<;>first|exact u|exact k|exact m|grind|rfl|omega|simp
    .grind
    omega
   have heq:¬(d.getD b (0,0)).1=E.1:=w;have s:k' E d (b+1)=(e++[d.getD b (0,0)],v):=by rw[h];simp only[fv,bj ak];rfl
   refine bO [12,-25,38] a FE (g.az (b+1) a PA Qj N ?_);omega
 obtain rfl:b=c d:=w;have O:=Nd E d [];have i:=GF E d (c d);refine bO [-12] a D (g.aA ?_);have r:k' E d (c d)=d.foldl (fv E) ([],v):=N;rw[r]at i⊢;generalize d.foldl (fv E) ([],v)=e at *;obtain⟨e,j⟩:=e;simp only[p_]at O i;cases j with
 |true=>
  exact O6
 |false=>
  simp only[kg,dn]at O;have u:=fi.aW e E;refine cA a ?_ (g.aw a ?_)
  .simp only[U,show pn.bytes=16 from a,ba,a9];grind
  rw[<-O];simp only[U.Y,U,ba,a9];and_intros<;>first|exact u|simp
abbrev HU:bI:=ek (eS fi) sx (λa b=>fi.B (ee a b)) λa _=>[c a<=4000000]
def aeb:bL q 201 HU:=.bl λb d a=>XX b d a
abbrev EK(a:cb):m fr:=a.2.map λb=>(b.1,a.1)
def ho(b:m cb)(a d:Nat):m fr:=dF (b.take a)++(EK (b.getD a (0,[]))).take d
def EL{d}(a:e<c d):dF (d.take (e+1))=dF (d.take e)++EK (d.getD e (0,[])):=by rw[iq a (0,[])];simp[dF]
theorem M6(d)(e):c (dF (d.take e))<=c (dF d):=by have a:dF d=dF (d.take e)++dF (d.drop e):=Sq;grind
def zG{d}(b:e<c d):∃g,dF d=ho d e u++g:=by have a:dF d=dF (d.take (e+1))++dF (d.drop (e+1)):=Sq;refine⟨(EK (d.getD e (0,[]))).drop u++dF (d.drop (e+1)),?_⟩;rw[a,EL b,ho,mq,mq];grind[List.take_append_drop]
theorem abD(d)(a):c (ee d a)<=c d+1:=by
 induction d with
 |nil=>simp[ee]
 |cons g e b=>
  simp only[ee];grind
theorem Dd(d):∀a:m fr,c (d.foldl ee a)<=c a+c d:=by
 induction d with
 |nil=>grind
 |cons g e b=>grind[abD]
def Wg(d)(J:c d<=4000000)(I:c (dF d)<=100000):Y q 164 [a2.B d] [] (fi.B (eG d)) []:=by
 refine Y.I func164 rfl λK=>?_;have e:a' q [(200,HZ),(201,HU)]:=.cons aeh (.cons aeb .nil);refine cU e a B (g.aH 0 (λb=>b<=c d/\(dF (d.take b)).all gb=l) (λb:Nat=>[(0,a2.B d),(3,fi.B ((dF (d.take b)).foldl ee [])),(4,R b)]) (λ_=>[]) (λb=>c d-b) 0 a ?_ a ?_ a ⟨by omega,a⟩ ?_)
 .simp[dF]
 .simp
 rintro b ⟨r,j⟩;by_cases k:b<c d
 .have h:d.getD (b:Int).toNat a2.E=d.getD b (0,[]):=N;have p:=EL k;refine bd e [11] a bv (g.aH 0 (λu=>u<=(d.getD b (0,[])).2.length/\(ho d b u).all gb=l) (λu:Nat=>[(0,a2.B d),(3,fi.B ((ho d b u).foldl ee [])),(4,R b),(5,R u)]) (λ_=>[]) (λu=>(d.getD b (0,[])).2.length-u) 0 a ?_ a ?_ a ⟨by omega,by simpa[ho]using j⟩ ?_)
  .simp[ho]
  .simp
  rintro u ⟨O,C⟩;obtain⟨y,x⟩:=zG (d:=d) (u:=u) k;have A:c (ho d b u)<=100000:=N;have t:=Dd (ho d b u) [];simp only[gQ]at t;have E:(d.getD b (0,[])).2.length<=100000:=by grind[M6]
  by_cases M:u<(d.getD b (0,[])).2.length
  .have i:(d.getD b (0,[])).2.getD (u:Int).toNat bH.E=(d.getD b (0,[])).2.getD u (0,[]):=N;have s:ho d b (u+1)=ho d b u++[(((d.getD b (0,[])).2.getD u (0,[])).1,(d.getD b (0,[])).1)]:=R8;cases m:gb (((d.getD b (0,[])).2.getD u (0,[])).1,(d.getD b (0,[])).1)with
   |false=>
    have z:eG d=[]:=by obtain⟨y,x⟩:=zG (d:=d) (u:=u+1) k;unfold eG;rw[bj];grind
    refine bd e [21,-40] a ?_ (g.aS (bZ.zero a ?_))
    .simp only[U,h,i,m,bw,ba,a9];exact fE
    rw[z];simp
   |true=>
    refine bd e [21,40] a ?_ (g.az (u+1) a ?_ ?_ ?_ ?_)
    .simp only[U,h,i,m,a8,fi.l,bw,ba,a9];and_intros<;>first|exact fi.U _|omega
    .rw[s];simp only[uI,iT,List.foldl_nil,U.Y,U,h,i,fi.l,ba,a9];and_intros<;>first|simp|rfl|omega
    .simp
    .grind
    omega
  have F:u=(d.getD b (0,[])).2.length:=w;have o:ho d b u=dF (d.take (b+1)):=by rw[p,ho];grind[List.length_map]
  refine bd e [-21] a ?_ (g.aA ?_)
  .simp only[U,h,dr];exact fE
  refine cU e a bF (g.az (b+1) a ?_ ?_ ?_ ?_)
  .rw[o];simp
  .simp
  .grind
  omega
 obtain rfl:b=c d:=w;rw[c8]at j⊢;refine bd e [-11] a D (g.aA ?_);refine cU e a B (g.aw a ?_);simp[eG,j]
abbrev Hw:bI:=dc (eS a2) (λa=>fi.B (eG a)) λa=>[c a<=4000000,c (dF a)<=100000]
def adL:bL q 164 Hw:=.a9 λb a=>Wg b a.1 a.2
abbrev xM:bI:=ek c7 eL (λa b=>R (d8 a b)) λa b=>[ce a=l,cC b=l]
abbrev BW:bI:=dc eL (λa=>b2 (fT a)) λa=>[cC a=l]
def Nw:bL q 203 BW:=.a9 λb a=>XL b a
theorem abx(d)(b):c (fK d b)=c d+1:=by
 induction d with
 |nil=>simp[fK]
 |cons g e a=>simp only[fK];split<;>simp[a]
def ii(d:Int)(a:m bA):m c1:=a.foldl (λe b=>fK e (d8 d b,fT b)) []
def DQ(h)(Z):c (ii h Z)=c Z:=by
 have d:∀Z b,c (Z.foldl (λe a=>fK e (d8 h a,fT a)) b)=c b+c Z:=by
  intro Z;induction Z with
  |nil=>grind
  |cons a i g=>grind[abx]
 have:=d Z [];rw[gQ,cV]at this;exact this
def aaG{Z}(a:e<c Z):ii h (Z.take (e+1))=fK (ii h (Z.take e)) (d8 h (Z.getD e []),fT (Z.getD e [])):=by unfold ii;grind[iq]
abbrev abi(a:Int)(b:m c1):ar:=.cells 86 [.c (.int .i64 a),.c (.B v 2 (c b) (bH.fn b))]
def Xb(bN h)(Z)(e:ce h=l)(m:∀t∈Z,cC t=l)(y:c Z<=4000000):Y q 165 [R bN,R h,bS.B Z] [] (fR (jZ bN h Z)) []:=by
 refine Y.bh bb func165 rfl rfl rfl λx=>?_;have d:a' q [(198,xM),(203,BW),(202,HT)]:=.cons zN (.cons Nw (.cons aea .nil));refine cU d a B (g.aH 2 (λb=>b<=c Z) (λb:Nat=>[(1,R h),(2,bS.B Z),(6,aI 0 0),(7,aI 1 0),(8,R b)]) (λb=>[.cells 86 [.c (.int .i64 0),.c (.B l 0 0 λ_=>[])],abi bN (ii h (Z.take b))]) (λb=>c Z-b) 0 a D a ?_ a w ?_)
 .simp[ii]
 intro b p;by_cases o:b<c Z
 .have i:Z.getD (b:Int).toNat bS.E=Z.getD b []:=N;have j:cC (Z.getD b [])=l:=m _ N;have r:=aaG (h:=h) o;have k:=DQ h (Z.take b);rw[List.length_take]at k;refine bd d [15] a ?_ (g.az (b+1) a ?_ ?_ ?_ ?_)
  .simp only[U,i,e,j,a8,bH.l,bw,ba,a9];and_intros<;>first|exact bH.U _|omega
  .simp
  .rw[r];simp only[U.Y,U,i,bH.l,ba,a9];and_intros<;>first|simp|rfl|omega
  .grind
  omega
 obtain rfl:b=c Z:=w;rw[c8];refine bd d [-15] a D (g.aA ?_);refine cU d a B (g.bg () [] ?_ (λu s=>absurd s D));simp[jZ,ii]
def XT(b):Y q 296 [b2 b] [] (bg (cC b)) []:=by
 refine Y.I func296 rfl λh=>?_;have e:a' q [(49,kN),(119,xD)]:=.cons ly (.cons Nl .nil);by_cases d:1<=c b/\c b<=8
 .refine a_ e [6] a bK (g.aw a ?_);simp[cC,d.1,d.2]
 refine a_ e [-6] a bK (g.aw a ?_);have:cC b=v:=by simp[cC,<-Bool.decide_and,nj d,sH]
 simp[this]
abbrev HQ:bI:=dc eL (λa=>bg (cC a)) λ_=>[]
def ad7:bL q 296 HQ:=.a9 λa _=>XT a
def XK(a):Y q 254 [b2 a] [] (b2 (fT a)) []:=by
 refine Y.I func254 rfl λd=>?_;have b:a' q [(296,HQ),(203,BW)]:=.cons ad7 (.cons Nw .nil);cases t:cC a with
 |true=>exact a_ b [-5] rfl gM (g.aw rfl)
 |false=>exact a_ b [5] rfl gM (g.aw rfl (by simp[fT,t]))
abbrev HO:bI:=dc eL (λa=>b2 (fT a)) λ_=>[]
def ad5:bL q 254 HO:=.a9 λa _=>XK a
def aba(b):c (fT b)<=8:=by
 unfold fT;split
 .rename_i a;simp[cC,cm,bw]at a;grind[Ia]
 simp
def XI(i):Y q 204 [b2 i] [] (iZ (hP i)) []:=by
 refine Y.I func204 rfl λz=>?_;have C:=z.S 0 a;have p:a' q [(254,HO)]:=.cons ad5 .nil;refine aR a B ?_;have fin:∀j,j<=c i->fw (i.take j)=fw i->(j=0∨fw (i.take j)=i.take j)->i.take j=fw i:=λj d u o=>by
  rcases o with rfl|o
  .exact bF
  grind
 have e:∀j,j<=c i->i.take j=fw i->hP i=if c i<=8/\fT (fw i)=i/\j≠0 then f (i.take j)else n:=λj d u=>by
  have E:=aba (fw i);have r:j=0↔fw i=[]:=by grind[List.take_eq_nil_iff]
  unfold hP;rw[u];by_cases O:fT (fw i)=i
  .by_cases h:cC (fw i)=l
   .have:j≠0:=λx=>by rw[r.1 x]at h;cases h
    grind
   have x:j=0:=r.2 (by rw[fT,bj h]at O;grind);grind
  grind
 refine g.ck (S2:=Nat) 0 a a (λj=>j<=c i/\i.take j=fw i) (λj=>[(0,b2 i),(4,R j)]) (λ_=>[]) 0 (λj=>j<=c i/\fw (i.take j)=fw i) (λj:Nat=>[(0,b2 i),(4,R j)]) (λ_=>[]) (λj=>j) (c i) a D a B a ⟨by omega,by simp⟩ ?_ ?_
 .rintro dy j ⟨d,s⟩;rcases j with _|j
  .refine a4 [-9,-15] a D (g.aA ?_);exact dy 0 ⟨d,fin 0 d s (.inl a)⟩ a D a B
  have r:=Nh (b:=i) (j:=j) w;have aj:((j:Int)+1-1).toNat=j:=w;by_cases o:i.getD j 0=46
  .refine a4 [9,15] a ?_ (g.az j a ?_ B ⟨by omega,?_⟩ w)
   .have O:ds i j=46:=by unfold ds;exact bF
    exact P6
   .simp
   grind
  refine a4 [9,-15] a ?_ (g.aA ?_)
  .have O:ds i j≠46:=by unfold ds;intro A;exact o (uE.1 N)
   exact P6
  exact dy (j+1) ⟨d,fin _ d s (.inr N)⟩ a D a B
 rintro j ⟨d,y⟩;have F:=e j d y;have t:mx i n (f (j:Int))=fw i:=y▸rfl;have m:((c i:Int)<=8)↔c i<=8:=w;by_cases k:c i<=8
 .by_cases iU:fT (fw i)=i
  .by_cases jR:j=0
   .refine a_ p [-21,-29,32] a ?_ (g.aw a ?_)
    .subst jR;simp[U,t,iU];grind
    exact bF
   refine a_ p [-21,-29,-32] a ?_ (g.aw a ?_)
   .simp[t,m,k,iU,jR,d]
   exact bF
  refine a_ p [-21,29,32] a ?_ (g.aw a ?_)
  .simp[t,m,k,iU,d]
  exact bF
 refine a_ p [21,29,32] a bK (g.aw a ?_);exact bF
abbrev BV:bI:=dc eL (λa=>iZ (hP a)) λ_=>[]
def Nv:bL q 204 BV:=.a9 λa _=>XI a
def X2(h)(b)(a:ce h=l):Y q 168 [R h,Cr b] [] (bg (right h b)) []:=by
 refine Y.I func168 rfl λe=>?_;have d:a' q [(204,BV),(198,xM)]:=.cons Nv (.cons zN .nil);cases x:hP b.2 with
 |none=>exact a_ d [-14] rfl oW (g.aw rfl (by simp[right,x]))
 |some i=>exact a_ d [14] rfl (by simp[x,a,LO x]) (g.aw rfl (by simp[right,x]))
abbrev BX:bI:=ek c7 sy (λa b=>bg (right a b)) λa _=>[ce a=l]
def Nx:bL q 168 BX:=.bl λb d a=>X2 b d a
def Ww(h):Y q 48 [R h] [] (bg (ce h)) []:=by refine Y.I func48 rfl λd=>?_;have b:a' q [(49,kN)]:=.cons ly .nil;exact b9 b a B (g.aw a (by simp[ce]))
abbrev rD:bI:=dc c7 (λa=>bg (ce a)) λ_=>[]
def tU:bL q 48 rD:=.a9 λa _=>Ww a
abbrev xJ(a:cb):ar:=.cells 86 [.c (.int .i64 a.1),.c (lw a)]
def XC(h)(b)(j):Y q 255 [R h,fR b,R j] [] (iZ (fZ h b j)) []:=by
 refine Y.I func255 rfl λu=>?_;have i:a' q [(48,rD),(168,BX),(204,BV)]:=.cons tU (.cons Nx (.cons Nv .nil));cases bY:ce h with
 |false=>
  refine a_ i [11] a k3 (g.aw a ?_);have:fZ h b j=n:=by unfold fZ iV;grind
  simp[this]
 |true=>
 have x:=u.fY 1 a 1 a;refine a_ i [-11] a k3 (g.aH 1 (λd=>d<=c b.2/\b.2.find? (λE=>E.1==j)=(b.2.drop d).find? (λE=>E.1==j)) (λd:Nat=>[(0,R h),(4,aI 0 0),(2,R j),(8,R d)]) (λ_=>[xJ b]) (λd=>c b.2-d) 0 a D a D a ⟨by omega,a⟩ ?_);rintro d ⟨t,e⟩;by_cases p:d<c b.2
 .have A:b.2.getD d bH.E=ec b d:=rfl;have r:b.2.drop d=ec b d::b.2.drop (d+1):=F_;rw[r,List.find?_cons]at e;by_cases m:(ec b d).1=j
  .rw[show((ec b d).1==j)=l by grind]at e;cases k:right h (ec b d)with
   |false=>
    have s:right h (j,(ec b d).2)=v:=m▸k;refine a_ i [16,26,34] a du (g.aS (bZ.zero a ?_));have o:fZ h b j=n:=by have:=B9 (h:=h) (E:=ec b d) bY;rw[k]at this;simp[fZ,e];simp_all
    simp[o]
   |true=>
    have s:right h (j,(ec b d).2)=l:=m▸k;refine a_ i [16,26,-34] a du (g.aS (bZ.zero a ?_));have o:fZ h b j=hP (ec b d).2:=by simp[fZ,e,iV];unfold right at k;grind
    simp_all
  rw[show((ec b d).1==j)=v by grind]at e;refine a_ i [16,-26] a ?_ (g.az (d+1) a D D ⟨p,e⟩ w);simp[-al,A,m,a8,p];omega
 obtain rfl:d=c b.2:=w;refine a_ i [-16] a D (g.aA ?_);refine b9 i a B (g.aw a ?_);simp[fZ,e]
abbrev HR:bI:=kl c7 (jJ bH) c7 (λa d b=>iZ (fZ a d b)) λ_ _ _=>[]
def ad_:bL q 255 HR:=.c7 λa d b _=>XC a d b
theorem D8(b:Int)(a:cb):il b a=(decide (1<=a.1/\a.1<=99)&&ce b&&decide (1<=c a.2/\c a.2<=4)&&(aA (c a.2)).all (ip b a)):=by grind[D7]
def acX{T:cb}(a:e≠0):ip h T e=(right h (ec T e)&&decide ((ec T (e-1)).1<(ec T e).1)):=by unfold ip;grind
def XF(h:Int)(T:cb):Y q 127 [R h,fR T] [] (bg (il h T)) []:=by
 refine Y.I func127 rfl λu=>?_;have d:a' q [(49,kN),(48,rD),(168,BX)]:=.cons ly (.cons tU (.cons Nx .nil));have y:=u.fY 1 a 1 a;rw[D8];by_cases j:1<=T.1/\T.1<=99
 rotate_left
 .exact a_ d [10,14,21] a bK (g.aw a bF)
 cases e:ce h
 .exact a_ d [-10,14,21] a du (g.aw a)
 by_cases k:1<=c T.2/\c T.2<=4
 rotate_left
 .exact a_ d [-10,-14,21] a bF (g.aw a bv)
 refine a_ d [-10,-14,-21] a lO ?_;rw[fa j,fa k,fX,fX,fX];refine g.aH 1 (λb=>b<=c T.2/\∀r,r<b->ip h T r=l) (λb:Nat=>[(0,R h),(3,aI 0 0),(5,R b)]) (λ_=>[xJ T]) (λb=>c T.2-b) 0 a D a D a ⟨by omega,by omega⟩ ?_;rintro b ⟨s,m⟩;by_cases t:b<c T.2
 .have C:T.2.getD b bH.E=ec T b:=rfl;cases i:right h (ec T b)with
  |false=>
   refine a_ d [26,37,56] a du (g.aS (bZ.zero a ?_));rw[lM t (by simp only[ip,i,sH])];simp
  |true=>
   by_cases p:b=0
   .subst p;refine a_ d [26,-37,-40,-56] a ?_ (g.az 1 a D D ⟨t,jn m (by simp only[ip,i,fX];rfl)⟩ w);exact lO
   have o:T.2.getD (b-1) bH.E=ec T (b-1):=rfl;have z:=acX (h:=h) (T:=T) p;by_cases x:(ec T (b-1)).1<(ec T b).1
   .refine a_ d [26,-37,40,-54,-56] a ?_ (g.az (b+1) a D D ⟨t,jn m N⟩ w);simp[-al,C,o,i,e,t,x,a8];omega
   refine a_ d [26,-37,40,54,56] a ?_ (g.aS (bZ.zero a ?_))
   .simp[-al,C,o,i,e,t,a8];omega
   exact j8
 obtain rfl:b=c T.2:=w;refine a_ d [-26] a D (g.aA ?_);exact b9 d a B (g.aw a bv)
abbrev HN:bI:=ek c7 (jJ bH) (λa b=>bg (il a b)) λ_ _=>[]
def ad2:bL q 127 HN:=.bl λa b _=>XF a b
def ov{a:m α}{O:α}(b:e<c a):a.getD e O∈a:=N
def ZB{a:m Int}{b:Int}:a.contains b=!(aA (c a)).all λd=>!(a.getD d 0==b):=by rw[o6,jl,<-p9,gf,A0];grind[List.mem_iff_getElem]
def VN(d:m Int)(e:Int):Y q 85 [az.B d,R e] [] (bg (d.contains e)) []:=by
 refine Y.I func85 rfl λk=>?_;have p:=k.B 0 a;refine aR a B ?_;rw[ZB];refine g.b' (λb=>b<=c d/\∀i,i<b->(!(d.getD i 0==e))=l) (λb:Nat=>[(0,az.B d),(1,R e),(5,R b)]) (λ_=>[]) (λb=>c d-b) 0 a D a B ⟨by omega,by omega⟩ ?_;rintro b ⟨o,j⟩;by_cases t:b<c d
 .have s:d.getD b az.E=d.getD b 0:=rfl;by_cases h:d.getD b 0=e
  .refine a4 [9,17] a ?_ (g.bS (bZ.zero a ?_))
   .simp[-al,s,h,t]
   exact j8
  refine a4 [9,-17] a ?_ (g.b6 (b+1) a D a B ⟨t,jn j N⟩ w);simp[-al,s,h,t,a8];omega
 obtain rfl:b=c d:=w;refine a4 [-9] a D (g.bs a a ?_);exact aR a B (g.aw a du)
abbrev u5:bI:=ek (eS az) c7 (λa b=>bg (a.contains b)) λ_ _=>[]
def zL:bL q 85 u5:=.bl λa b _=>VN a b
def XR(e:Int)(b:m cb)(h:Int):Y q 205 [R e,a2.B b,R h] [] (iZ (dh e b h)) []:=by
 refine Y.I func205 rfl λr=>?_;have u:=r.B 1 a;have k:a' q [(255,HR)]:=.cons ad_ .nil;refine b9 k a B (g.b' (λd=>d<=c b/\dh e b h=dh e (b.drop d) h) (λd:Nat=>[(0,R e),(1,a2.B b),(2,R h),(8,R d)]) (λ_=>[]) (λd=>c b-d) 0 a D a B ⟨by omega,a⟩ ?_);rintro d ⟨t,i⟩;by_cases o:d<c b
 .have s:b.drop d=b.getD d (0,[])::b.drop (d+1):=F_;have p:((b.getD d a2.E).1,bH.ad (b.getD d a2.E).2.length (bH.fn (b.getD d a2.E).2))=b.getD d (0,[]):=bF;rw[s,show dh e (b.getD d (0,[])::b.drop (d+1)) h=_ from List.findSome?_cons]at i;cases j:fZ e (b.getD d (0,[])) h with
  |some x=>
   rw[j]at i;refine a_ k [14,27] a ?_ (g.bS (bZ.zero a ?_))
   .simp[-al,p,j,o,bH.U]
   simp_all
  |none=>
   rw[j]at i;refine a_ k [14,-27] a ?_ (g.b6 (d+1) a D a B ⟨o,i⟩ w);simp[-al,p,j,o,a8,bH.U];omega
 obtain rfl:d=c b:=w;refine a4 [-14] a D (g.bs a a ?_);exact aR a B (g.aw a (by rw[i,uJ];simp[dh]))
abbrev HP:bI:=kl c7 (eS a2) c7 (λb a d=>iZ (dh b a d)) λ_ _ _=>[]
def ad6:bL q 205 HP:=.c7 λb a d _=>XR b a d
def X3(x i):Y q 256 [bS.B x,bS.B i] [] (bg (x==i)) []:=by
 refine Y.I func256 rfl λk=>?_;have t:=k.B 0 a;by_cases r:c x=c i
 rotate_left
 .have:(x==i)=v:=eW.2 N;exact a4 [10] a bK (g.aw a (by simp[this]))
 refine a4 [-10] a bK (g.b' (λb=>b<=c x/\∀d,d<b->x.getD d []=i.getD d []) (λb:Nat=>[(0,bS.B x),(1,bS.B i),(5,R b)]) (λ_=>[]) (λb=>c x-b) 0 a D a B ⟨by omega,by omega⟩ ?_);rintro b ⟨p,s⟩;by_cases o:b<c x
 .have h:∀j:m bA,j.getD b bS.E=j.getD b []:=λ_=>rfl;by_cases e:x.getD b []=i.getD b []
  .refine a4 [14,-25] a ?_ (g.b6 (b+1) a D a B ⟨o,λd u=>?_⟩ w)
   .simp[-al,h,e,a8];omega
   grind
  refine a4 [14,25] a ?_ (g.bS (bZ.zero a ?_))
  .simp[-al,h,e];omega
  exact FA
 obtain rfl:b=c x:=w;have:x=i:=p8 r λd e y=>by grind
 refine a4 [-14] a D (g.bs a a ?_);exact aR a B (g.aw a (by simp[this]))
def aee:bL q 256 xI:=.bl λa b _=>X3 a b
def LX(o):∀d e b,b∈iJ o d e->c b<=8
 |0,_,b,a=>by exact bF
 |d+1,e,b,a=>by
  simp only[iJ]at a;split at a
  .rename_i g;rcases fh.1 a with rfl|a
   .grind [rJ]
   exact LX o d _ b a
  grind
def TV{d}{a}(e:a∈d)(g:8<c a):iX d=n:=by unfold iX;rw[bj];intro b;simp[cm,gR]at b;have:=LX d.flatten (c d.flatten) 0 a (by rw[show iJ d.flatten (c d.flatten) 0=d from b.2];exact e);omega
def Zm(a:m bA)(e):(a.take e).flatten.length<=c a.flatten:=Gc
def TU{d:m bA}(b:40<(d.take e).flatten.length):iX d=n:=by have:=Zm d e;unfold iX;rw[bj];intro a;simp only[cm,fU,bw]at a;omega
def Wu(d):Y q 206 [bS.B d] [] (iZ (iX d)) []:=by
 refine Y.I func206 rfl λp=>?_;have r:=p.B 0 a;have b:a' q [(78,xE),(196,xG),(256,xI)]:=.cons t78 (.cons EU (.cons aee .nil));refine b9 b a B (g.b' (λe=>e<=c d/\(d.take e).flatten.length<=48) (λe:Nat=>[(0,bS.B d),(4,b2 (d.take e).flatten),(5,R e)]) (λ_=>[]) (λe=>c d-e) 0 a D a B ⟨by omega,by simp⟩ ?_);rintro e ⟨o,k⟩;by_cases j:e<c d
 .have i:d.getD e bS.E=d.getD e []:=rfl;have u:(d.take (e+1)).flatten=(d.take e).flatten++d.getD e []:=ir;by_cases h:c (d.getD e [])<=8
  .by_cases s:(d.take e).flatten.length<=40
   .refine a_ b [9,-18,-22] a ?_ (g.b6 (e+1) a ?_ a B ⟨j,by grind⟩ w)
    .simp[-al,-List.length_flatten,i,a8];omega
    simp_all
   refine a_ b [9,-18,22] a ?_ (g.bS (bZ.zero a ?_))
   .simp[-al,-List.length_flatten,i];omega
   simp[TU (d:=d) (e:=e) w]
  refine a_ b [9,18,22] a ?_ (g.bS (bZ.zero a ?_))
  .simp[-al,i];omega
  simp[U,U.Y,TV (ov (O:=[]) j) w]
 obtain rfl:e=c d:=w;rw[c8]at k⊢;refine a_ b [-9] a D (g.bs a a ?_);have m:=bS.l d;cases h:fU d.flatten with
 |false=>exact a_ b [32,38] rfl (by simp[h]) (g.aw rfl (by simp[iX,h]))
 |true=>
  have t:d6 d.flatten=l:=by simp[fU,cm]at h;exact h.2
  cases s:(cn d.flatten==d)with
  |false=>
   refine a_ b [-32,38] a ?_ (g.aw a (by simp[iX,s]));exact bF
  |true=>
   refine a_ b [-32,-38] a ?_ (g.aw a (by simp[iX,h,s]));exact bF
abbrev Hz:bI:=dc (eS bS) (λa=>iZ (iX a)) λ_=>[]
def adP:bL q 206 Hz:=.a9 λa _=>Wu a
abbrev zD(a:ej):ar:=.cells 90 [.c (.int .i64 a.1),.c (.B v 2 (c a.2) (cw.fn a.2))]
abbrev nA(d:Int)(b:m cb)(a:m Int):m bA:=a.map λe=>(dh d b e).getD []
def ZA{Z}{a}(b:u<c a):nA h Z (a.take (u+1))=nA h Z (a.take u)++[(dh h Z (a.getD u 0)).getD []]:=ir
def Zc{Z}{a}(d:u<c a)(b:dh h Z (a.getD u 0)=n):g9 h Z a=n:=OE
def Zd{Z}{a}(d:∀b,b<c a->(dh h Z (a.getD b 0)).isSome=l):g9 h Z a=f (nA h Z a):=by unfold g9;rw[bl];grind[List.mem_iff_getElem]
def Yn(h)(b)(Z)(ab:c b.2<=4000000)(T:∀e∈b.2,c e.2<=4000000):
  Y q 169 [R h,i1 b,a2.B Z] [] (mZ ((ep h b Z).getD []) (ep h b Z).isSome) []:=by
 refine Y.I func169 rfl λH=>?_;have o:a' q [(48,rD),(205,HP),(206,Hz),(50,sS)]:=.cons tU (.cons ad6 (.cons adP (.cons t50 .nil)));cases bY:ce h with
 |false=>
  refine a_ o [19] a k3 (g.aw a ?_);simp[ep,bY]
 |true=>
 refine a_ o [-19,904] a k3 (g.bG 8 51 2 a a ?_);refine b9 o a B (g.aH 2 (λm=>m<=c b.2/\∀k,k<m->(fS h Z (b.2.getD k ([],[]))).isSome=l) (λm:Nat=>[(0,R h),(2,a2.B Z),(4,aI 0 0),(8,.n (.R (.x 1 2 (c (fu h Z (b.2.take m))) (bu.fn (fu h Z (b.2.take m)))))),(9,R m)]) (λm=>[zD b,.x 51 2 (c (fu h Z (b.2.take m))) (bu.fn (fu h Z (b.2.take m)))]) (λm=>c b.2-m) 0 a z2 a z2 a ⟨by omega,by omega⟩ ?_);rintro m ⟨V,M⟩;by_cases u:m<c b.2
 .have F:=T _ (ov (O:=([],[])) u);have aj:=C4 (h:=h) (Z:=Z) u;have X:c (fu h Z (b.2.take m))=m:=by simp[fu];omega
  have i:b.2.getD (m:Int).toNat cw.E=b.2.getD m ([],[]):=N;have C:=EF (h:=h) (Z:=Z) u;generalize y:b.2.getD m ([],[])=e at F aj i C;generalize fu h Z (b.2.take m)=p at *;refine a_ o [25,908] a bK (g.bG 10 9 1 a a ?_);refine b9 o a B (g.aH 3 (λk=>k<=c e.2/\∀x,x<k->(dh h Z (e.2.getD x 0)).isSome=l) (λk:Nat=>[(0,R h),(2,a2.B Z),(4,aI 0 0),(8,.n (.R (.x 1 2 (c p) (bu.fn p)))),(9,R m),(10,.n (.R (.x 2 1 (c (nA h Z (e.2.take k))) (bS.fn (nA h Z (e.2.take k)))))),(11,R k)]) (λk=>[zD b,.x 51 2 (c p) (bu.fn p),.x 9 1 (c (nA h Z (e.2.take k))) (bS.fn (nA h Z (e.2.take k)))]) (λk=>c e.2-k) 0 a D a D a ⟨by omega,by omega⟩ ?_);rintro k ⟨ae,aa⟩;by_cases E:k<c e.2
  .have s:e.2.getD (k:Int).toNat az.E=e.2.getD k 0:=N;cases A:dh h Z (e.2.getD k 0)with
   |none=>
    have t:fS h Z e=n:=by simp[fS,Zc E A]
    refine a_ o [37,56] a ?_ (g.aS (g.dP (bZ.zero a ?_)))
    .simp only[U,i,s,A,a2.l,a2.U];grind
    rw[C t];simp
   |some x=>
    have d:=ZA (h:=h) (Z:=Z) E;rw[A]at d;have K:c (nA h Z (e.2.take k))=k:=N;have r:=bS.aW (nA h Z (e.2.take k)) x;refine a_ o [37,-56] a ?_ (g.az (k+1) a ?_ ?_ ⟨E,λW S=>?_⟩ w)
    .simp only[U,i,s,A,a2.l,a2.U,K,a8,show tc.bytes=16 from a];grind
    .exact Rr
    .exact Rr
    grind
  obtain rfl:k=c e.2:=w;have I:=Zd aa;rw[c8];have K:c (nA h Z e.2)=c e.2:=D;refine a_ o [-37] a (by simp only[U,i];simp[u]) (g.aA ?_);cases j:iX (nA h Z e.2)with
  |none=>
   have t:fS h Z e=n:=by simp[fS,I,j]
   refine a_ o [68] a ?_ (g.aS (bZ.zero a ?_))
   .simp only[U,bS.l,bS.U,j];simp
   rw[C t];simp
  |some J=>
   have t:fS h Z e=f (e.1,J):=by simp[fS,I,j]
   rw[t]at aj;have Q:=bu.aW p (e.1,J);refine a_ o [-68] a ?_ (g.az (m+1) a ?_ ?_ ⟨u,λW S=>?_⟩ w)
   .simp only[U,i,bS.l,bS.U,j,X,a8,show rR.bytes=32 from a];grind
   .exact PK
   .exact PK
   grind
 obtain rfl:m=c b.2:=w;rw[c8];have G:b.2.all (λe=>(fS h Z e).isSome)=l:=aW.2 λe F=>by grind[List.mem_iff_getElem]
 refine a_ o [-25] a D (g.aA ?_);cases z:dO (fu h Z b.2)with
 |false=>
  refine a_ o [83] a ?_ (g.aw a ?_)
  .simp[bu.l,bu.U,z]
  simp[ep,z]
 |true=>
  refine a_ o [-83] a ?_ (g.aw a ?_)
  .simp[bu.l,bu.U,z]
  simp[ep,z,bY,G]
abbrev HY:bI:=kl c7 (jJ cw) (eS a2) (λd b a=>mZ ((ep d b a).getD []) (ep d b a).isSome) λ_ b _=>[c b.2<=4000000,∀e∈b.2,c e.2<=4000000]
def aeg:bL q 169 HY:=.c7 λd e a b=>Yn d e a b.1 b.2
abbrev AG:=Int×Int
def hE(a:AG):Bool:=decide (1<=a.1/\a.1<=2)&&decide (1<=a.2/\a.2<=20)
def gH(a:m AG):Bool:=(aA (c a)).all (λb=>hE (a.getD b (0,0)))&&decide (c a<=9)
abbrev Cq(a:AG):y:=.n (.agg [.c (.int .i64 a.1),.c (.int .i64 a.2)])
def VV(b):Y q 167 [Cq b] [] (bg (hE b)) []:=by
 refine Y.I func167 rfl λh=>?_;have e:a' q [(49,kN)]:=.cons ly .nil;by_cases d:1<=b.1/\b.1<=2
 .exact a_ e [6] a (by simp[d]) (g.aw a (by simp[hE,d]))
 exact a_ e [-6] a bK (g.aw a (by simp only[U,hE,nj d];simp))
def W_(d):Y q 124 [a3.B d] [] (bg (gH d)) []:=by
 refine Y.I func124 rfl λm=>?_;have r:=m.B 0 a;have h:a' q [(167,dc sx (λe=>bg (hE e)) λ_=>[])]:=.cons (.a9 λe _=>VV e) .nil;refine b9 h a B ?_;unfold gH;refine g.b' (λb=>b<=c d/\∀k,k<b->hE (d.getD k (0,0))=l) (λb:Nat=>[(0,a3.B d),(3,R b)]) (λ_=>[]) (λb=>c d-b) 0 a D a B ⟨by omega,by omega⟩ ?_;rintro b ⟨p,j⟩;by_cases e:b<c d
 .have o:d.getD b a3.E=d.getD b (0,0):=rfl;cases i:hE (d.getD b (0,0))with
  |false=>
   refine a_ h [7,15] a du (g.bS (bZ.zero a ?_));rw[lM e i];simp
  |true=>
   refine a_ h [7,-15] a ?_ (g.b6 (b+1) a D a B ⟨e,jn j i⟩ w);simp[-al,o,i,e,a8];omega
 obtain rfl:b=c d:=w;refine a_ h [-7] a D (g.bs a a ?_);exact b9 h a B (g.aw a (by rw[gf.2 j];simp;omega))
abbrev od:bI:=dc (eS a3) (λa=>bg (gH a)) λ_=>[]
def Nr:bL q 124 od:=.a9 λa _=>W_ a
def ck(a:m cb):m Int:=a.flatMap λb=>b.2.map (·.1)
def ki(d:α->Int)(b:α)(e:m α)(a:Nat):Bool:=a==0||decide (d (e.getD (a-1) b)<d (e.getD a b))
def nS(d:Int)(a:m cb)(b:Nat):Bool:=il d (a.getD b (0,[]))&&ki (·.1) (0,[]) a b
def lx(d:Int)(a:cc)(b:Nat):Bool:=decide (1<=(a.2.1.getD b (0,[])).1/\(a.2.1.getD b (0,[])).1<=20)&&ki (·.1) (0,[]) a.2.1 b&&(ep d (a.2.1.getD b (0,[])) a.1).isSome
def h8(b:Int)(a:cc):Bool:=(aA (c a.1)).all (nS b a.1)&&decide (ck a.1).Nodup&&(aA (c a.2.1)).all (lx b a)&&ce b&&gH a.2.2&&decide (c a.1<=20)
def Lg{Z}(a:e<c Z):ck (Z.take (e+1))=ck (Z.take e)++(Z.getD e (0,[])).2.map (·.1):=by rw[iq a (0,[])];simp[ck]
def aaJ{Z}(a:¬(ck (Z.take e)).Nodup):¬(ck Z).Nodup:=λb=>a (by
 have:ck Z=ck (Z.take e)++ck (Z.drop e):=So
 grind)
abbrev oP(a:cc):ar:=.cells 30 [.c (.B v 2 (c a.1) (a2.fn a.1)),.c (.B v 2 (c a.2.1) (bh.fn a.2.1)),.c (.B v 2 (c a.2.2) (a3.fn a.2.2))]
def VM(h)(b)(d)(j:c d.2<=4000000)(m:∀i∈d.2,c i.2<=4000000):Y q 128 [R h,bX b,i1 d] [] (bg (ep h d b.1).isSome) []:=by
 refine Y.I func128 rfl λk=>?_;have e:a' q [(169,HY)]:=.cons aeg .nil;have o:(d.1,cw.ad (c d.2) (cw.fn d.2))=d:=by rw[cw.l]
 refine b9 e a bF (g.aw a ?_);simp[cw.l,a2.l]
abbrev Hu:bI:=kl c7 oa (jJ cw) (λb d a=>bg (ep b a d.1).isSome) λ_ _ a=>[c a.2<=4000000,∀e∈a.2,c e.2<=4000000]
def adI:bL q 128 Hu:=.c7 λb d e a=>VM b d e a.1 a.2
def qd{aj:α->Int}{O}{d}(a:e≠0):ki aj O d e=decide (aj (d.getD (e-1) O)<aj (d.getD e O)):=by unfold ki;grind
def Yy(h)(b)(L:kz b)(P:c b.1<=4000000)(ae:c b.2.1<=4000000):Y q 83 [R h,bX b] [] (bg (h8 h b)) []:=by
 refine Y.I func83 rfl λaP=>?_;have s:a' q [(127,HN),(85,u5),(49,kN),(128,Hu),(48,rD),(124,od)]:=.cons ad2 (.cons zL (.cons ly (.cons adI (.cons tU (.cons Nr .nil)))));refine a_ s [902] a B (g.bG 5 3 1 a a ?_);refine b9 s a B ?_;unfold h8;refine g.aH 2 (λe=>e<=c b.1/\(∀k,k<e->nS h b.1 k=l)/\(ck (b.1.take e)).Nodup/\c (ck (b.1.take e))<=4*e) (λe:Nat=>[(0,R h),(3,aI 0 0),(5,.n (.R (.x 1 1 (c (ck (b.1.take e))) (az.fn (ck (b.1.take e)))))),(6,R e)]) (λe=>[oP b,.x 3 1 (c (ck (b.1.take e))) (az.fn (ck (b.1.take e)))]) (λe=>c b.1-e) 0 a Fw a Fw a ⟨by omega,by omega,by simp[ck],by simp[ck]⟩ ?_;rintro e ⟨K,C,T,ab⟩;by_cases t:e<c b.1
 .have p:=Lg t;have M:=aaJ (Z:=b.1) (e:=e+1);have A:b.1.getD e a2.E=b.1.getD e (0,[]):=rfl;have j:b.1.getD (e-1) a2.E=b.1.getD (e-1) (0,[]):=rfl;have u:nS h b.1 e=(il h (b.1.getD e (0,[]))&&ki (·.1) (0,[]) b.1 e):=rfl;have W:=qd (aj:=λi:cb=>i.1) (O:=(0,[])) (d:=b.1) (e:=e);generalize y:b.1.getD e (0,[])=i at *;generalize b.1.getD (e-1) (0,[])=x at *;cases o:il h i with
  |false=>
   rw[o,sH]at u;refine a_ s [14,25,44] a QM (g.aS (bZ.zero a ?_));rw[lM t u];simp
  |true=>
   have af:c i.2<=4:=by grind[D8]
   rw[o,fX]at u;cases E:ki (·.1) (0,[]) b.1 e with
   |false=>
    have z:e≠0:=by rintro rfl;cases E
    have I:¬x.1<i.1:=N;refine a_ s [14,-25,28,42,44] a Rm (g.aS (bZ.zero a ?_));rw[lM t (u.trans E)];simp
   |true=>
   rw[E]at u;apply g.cj [(0,R h),(3,aI 0 0),(5,.n (.R (.x 1 1 (c (ck (b.1.take e))) (az.fn (ck (b.1.take e)))))),(6,R e),(7,R 0)] [oP b,.x 3 1 (c (ck (b.1.take e))) (az.fn (ck (b.1.take e)))]
   .intro aa;by_cases z:e=0
    .subst z;refine a_ s [14,-25,-28,-44] a QM (aa _ _ a ?_);simp
    have I:x.1<i.1:=N;refine a_ s [14,-25,28,-42,-44] a Rm (aa _ _ a ?_);simp
   generalize ck (b.1.take e)=m at *;refine g.aH 2 (λk=>k<=c i.2/\(m++(i.2.take k).map (·.1)).Nodup) (λk:Nat=>[(0,R h),(3,aI 0 0),(5,.n (.R (.x 1 1 (c (m++(i.2.take k).map (·.1))) (az.fn (m++(i.2.take k).map (·.1)))))),(6,R e),(7,R k)]) (λk=>[oP b,.x 3 1 (c (m++(i.2.take k).map (·.1))) (az.fn (m++(i.2.take k).map (·.1)))]) (λk=>c i.2-k) 0 a D a D a ⟨by omega,by grind⟩ ?_;rintro k ⟨ag,G⟩;by_cases r:k<c i.2
   .have Q:i.2.getD k bH.E=ec i k:=rfl;have ef:m++(i.2.take (k+1)).map (·.1)=(m++(i.2.take k).map (·.1))++[(ec i k).1]:=ir;have V:c (m++(i.2.take k).map (·.1))=c m+k:=N;generalize m++(i.2.take k).map (·.1)=F at *;cases S:F.contains (ec i k).1 with
    |true=>
     refine a_ s [53,67] a ?_ (g.aS (g.dP (bZ.zero a ?_)))
     .simp[-al,-List.contains_eq_mem,A,Q,t,r,S,az.l,az.U]
     .have bB:¬(ck b.1).Nodup:=M (by
       have ah:m++i.2.map (·.1)=(m++(i.2.take (k+1)).map (·.1))++(i.2.drop (k+1)).map (·.1):=D
       grind)
      simp[bB]
    |false=>
     have H:=az.aW F (ec i k).1;have X:az.ad (c m+k) (az.fn F)=F:=by rw[<-V];exact az.l F
     refine a_ s [53,-67] a ?_ (g.az (k+1) a ?_ ?_ ⟨r,?_⟩ w)
     .simp[-al,-List.contains_eq_mem,A,Q,t,r,S,az.l,az.U,V,X,a8,show dZ.bytes=8 from a];omega
     .exact PG
     .exact PG
     grind
   obtain rfl:k=c i.2:=w;rw[c8]at G⊢;refine a_ s [-53] a ?_ (g.aA ?_)
   .simp[-al,A,t]
   refine b9 s a bF (g.az (e+1) a ?_ ?_ ⟨t,jn C u,by grind,by grind⟩ w)
   .rw[p];simp
   rw[p];simp
 obtain rfl:e=c b.1:=w;rw[c8]at T⊢;refine a_ s [-14] a D (g.aA ?_);refine b9 s a B ?_;rw[gf.2 C,fa T,fX,fX];generalize ck b.1=m;refine g.aH 2 (λe=>e<=c b.2.1/\(∀k,k<e->lx h b k=l)) (λe:Nat=>[(0,R h),(3,aI 0 0),(8,R e)]) (λ_=>[oP b,.x 3 1 (c m) (az.fn m)]) (λe=>c b.2.1-e) 0 a D a D a ⟨by omega,by omega⟩ ?_;rintro e ⟨K,C⟩;by_cases t:e<c b.2.1
 .have A:b.2.1.getD e bh.E=b.2.1.getD e (0,[]):=rfl;have j:b.2.1.getD (e-1) bh.E=b.2.1.getD (e-1) (0,[]):=rfl;have bk:=L _ (ov (O:=(0,[])) t);have u:lx h b e=(decide (1<=(b.2.1.getD e (0,[])).1/\(b.2.1.getD e (0,[])).1<=20)&&ki (·.1) (0,[]) b.2.1 e&&(ep h (b.2.1.getD e (0,[])) b.1).isSome):=rfl;have W:=qd (aj:=λi:ej=>i.1) (O:=(0,[])) (d:=b.2.1) (e:=e);generalize y:b.2.1.getD e (0,[])=i at *;generalize b.2.1.getD (e-1) (0,[])=x at *;by_cases hf:1<=i.1/\i.1<=20
  rotate_left
  .refine a_ s [85,96,116,126] a ?_ (g.aS (bZ.zero a ?_))
   .simp[-al,A,t];omega
   exact j8
  cases E:ki (·.1) (0,[]) b.2.1 e with
  |false=>
   have z:e≠0:=by rintro rfl;cases E
   have I:¬x.1<i.1:=N;refine a_ s [85,-96,99,113,116,126] a ?_ (g.aS (bZ.zero a ?_))
   .simp[-al,A,j,t,hf,a8];omega
   exact j8
  |true=>
   rw[fa hf,E,fX,fX]at u;cases r:(ep h i b.1).isSome with
   |false=>
    by_cases z:e=0
    .subst z;refine a_ s [85,-96,-99,-116,126] a ?_ (g.aS (bZ.zero a ?_))
     .simp[-al,A,t,hf,cw.l,cw.U,a2.l,a2.U,bh.U,a3.U,r,bk.1];grind
     rw[lM t (u.trans r)];simp
    have I:x.1<i.1:=N;refine a_ s [85,-96,99,-113,-116,126] a RY (g.aS (bZ.zero a ?_));rw[lM t (u.trans r)];simp
   |true=>
    rw[r]at u;by_cases z:e=0
    .subst z;refine a_ s [85,-96,-99,-116,-126] a ?_ (g.az 1 a D D ⟨t,jn C u⟩ w);simp[-al,A,t,hf,a8,cw.l,cw.U,a2.l,a2.U,bh.U,a3.U,r,bk.1];grind
    have I:x.1<i.1:=N;refine a_ s [85,-96,99,-113,-116,-126] a ?_ (g.az (e+1) a D D ⟨t,jn C u⟩ w);exact RY
 obtain rfl:e=c b.2.1:=w;refine a_ s [-85] a D (g.aA ?_);rw[gf.2 C,fX];cases bY:ce h
 .exact a_ s [-129,-134] a k3 (g.aw a)
 cases J:gH b.2.2
 .exact a_ s [129,-134] a OG (g.aw a)
 exact a_ s [129,134] a OG (g.aw a bK)
abbrev B1:bI:=ek c7 oa (λb a=>bg (h8 b a)) λ_ a=>[kz a,c a.1<=4000000,c a.2.1<=4000000]
def NC:bL q 83 B1:=.bl λb d a=>Yy b d a.1 a.2.1 a.2.2
def gw(d:Int)(a:m Int×Bool)(b:Int):m Int×Bool:=
 if a.2=l then(if b=d then a else(a.1++[b],l))else if d<=b then(if b=d then(a.1++[d],l)else(a.1++[d,b],l))else(a.1++[b],v)
abbrev fH(d:Int)(b:m Int)(a:Nat):m Int×Bool:=(b.take a).foldl (gw d) ([],v)
def fe(b:m Int)(a:Int):m Int:=if(b.foldl (gw a) ([],v)).2=l then(b.foldl (gw a) ([],v)).1 else(b.foldl (gw a) ([],v)).1++[a]
def xl{j}{d}(a:e<c d):fH j d (e+1)=gw j (fH j d e) (d.getD e 0):=ir
def xk(j)(d):∀a,a<=c d->(fH j d a).1.length+(if(fH j d a).2=l then 0 else 1)<=a+1
 |0,_=>by simp[fH]
 |a+1,g=>by have:=xk j d a w;rw[xl w];generalize fH j d a=b at *;obtain⟨b,e⟩:=b;unfold gw;grind
theorem Z7(d)(j):c (fe d j)<=c d+1:=by
 have:=xk j d (c d) (bC _);simp[fH,c8]at this;unfold fe;split at this<;>rename_i a
 .grind
 grind
def afj{h:Type}(a:c6 h)(d)(e g):bs (c d+1+1) (cj (c d+1) (cj (c d) (a.fn d) λb=>[a.a8 e].getD b []) λb=>[a.a8 g].getD b []) (a.fn (d++[e,g])):=a.eZ d e g
def Uy(d)(j)(A:c d<=100000000):Y q 123 [az.B d,R j] [] (az.B (fe d j)) []:=by
 refine Y.I func123 rfl λz=>?_;refine a4 [902] a B (g.bG 5 3 1 a a ?_);refine aR a B (g.aH 1 (λb=>b<=c d) (λb:Nat=>[(0,az.B d),(1,R j),(5,.n (.R (.x 0 1 (fH j d b).1.length (az.fn (fH j d b).1)))),(6,bg (fH j d b).2),(7,R b)]) (λb=>[.x 3 1 (fH j d b).1.length (az.fn (fH j d b).1)]) (λb=>c d-b) 0 a OH a OH a w ?_);intro b p;have u:=xk j d b p;by_cases i:b<c d
 .have s:=xl (j:=j) i;have O:d.getD (b:Int).toNat az.E=d.getD b 0:=du;generalize d.getD b 0=bD at *;generalize fH j d b=e at *;obtain⟨e,m⟩:=e;have aj:=λbD=>az.aW e bD;have r:=λx bD=>az.eZ e x bD;have y:(c e+1+1)*8<=140737488355328:=N;have fin:∀o,fH j d (b+1)=o->True:=λ_ _=>trivial;have k:c d-(b+1)<c d-b:=w;by_cases h:bD=j
  .cases m with
   |true=>
    rw[show gw j (e,l) bD=(e,l) by simp[gw,h]]at s;refine a4 [12,-34] a ?_ (g.az (b+1) a ?_ ?_ i k)
    .simp only[U,O,h,a8];simp;omega
    .rw[s];simp
    rw[s];simp
   |false=>
    rw[show gw j (e,v) bD=(e++[j],l) by simp[gw,h]]at s;refine a4 [12,24,-34] a ?_ (g.az (b+1) a ?_ ?_ i k)
    .simp only[U,O,h,a8,show dZ.bytes=8 from a];simp;omega
    .exact QD
    exact QD
  cases m with
  |true=>
   rw[show gw j (e,l) bD=(e++[bD],l) by simp[gw,h]]at s;refine a4 [12,34] a PJ (g.az (b+1) a Ab ?_ i k);exact Ab
  |false=>
   by_cases t:j<=bD
   .rw[show gw j (e,v) bD=(e++[j,bD],l) by simp[gw,h,t]]at s;refine a4 [12,24,34] a ?_ (g.az (b+1) a ?_ ?_ i k)
    .simp only[U,O,a8,show dZ.bytes=8 from a];simp[h,t];omega
    .exact P1
    exact P1
   rw[show gw j (e,v) bD=(e++[bD],v) by simp[gw,t]]at s;refine a4 [12,-24,34] a PJ (g.az (b+1) a Ab ?_ i k);exact Ab
 obtain rfl:b=c d:=w;unfold fe;simp[fH,c8]at u⊢;generalize d.foldl (gw j) ([],v)=e at *;obtain⟨e,m⟩:=e;have aj:=az.aW e j;refine a4 [-12] a D (g.aA ?_);cases m with
 |true=>exact aR rfl D (g.aw rfl)
 |false=>
  refine aR a ?_ (g.aw a ?_)
  .simp only[U,show dZ.bytes=8 from a];simp at u⊢;omega
  simp[U,kg,dn,dm,gC];and_intros<;>first|exact aj|trivial
abbrev xF:bI:=ek (eS az) c7 (λa b=>az.B (fe a b)) λa _=>[c a<=100000000]
def ET:bL q 123 xF:=.bl λb d a=>Uy b d a
theorem qt(b):∀a:m Int,c (a.foldl fe b)<=c b+c a
 |[]=>by simp
 |d::a=>by have:=qt (fe b d) a;grind[Z7]
def yw{a:Type}(b:a->Int->a)(e:a){d}(g:u<c d):(d.take (u+1)).foldl b e=b ((d.take u).foldl b e) (d.getD u 0):=ir
def gJ(a:m m_):m Int:=(ed a).foldl fe []
theorem tt(d):c (gJ d)<=c (ed d):=by
 have:=qt [] (ed d)
 rwa [gQ,cV]at this
def Yj(b)(I:c b.2<=4000000)(F:c (ed b.2)<=4000000):Y q 122 [i1 b] [] (az.B (gJ b.2)) []:=by
 refine Y.I func122 rfl λA=>?_;have i:a' q [(123,xF)]:=.cons ET .nil;refine b9 i a B (g.aH 1 (λe=>e<=c b.2) (λe:Nat=>[(1,aI 0 0),(3,az.B (gJ (b.2.take e))),(4,R e)]) (λ_=>[zD b]) (λe=>c b.2-e) 0 a (by simp[gJ,ed]) a D a w ?_);intro e x;by_cases t:e<c b.2
 .have d:b.2.getD e cw.E=b.2.getD e ([],[]):=rfl;have o:=Ld t;have y:=Le b.2 (e+1);have E:=tt (b.2.take e);have z:gJ (b.2.take (e+1))=(b.2.getD e ([],[])).2.foldl fe (gJ (b.2.take e)):=by simp[gJ,o,uI]
  rw[o,dm]at y;generalize b.2.getD e ([],[])=j at *;generalize gJ (b.2.take e)=k at *;refine a_ i [11] a gM (g.aH 1 (λh=>h<=c j.2) (λh:Nat=>[(1,aI 0 0),(3,az.B ((j.2.take h).foldl fe k)),(4,R e),(5,R h)]) (λ_=>[zD b]) (λh=>c j.2-h) 0 a D a D a w ?_);intro h C;by_cases m:h<c j.2
  .have s:j.2.getD h az.E=j.2.getD h 0:=rfl;have r:=yw fe k m;have u:=qt k (j.2.take h);rw[List.length_take]at u;generalize(j.2.take h).foldl fe k=ka at *;have p:=az.l ka;refine a_ i [22] a ?_ (g.az (h+1) a ?_ ?_ m w)
   .simp[-al,d,s,t,m,p,az.U,a8];omega
   .rw[r];simp[-al,d,s,p]
   simp
  obtain rfl:h=c j.2:=w;rw[c8,<-z];refine a_ i [-22] a du (g.aA ?_);exact QV
 obtain rfl:e=c b.2:=w;rw[c8];refine a_ i [-11] a D (g.aA ?_);exact b9 i a B (g.aw a)
abbrev BT:bI:=dc (jJ cw) (λa=>az.B (gJ a.2)) λa=>[c a.2<=4000000,c (ed a.2)<=4000000]
def Nt:bL q 122 BT:=.a9 λb a=>Yj b a.1 a.2
def hv(a:m ej):m Int:=a.flatMap λb=>ed b.2
def h4(b:m ej):m Int:=b.foldl (λa d=>(gJ d.2).foldl fe a) []
theorem A'{d}(a:e<c d):hv (d.take (e+1))=hv (d.take e)++ed (d.getD e (0,[])).2:=by rw[iq a (0,[])];simp[hv]
def GK(d)(e):c (hv (d.take e))<=c (hv d):=by
 have a:hv d=hv (d.take e)++hv (d.drop e):=by unfold hv;grind[List.take_append_drop]
 grind
theorem K5{d}(a:e<c d):h4 (d.take (e+1))=(gJ (d.getD e (0,[])).2).foldl fe (h4 (d.take e)):=by unfold h4;grind[iq]
def yT(d):∀a,a<=c d->c (h4 (d.take a))<=c (hv (d.take a))
 |0,_=>by simp[h4]
 |a+1,e=>by have b:=yT d a w;grind[qt,tt,K5,A']
def Xf(b)(p:kz b)(M:c b.2.1<=4000000)(N:c (hv b.2.1)<=4000000):Y q 86 [bX b] [] (az.B (h4 b.2.1)) []:=by
 refine Y.I func86 rfl λI=>?_;have i:a' q [(123,xF),(122,BT)]:=.cons ET (.cons Nt .nil);refine b9 i a B (g.aH 1 (λe=>e<=c b.2.1) (λe:Nat=>[(1,aI 0 0),(3,az.B (h4 (b.2.1.take e))),(4,R e)]) (λ_=>[oP b]) (λe=>c b.2.1-e) 0 a (by simp[h4]) a D a w ?_);intro e m;by_cases t:e<c b.2.1
 .have r:b.2.1.getD e bh.E=b.2.1.getD e (0,[]):=rfl;have E:=p _ (ov (O:=(0,[])) t);have x:=A' t;have C:=GK b.2.1 (e+1);have K:=yT b.2.1 e m;have p:=K5 t;rw[x,dm]at C;generalize b.2.1.getD e (0,[])=j at *;have F:=tt j.2;generalize h4 (b.2.1.take e)=k at *;refine a_ i [12] a ?_ ?_
  .simp[-al,t,r,cw.l,cw.U];omega
  have y:b.2.1.getD (e:Int).toNat bh.E=j:=by rw[cW];exact r
  rw[y,cw.l];refine g.aH 1 (λd=>d<=c (gJ j.2)) (λd:Nat=>[(1,aI 0 0),(3,az.B (((gJ j.2).take d).foldl fe k)),(4,R e),(5,az.B (gJ j.2)),(6,R d)]) (λ_=>[oP b]) (λd=>c (gJ j.2)-d) 0 a D a D a w ?_;intro d J;generalize gJ j.2=h at *;by_cases o:d<c h
  .have s:h.getD d az.E=h.getD d 0:=rfl;have z:=yw fe k o;have A:=qt k (h.take d);rw[List.length_take]at A;generalize(h.take d).foldl fe k=ka at *;have u:=az.l ka;refine a_ i [24] a ?_ (g.az (d+1) a ?_ ?_ o w)
   .simp[-al,s,o,u,az.U,a8];omega
   .rw[z];simp[-al,s,u]
   simp
  obtain rfl:d=c h:=w;rw[c8,<-p];refine a_ i [-24] a D (g.aA ?_);exact QV
 obtain rfl:e=c b.2.1:=w;rw[c8];refine a_ i [-12] a D (g.aA ?_);exact b9 i a B (g.aw a)
abbrev BS:bI:=dc oa (λa=>az.B (h4 a.2.1)) λa=>[kz a,c a.2.1<=4000000,c (hv a.2.1)<=4000000]
def Ns:bL q 86 BS:=.a9 λb a=>Xf b a.1 a.2.1 a.2.2
abbrev dP:=cc×m Int×m Int
abbrev eE:=Int×dP×(Int×Int×Int×bA)×m (Int×Int)×m Int
abbrev Y_:rh cc:=yo (vk a2) (yo (vk bh) (vk a3))
abbrev C0:rh dP:=yo Y_ (yo (vk az) (vk az))
abbrev cL(a:c6 α)(b:m α):Q:=.c (.B v a.bm (c b) (a.fn b))
abbrev wl(a:dP):m Q:=[cL a2 a.1.1,cL bh a.1.2.1,cL a3 a.1.2.2,cL az a.2.1,cL az a.2.2]
abbrev gE(a:dP):y:=.n (.agg (wl a))
abbrev fx(a:eE):m Q:=.c (.int .i64 a.1)::(wl a.2.1++[.c (.int .i64 a.2.2.1.1),.c (.int .i64 a.2.2.1.2.1),.c (.int .i64 a.2.2.1.2.2.1),.c (.S a.2.2.1.2.2.2),cL a3 a.2.2.2.1,cL az a.2.2.2.2])
abbrev fb(a:eE):y:=.n (.agg (fx a))
structure rj(b:cc):Prop where
 fM:c b.1<=4000000
 dY:kz b
 fe:c b.2.1<=4000000
 eC:c (hv b.2.1)<=4000000
def nJ(a:m cb)(d:m Int)(b:Nat):Bool:=(a.any λe=>e.1==d.getD b 0)&&ki (λg=>g) 0 d b
def hp(b:Int)(a:dP):Bool:=(h4 a.1.2.1).all (λd=>a.2.1.contains d)&&(aA (c a.2.2)).all (nJ a.1.1 a.2.2)&&h8 b a.1
def SZ{d}{a:Int->Bool}:d.all a=(aA (c d)).all λb=>a (d.getD b 0):=by rw[o6,gf,aW];grind[List.mem_iff_getElem]
def S6{d}{T:cb->Bool}(a:u<c d):(d.take (u+1)).any T=((d.take u).any T||T (d.getD u (0,[]))):=ir
abbrev gx(a:dP):ar:=.cells 33 (wl a)
def YG(h)(p)(m:rj p.1):Y q 120 [R h,gE p] [] (bg (hp h p)) []:=by
 refine Y.I func120 rfl λI=>?_;have k:a' q [(86,BS),(85,u5),(83,B1)]:=.cons Ns (.cons zL (.cons NC .nil));have M:=I.fY 1 a 4 a;have J:=yT p.1.2.1 _ (bC _);rw[c8]at J;have X:=m.eC;refine b9 k a ?_ ?_
 .simp[a2.l,a2.U,bh.l,bh.U,a3.l,a3.U,m.dY,m.fe,m.eC]
 rw[bh.l];unfold hp;rw[SZ];generalize h4 p.1.2.1=j at *;refine g.aH 1 (λe=>e<=c j/\∀b,b<e->p.2.1.contains (j.getD b 0)=l) (λe:Nat=>[(0,R h),(3,aI 0 0),(5,az.B j),(6,R e)]) (λ_=>[gx p]) (λe=>c j-e) 0 a D a D a ⟨by omega,by omega⟩ ?_;rintro e ⟨z,o⟩;by_cases t:e<c j
 .have r:j.getD e az.E=j.getD e 0:=rfl;cases x:p.2.1.contains (j.getD e 0)with
  |false=>
   refine a_ k [16,26] a ?_ (g.aS (bZ.zero a ?_))
   .simp[-al,-List.contains_eq_mem,r,t,x,az.l,az.U]
   rw[lM t x];simp
  |true=>
   refine a_ k [16,-26] a ?_ (g.az (e+1) a D D ⟨t,jn o x⟩ w);simp[-al,-List.contains_eq_mem,r,t,x,az.l,az.U,a8];omega
 obtain rfl:e=c j:=w;rw[gf.2 o,fX];refine a_ k [-16] a D (g.aA ?_);refine b9 k a B (g.aH 1 (λe=>e<=c p.2.2/\∀b,b<e->nJ p.1.1 p.2.2 b=l) (λe:Nat=>[(0,R h),(3,aI 0 0),(7,R e)]) (λ_=>[gx p]) (λe=>c p.2.2-e) 0 a D a D a ⟨by omega,by omega⟩ ?_);rintro e ⟨z,o⟩;by_cases t:e<c p.2.2
 .have r:p.2.2.getD e az.E=p.2.2.getD e 0:=rfl;have bk:p.2.2.getD (e-1) az.E=p.2.2.getD (e-1) 0:=rfl;have A:nJ p.1.1 p.2.2 e=((p.1.1.any λT=>T.1==p.2.2.getD e 0)&&ki (λE=>E) 0 p.2.2 e):=rfl;have Q:=qd (aj:=λE:Int=>E) (O:=0) (d:=p.2.2) (e:=e);generalize p.2.2.getD e 0=s at *;generalize p.2.2.getD (e-1) 0=C at *;refine a_ k [31] a gM (g.aH 1 (λb=>b<=c p.1.1) (λb:Nat=>[(0,R h),(3,aI 0 0),(7,R e),(8,bg ((p.1.1.take b).any λT=>T.1==s)),(9,R b)]) (λ_=>[gx p]) (λb=>c p.1.1-b) 0 a D a D a w ?_);intro b G;by_cases u:b<c p.1.1
  .have V:=m.fM;have y:p.1.1.getD b a2.E=p.1.1.getD b (0,[]):=rfl;have W:=S6 (T:=λT=>T.1==s) u;generalize p.1.1.getD b (0,[])=T at *;generalize(p.1.1.take b).any (λT=>T.1==s)=i at *;cases i with
   |true=>
    refine a_ k [39] a ?_ (g.az (b+1) a ?_ ?_ u w)
    .simp[u,a8];omega
    .exact bF
    simp
   |false=>
    refine a_ k [39] a ?_ (g.az (b+1) a ?_ ?_ u w)
    .simp[-al,t,u,a8];omega
    .exact bF
    simp
  obtain rfl:b=c p.1.1:=w;rw[c8];refine a_ k [-39] a D (g.aA ?_);cases F:p.1.1.any (λT=>T.1==s)with
  |false=>
   rw[F,sH]at A;refine a_ k [77] a D (g.aS (bZ.zero a ?_));rw[lM t A];simp
  |true=>
   rw[F,fX]at A;by_cases K:e=0
   .subst K;refine a_ k [-63,-77] a ?_ (g.az 1 a D D ⟨t,jn o bF⟩ w);simp[a8]
   by_cases S:C<s
   .refine a_ k [63,-75,-77] a ?_ (g.az (e+1) a D D ⟨t,jn o N⟩ w);exact Qm
   refine a_ k [63,75,77] a Qm (g.aS (bZ.zero a ?_));exact j8
 obtain rfl:e=c p.2.2:=w;rw[gf.2 o,fX];refine a_ k [-31] a D (g.aA ?_);refine b9 k a ?_ (g.aw a ?_)
 .simp[a2.l,a2.U,bh.l,bh.U,a3.l,a3.U,m.dY,m.fe,m.fM]
 simp[a2.l,bh.l,a3.l]
abbrev H1:bI:=ek c7 (AO C0) (λb a=>bg (hp b a)) λ_ a=>[rj a.1]
def aej:bL q 120 H1:=.bl λb d a=>YG b d a
theorem aah{b a}(e:d6 b=l)(g:∀d∈a,d∈b):d6 a=l:=by unfold d6 at e⊢;grind
def LZ{o}(g:d6 o=l):∀e a,∀d∈iJ o e a,cC d=l
 |0,_,d,b=>by exact bF
 |e+1,a,d,b=>by
  simp only[iJ]at b;split at b
  .rename_i h;have i:=rJ o a h;rcases fh.1 b with rfl|b
   .have s:c ((o.drop a).take (eu o a-a))=eu o a-a:=N;simp[cC,cm,bw];grind[aah]
   exact LZ g e _ d b
  grind
def vZ{o}(a:d6 o=l):∀b∈cn o,cC b=l:=LZ a _ _
def LY(o):∀a b,c (iJ o a b)<=a
 |0,_=>bC _
 |a+1,b=>by
  simp[iJ];split
  .have:=LY o a (eu o b);grind
  simp
theorem vY(o):c (cn o)<=c o:=LY o _ _
def eX(b:m cN):m bA:=b.flatMap λa=>cn a.2
def GN{o}(a:e<c o):eX (o.take (e+1))=eX (o.take e)++cn (o.getD e ([],[])).2:=by rw[iq a ([],[])];simp[eX]
def GM(o)(e):c (eX (o.take e))<=c (eX o):=by
 have a:eX o=eX (o.take e)++eX (o.drop e):=by unfold eX;grind[List.take_append_drop]
 grind
def Dc(h)(d)(Z):∀a:m bA,c (Z.foldl (fg h d) a)<=c a+c Z:=by
 induction Z with
 |nil=>grind
 |cons b j e=>
  intro a;have g:=e (fg h d a b);have i:c (fg h d a b)<=c a+1:=by unfold fg;split<;>simp
  grind
abbrev Ht:bI:=ek (eS fi) c7 (λa b=>R (i5 a b)) λa _=>[c a<=4000000]
def adG:bL q 197 Ht:=.bl λb d a=>VC b d a
abbrev Hx:bI:=ek (eS bS) eL (λa b=>bg (a.contains b)) λa _=>[c a<=4000000]
def adM:bL q 199 Hx:=.bl λb d a=>Wb b d a
abbrev IM(a:m bA):y:=.n (.R (.x 0 1 (c a) (bS.fn a)))
structure ri(o:m cN):Prop where
 len:c o<=4000000
 fl:∀aj∈o,d6 aj.2=l/\c aj.2<=4000000
 all:c (eX o)<=100000
def Xp(h)(o)(d)(r:ce h=l)(u:ri o)(T:c d<=4000000):Y q 163 [R h,bu.B o,fi.B d] [] (bS.B (ga h o d)) []:=by
 refine Y.I func163 rfl λQ=>?_;have k:a' q [(196,xG),(198,xM),(197,Ht),(199,Hx)]:=.cons EU (.cons zN (.cons adG (.cons adM .nil)));refine bd k [902] a B (g.bG 7 9 1 a a ?_);refine cU k a B (g.aH 1 (λb=>b<=c o) (λb:Nat=>[(0,R h),(1,bu.B o),(2,fi.B d),(7,IM ((eX (o.take b)).foldl (fg h d) [])),(8,R b)]) (λb=>[.x 9 1 (c ((eX (o.take b)).foldl (fg h d) [])) (bS.fn ((eX (o.take b)).foldl (fg h d) []))]) (λb=>c o-b) 0 a ?_ a ?_ a w ?_)
 .simp[eX]
 .simp[eX]
 intro b E;by_cases C:b<c o
 .have p:o.getD (b:Int).toNat bu.E=o.getD b ([],[]):=N;have A:o.getD b ([],[])∈o:=N;obtain⟨S,K⟩:=u.fl _ A;have F:=GN C;have O:=GM o (b+1);have V:=u.all;have W:=u.len;have J:=vZ S;generalize o.getD b ([],[])=j at *;rw[F,dm]at O;refine bd k [15] a du ?_;rw[p];refine g.aH 1 (λe=>e<=c (cn j.2)) (λe:Nat=>[(0,R h),(1,bu.B o),(2,fi.B d),(7,IM ((eX (o.take b)++(cn j.2).take e).foldl (fg h d) [])),(8,R b),(9,bS.B (cn j.2)),(10,R e)]) (λe=>[.x 9 1 (c ((eX (o.take b)++(cn j.2).take e).foldl (fg h d) [])) (bS.fn ((eX (o.take b)++(cn j.2).take e).foldl (fg h d) []))]) (λe=>c (cn j.2)-e) 0 a D a D a w ?_;intro e y;have I:=Dc h d (eX (o.take b)++(cn j.2).take e) [];simp only[gQ,dm,List.length_take]at I;by_cases M:e<c (cn j.2)
  .have i:(cn j.2).getD (e:Int).toNat bS.E=(cn j.2).getD e []:=N;have s:cC ((cn j.2).getD e [])=l:=J _ N;have m:(eX (o.take b)++(cn j.2).take (e+1)).foldl (fg h d) []=fg h d ((eX (o.take b)++(cn j.2).take e).foldl (fg h d) []) ((cn j.2).getD e []):=ir;generalize(eX (o.take b)++(cn j.2).take e).foldl (fg h d) []=dy at *;generalize(cn j.2).getD e []=x at *;have z:=bS.aW dy x;by_cases t:i5 d (d8 h x)=0
   .cases aa:dy.contains x with
    |true=>
     rw[fg,bj N]at m;refine bd k [27,38,45] a ?_ (g.az (e+1) a ?_ ?_ ?_ ?_)
     .simp only[U,i,r,s,t,aa,a8,bS.l,fi.l,gm,bw,ba,a9];exact Rq
     .rw[m];simp
     .rw[m];simp
     .grind
     omega
    |false=>
     rw[fg,bl N]at m;refine bd k [27,38,-45] a ?_ (g.az (e+1) a ?_ ?_ ?_ ?_)
     .simp only[U,i,r,s,t,aa,a8,show tc.bytes=16 from a,bS.l,fi.l,gm,bw,ba,a9];exact Rq
     .rw[m];simp only[U.Y,U,i,dm,fs,gQ,ba,a9];and_intros<;>first|exactλ_ _=>rfl|exact z|rfl|omega
     .rw[m];simp only[U.Y,U,i,dm,fs,gQ,ba,a9];and_intros<;>first|exact z|rfl|omega
     .grind
     omega
   rw[fg,bj N]at m;refine bd k [27,-38] a ?_ (g.az (e+1) a ?_ ?_ ?_ ?_)
   .simp only[U,i,r,s,a8,fi.l,eW,ea,t,qc,bw,ba,a9];and_intros<;>first|exact fi.U _|omega
   .rw[m];simp
   .rw[m];simp
   .grind
   omega
  have X:e=c (cn j.2):=w;refine bd k [-27] a bv (g.aA ?_);exact cU k a bF (g.az (b+1) a du du N w)
 obtain rfl:b=c o:=w;rw[c8];refine bd k [-15] a D (g.aA ?_);refine cU k a B (g.aw a ?_);simp[ga,eX]
abbrev kv(b:Int)(a:m bA):m Int:=a.map (d8 b)
abbrev oB(a:Int)(b:m cN):m m_:=b.map (kV a)
abbrev Lw(b:Int)(a:m m_):m ar:=[.cells 90 [.c (.int .i64 0),.c (.B l 0 0 λ_=>[])],.cells 90 [.c (.int .i64 b),.x 2 2 (c a) (cw.fn a)],.x 123 2 (c a) (cw.fn a)]
def Xw(bN h)(o)(m:ce h=l)(t:ri o):Y q 166 [R bN,R h,bu.B o] [] (i1 (fM bN h o)) []:=by
 refine Y.bh bb func166 rfl rfl rfl λT=>?_;have j:a' q [(196,xG),(198,xM)]:=.cons EU (.cons zN .nil);refine bd j [902] a B (g.cn 1 1 123 2 (cw.fn []) a a ?_);refine cU j a B (g.aH 3 (λe=>e<=c o) (λe:Nat=>[(1,R h),(2,bu.B o),(6,aI 0 0),(7,aI 1 0),(8,R e)]) (λe=>Lw bN (oB h (o.take e))) (λe=>c o-e) 0 a D a D a w ?_);intro e z;by_cases K:e<c o
 .have r:o.getD (e:Int).toNat bu.E=o.getD e ([],[]):=N;have y:o.getD e ([],[])∈o:=N;obtain⟨I,F⟩:=t.fl _ y;have S:=t.len;have C:=vZ I;have Q:=vY (o.getD e ([],[])).2;have p:oB h (o.take (e+1))=oB h (o.take e)++[kV h (o.getD e ([],[]))]:=ir;have O:c (oB h (o.take e))=e:=N;generalize o.getD e ([],[])=b at *;generalize oB h (o.take e)=k at *;refine bd j [18,907] a du ?_;rw[r];refine g.bG 10 3 1 a a ?_;refine cU j a B (g.aH 4 (λd=>d<=c (cn b.2)) (λd:Nat=>[(1,R h),(2,bu.B o),(6,aI 0 0),(7,aI 1 0),(8,R e),(9,bS.B (cn b.2)),(10,.n (.R (.x 3 1 d (az.fn (kv h ((cn b.2).take d)))))),(11,R d)]) (λd=>Lw bN k++[.x 3 1 d (az.fn (kv h ((cn b.2).take d)))]) (λd=>c (cn b.2)-d) 0 a D a D a w ?_);intro d x;by_cases V:d<c (cn b.2)
  .have i:(cn b.2).getD (d:Int).toNat bS.E=(cn b.2).getD d []:=N;have A:cC ((cn b.2).getD d [])=l:=C _ N;have s:=az.aW (kv h ((cn b.2).take d)) (d8 h ((cn b.2).getD d []));rw[show(kv h ((cn b.2).take d)).length=d by grind,show kv h ((cn b.2).take d)++[d8 h ((cn b.2).getD d [])]=kv h ((cn b.2).take (d+1)) by grind[iq]]at s;refine bd j [31] a ?_ (g.az (d+1) a ?_ ?_ ?_ ?_)
   .simp only[U,i,m,A,a8,show dZ.bytes=8 from a,bw,ba,a9];exact fE
   .exact Qo
   .exact Qo
   .grind
   omega
  have E:d=c (cn b.2):=w;rw[E,c8];have s:=cw.aW k (kV h b);have u:c k+1=c (k++[kV h b]):=D;have J:cw.a8 (kV h b)=[M.S b.1,M.B v 1 (c (cn b.2)) (az.fn (kv h (cn b.2)))]:=by show[M.S b.1,M.B v 1 (c (kv h (cn b.2))) (az.fn (kv h (cn b.2)))]=_;grind
  rw[J,<-p]at s;rw[<-p]at u;refine bd j [-31] a D (g.aA ?_);refine cU j a Pr (g.az (e+1) a D ?_ ?_ ?_)
  .simp only[U.Y,U,r,ba,a9];and_intros<;>first|exact bs.same|exact s|exact u|rfl
  .grind
  omega
 obtain rfl:e=c o:=w;rw[c8];refine bd j [-18] a D (g.aA ?_);refine cU j a B (g.bg () [] ?_ (λd x=>absurd x D));simp[fM]
def o9(b a:Nat->m M):cj 0 b a=a:=by funext e;simp[cj]
abbrev j2(a:cc):ar:=.cells 30 [.c (.B v 2 (c a.1) (a2.fn a.1)),.c (.B v 2 (c a.2.1) (bh.fn a.2.1)),.c (.B v 2 (c a.2.2) (a3.fn a.2.2))]
abbrev Cl(a:cc)(b:Nat)(e:m cb)(d:Nat)(g:m ej):m ar:=[j2 a,.cells 30 [cG,cG,cG],.q 86 2 b (a2.fn e),.q 90 2 d (bh.fn g),.q 56 2 (c a.2.2) (a3.fn a.2.2),.cells 30 [.O 2 (.B b 2 0 b),.O 3 (.B d 2 0 d),.O 4 (.B (c a.2.2) 2 0 (c a.2.2))]]
def U9(b)(y:c b.1<=4000000)(s:∀u∈b.1,c u.2<=4000000)(F:c b.2.1<=4000000)(r:kz b)(E:c b.2.2<=4000000):
  Y q 84 [bX b] [] (.n (.agg [.O 0 (.B (c b.1) 2 0 (c b.1)),.O 1 (.B (c b.2.1) 2 0 (c b.2.1)),.O 2 (.B (c b.2.2) 2 0 (c b.2.2))])) [.q 86 2 (c b.1) (a2.fn b.1),.q 90 2 (c b.2.1) (bh.fn b.2.1),.q 56 2 (c b.2.2) (a3.fn b.2.2)]:=by
 refine Y.bh bb func84 rfl rfl rfl λz=>?_;refine bO [901] a B (g.region ?_);refine gv [] 5 a B (g.dJ 9 86 2 (a2.fn []) a ?_);refine g.dJ 10 90 2 (bh.fn []) a ?_;refine g.dJ 11 56 2 (a3.fn []) a ?_;refine cA a PQ (g.aH 6 (λd=>d<=c b.1) (λd:Nat=>[(1,aI 0 0),(2,aI 1 0),(3,aI 5 0),(4,R d)]) (λd=>Cl b d (b.1.take d) 0 []) (λd=>c b.1-d) 0 a D a ?_ a w ?_)
 .simp[bs,o9];rfl
 intro d m;by_cases k:d<c b.1
 .have j:b.1.getD d (0,[])∈b.1:=N;have x:b.1.getD (d:Int).toNat a2.E=b.1.getD d (0,[]):=N;have p:=s _ j;refine bO [20,2000038] a FH (g.az (d+1) a D ?_ ?_ ?_)
  .have ak:=a2.cW b.1 k (0,[]);exact OY
  .grind
  omega
 obtain rfl:d=c b.1:=w;rw[c8];refine bO [-20] a D (g.aA ?_);refine cA a B (g.aH 6 (λd=>d<=c b.2.1) (λd:Nat=>[(1,aI 0 0),(2,aI 1 0),(3,aI 5 0),(5,R d)]) (λd=>Cl b (c b.1) b.1 d (b.2.1.take d)) (λd=>c b.2.1-d) 0 a D a D a w ?_);intro d m;by_cases k:d<c b.2.1
 .have j:b.2.1.getD d (0,[])∈b.2.1:=N;have x:b.2.1.getD (d:Int).toNat bh.E=b.2.1.getD d (0,[]):=N;have p:=r _ j;have ak:=bh.cW b.2.1 k (0,[]);generalize b.2.1.getD d (0,[])=h at *;refine bO [47,910] a bv ?_;rw[x];refine g.cn 6 1 123 2 (cw.fn []) a a ?_;refine cA a B (g.aH 8 (λe=>e<=c h.2) (λe:Nat=>[(1,aI 0 0),(2,aI 1 0),(3,aI 5 0),(5,R d),(6,aI 6 0),(7,R e)]) (λe=>Cl b (c b.1) b.1 d (b.2.1.take d)++[.cells 90 [.c (.int .i64 h.1),.x 7 2 e (cw.fn (h.2.take e))],.x 123 2 e (cw.fn (h.2.take e))]) (λe=>c h.2-e) 0 a D a D a w ?_);intro e o;by_cases t:e<c h.2
  .have i:h.2.getD (e:Int).toNat cw.E=h.2.getD e ([],[]):=N;have C:=p.2 (h.2.getD e ([],[])) N;have A:=cw.cW h.2 t ([],[]);refine bO [66,2000085] a Pz (g.az (e+1) a D QQ N ?_);omega
  obtain rfl:e=c h.2:=w;rw[c8];refine bO [-66] a FP (g.aA ?_);refine cA a F0 (g.az (d+1) a D FY N ?_);omega
 obtain rfl:d=c b.2.1:=w;rw[c8];refine bO [-47] a D (g.aA ?_);refine cA a B (g.bg () [2,3,4] ?_ (λe o=>absurd o D));simp
def yU{g h:ae}{e i}(A)(o:r.op=.call {callee:=.builtin .max,args:=#[g,h],argTypes:=dt})(u:η g=R e)(s:η h=R i)(y:max e i=A)(t:a8 .i64 A):a1 S r η k (R A) k:=by refine .aR λB d z j=>?_;have b:=j g;have a:=j h;rw[u]at b;rw[s]at a;replace b:=b8 b;replace a:=b8 a;generalize m:d g=w at b;generalize p:d h=x at a;cases b;cases a;have q:(if e<i then i else e)=A:=N;exact⟨.int .i64 A,by simp[ab,o,resolve,invoke,builtin,m,p,Builtin.max_,Builtin.max2,q],.int t,by simp[ab,o,resolve,invoke,builtin,m,p,Builtin.max_,Builtin.max2]⟩
def dj(a:cc):Int:=if c a.1=0 then 1 else(a.1.getD (c a.1-1) (0,[])).1+1
def lY(b:m (Int×Int)):Int:=b.foldl (λd a=>max d (a.2+1)) 1
def cR(a:cc):Int:=if c a.2.1=0 then lY a.2.2 else max (lY a.2.2) ((a.2.1.getD (c a.2.1-1) (0,[])).1+1)
structure mi(b_:cc):Prop where
 a0:∀E∈b_.1,-4000000<=E.1/\E.1<=4000000
 bj:∀E∈b_.2.1,-4000000<=E.1/\E.1<=4000000
 aM:∀E∈b_.2.2,-4000000<=E.2/\E.2<=4000000
def tb(d)(e:∀b∈d,-4000000<=b.2/\b.2<=4000000):1<=lY d/\lY d<=4000001:=by
 have:∀(d:m (Int×Int)) a,(∀b∈d,-4000000<=b.2/\b.2<=4000000)->1<=a->a<=4000001->1<=d.foldl (λa e=>max a (e.2+1)) a/\d.foldl (λa e=>max a (e.2+1)) a<=4000001:=by
  intro d;induction d with
  |nil=>grind
  |cons b h g=>
   grind
 exact this d 1 e w w
def ZF{d}(a:e<c d):lY (d.take (e+1))=max (lY (d.take e)) ((d.getD e (0,0)).2+1):=by unfold lY;grind[iq]
def mE{d:m α}(b:e<c d)(a:α):d.getD e a∈d:=N
def Xr(b:cc)(i:dJ b)(h:mi b):Y q 162 [bX b] [] (.T [.R (.c (.int .i64 (dj b))),.R (.c (.int .i64 (cR b)))]) []:=by
 refine Y.I func162 rfl λy=>?_;have t:=i.a0;have u:=i.a1;have s:=i.aM;apply g.cj [(1,aI 0 0),(4,R (dj b)),(5,R 1)] [j2 b]
 .intro dy;by_cases e:c b.1=0
  .exact bO [-10,905] a du (dy _ _ a (by simp[dj,e]))
  have j:=h.a0 _ (mE (show c b.1-1<c b.1 by omega) (0,[]));have x:b.1.getD ((c b.1:Int)-1).toNat a2.E=b.1.getD (c b.1-1) (0,[]):=by rw[show((c b.1:Int)-1).toNat=c b.1-1 by omega];rfl
  exact bO [10,905] a wE (dy _ _ a (by simp only[U.Y,U,dj,bj e,x,ba,a9]))
 refine cA a B (g.aH 1 (λd=>d<=c b.2.2) (λd:Nat=>[(1,aI 0 0),(4,R (dj b)),(5,R (lY (b.2.2.take d))),(6,R d)]) (λd=>[j2 b]) (λd=>c b.2.2-d) 0 a ?_ a ?_ a w ?_)
 .simp[lY]
 .simp
 intro d k;by_cases e:d<c b.2.2
 .have j:=h.aM _ (mE e (0,0));have o:=tb (b.2.2.take d) λr p=>h.aM r (g4 p);have x:b.2.2.getD (d:Int).toNat a3.E=b.2.2.getD d (0,0):=N;have m:=ZF e;refine bO [25] a wE ?_;rw[x];refine g.aL (yU (lY (b.2.2.take (d+1))) a a a m.symm m5) a a ?_;exact cA a bF (g.az (d+1) a D D N w)
 obtain rfl:d=c b.2.2:=w;rw[c8];refine bO [-25] a D (g.aA ?_);have o:=tb b.2.2 h.aM;by_cases e:c b.2.1=0
 .refine bO [-40] a du (g.aw a ?_);simp[cR,e]
 have j:=h.bj _ (mE (show c b.2.1-1<c b.2.1 by omega) (0,[]));have x:b.2.1.getD ((c b.2.1:Int)-1).toNat bh.E=b.2.1.getD (c b.2.1-1) (0,[]):=Sb;refine bO [40] a wE ?_;rw[x];refine g.aL (yU (cR b) a a a (by rw[cR,bj e]) (by rw[cR,bj e];simp only[a8];omega)) a a ?_;exact cA a B (g.aw a)
abbrev Cm(a:cc)(b:Nat)(e:m cb)(d:Nat)(g:m ej):m ar:=[j2 a,.cells 30 [cG,cG,cG],.x 56 2 (c a.2.2) (a3.fn a.2.2),.cells 30 [.x 4 2 b (a2.fn e),.x 5 2 d (bh.fn g),.x 2 2 (c a.2.2) (a3.fn a.2.2)],.x 86 2 b (a2.fn e),.x 90 2 d (bh.fn g)]
def qp(b)(y:c b.1<=4000000)(s:∀u∈b.1,c u.2<=4000000)(F:c b.2.1<=4000000)(r:kz b)(E:c b.2.2<=4000000):
  Y q 84 [bX b] [] (.n (.agg [.x 0 2 (c b.1) (a2.fn b.1),.x 1 2 (c b.2.1) (bh.fn b.2.1),.x 2 2 (c b.2.2) (a3.fn b.2.2)])) [.x 86 2 (c b.1) (a2.fn b.1),.x 90 2 (c b.2.1) (bh.fn b.2.1),.x 56 2 (c b.2.2) (a3.fn b.2.2)]:=by
 refine Y.bh bb func84 rfl rfl rfl λz=>?_;refine bO [902] a ?_ ?_
 .simp only[U,show vx.bytes=16 from a,ba,a9,lI];grind
 refine g.cn 3 0 86 2 (a2.fn []) a a ?_;refine g.cn 3 1 90 2 (bh.fn []) a a ?_;refine cA a B (g.aH 6 (λd=>d<=c b.1) (λd:Nat=>[(1,aI 0 0),(2,aI 1 0),(3,aI 3 0),(4,R d)]) (λd=>Cm b d (b.1.take d) 0 []) (λd=>c b.1-d) 0 a D a ?_ a w ?_)
 .simp[bs,o9]
 intro d m;by_cases k:d<c b.1
 .have j:b.1.getD d (0,[])∈b.1:=N;have x:b.1.getD (d:Int).toNat a2.E=b.1.getD d (0,[]):=N;have p:=s _ j;refine bO [20,2000038] a FH (g.az (d+1) a D ?_ ?_ ?_)
  .have ak:=a2.cW b.1 k (0,[]);simp only[U.Y,U,x,o9,cV,a9,ba];exact Rx
  .grind
  omega
 obtain rfl:d=c b.1:=w;rw[c8];refine bO [-20] a D (g.aA ?_);refine cA a B (g.aH 6 (λd=>d<=c b.2.1) (λd:Nat=>[(1,aI 0 0),(2,aI 1 0),(3,aI 3 0),(5,R d)]) (λd=>Cm b (c b.1) b.1 d (b.2.1.take d)) (λd=>c b.2.1-d) 0 a D a D a w ?_);intro d m;by_cases k:d<c b.2.1
 .have j:b.2.1.getD d (0,[])∈b.2.1:=N;have x:b.2.1.getD (d:Int).toNat bh.E=b.2.1.getD d (0,[]):=N;have p:=r _ j;have ak:=bh.cW b.2.1 k (0,[]);generalize b.2.1.getD d (0,[])=h at *;refine bO [47,910] a bv ?_;rw[x];refine g.cn 6 1 123 2 (cw.fn []) a a ?_;refine cA a B (g.aH 8 (λe=>e<=c h.2) (λe:Nat=>[(1,aI 0 0),(2,aI 1 0),(3,aI 3 0),(5,R d),(6,aI 6 0),(7,R e)]) (λe=>Cm b (c b.1) b.1 d (b.2.1.take d)++[.cells 90 [.c (.int .i64 h.1),.x 7 2 e (cw.fn (h.2.take e))],.x 123 2 e (cw.fn (h.2.take e))]) (λe=>c h.2-e) 0 a D a D a w ?_);intro e o;by_cases t:e<c h.2
  .have i:h.2.getD (e:Int).toNat cw.E=h.2.getD e ([],[]):=N;have C:=p.2 (h.2.getD e ([],[])) N;have A:=cw.cW h.2 t ([],[]);refine bO [66,2000085] a Pz (g.az (e+1) a D QQ N ?_);omega
  obtain rfl:e=c h.2:=w;rw[c8];refine bO [-66] a FP (g.aA ?_);refine cA a F0 (g.az (d+1) a D ?_ ?_ ?_)
  .simp only[U.Y,U,a9,ba];exact Rx
  .grind
  omega
 obtain rfl:d=c b.2.1:=w;rw[c8];refine bO [-47] a D (g.aA ?_);refine cA a B (g.bg () [4,5,2] ?_ (λe o=>absurd o D));simp
def _root_.Go.AM.c6.hh(a:c6 α)(d)(g:bs j V (a.fn d))(k:j<=c d):a.ad j V=d.take j:=by
 apply p8
 .simp[c6.ad];omega
 intro e h i;have b:e<j:=N;simp[c6.ad,g e b,c6.fn,gK,al,bJ (show e<c d by omega),a.inv]
def _root_.Go.AM.c6.g5(a:c6 α)(d)(g:bs j V (a.fn d)):a.bH j V:=λe b=>by rw[g e b];exact a.U d e (Nat.lt_succ_self e)
def aaE(a b:Nat):min (a:Int) (b:Int)=((min a b:Nat):Int):=N
def gh(d:Int):Nat->Int->m bA->m cb
 |0,_,_=>[]
 |e+1,b,a=>if 0<c a then jZ b d (a.take 4)::gh d e (b+1) (a.drop 4)else[]
def ku(a:Int)(b:cc)(d:m cN):m cb:=gh a (c (ga a d (eG b.1))) (dj b) (ga a d (eG b.1))
def fC(b:Int)(a:cc)(d:m cN):Bool:=decide (20<c a.1+c (ku b a d))||(decide (99<dj a+c (ku b a d)-1)||(decide (20<cR a)||decide (9<=c a.2.2)))
def eI(d:Int)(a:cc)(b:Int)(e:m cN):cc:=(a.1++ku d a e,a.2.1++[fM (cR a) d e],a.2.2++[(b,cR a)])
theorem LL(h):∀d a b,c (gh h d a b)<=d
 |0,_,_=>bC _
 |d+1,a,b=>by
  simp[gh];split
  .have:=LL h d (a+1) (b.drop 4);grind
  simp
abbrev HI:bI:=kl c7 c7 (eS bS) (λd b a=>fR (jZ d b a)) λ_ b a=>[ce b=l,∀e∈a,cC e=l,c a<=4000000]
def adX:bL q 165 HI:=.c7 λb e d a=>Xb b e d a.1 a.2.1 a.2.2
abbrev HM:bI:=kl c7 c7 (eS bu) (λb a d=>i1 (fM b a d)) λ_ a d=>[ce a=l,ri d]
def ad1:bL q 166 HM:=.c7 λa d e b=>Xw a d e b.1 b.2
abbrev HL:bI:=kl c7 (eS bu) (eS fi) (λa d b=>bS.B (ga a d b)) λa d b=>[ce a=l,ri d,c b<=4000000]
def ad0:bL q 163 HL:=.c7 λb e d a=>Xp b e d a.1 a.2.1 a.2.2
def qT{o}{d}(i:ri o):(∀a∈ga h o d,cC a=l)/\c (ga h o d)<=100000:=by
 constructor
 .have:∀(b g:m bA),(∀a∈b,cC a=l)->(∀a∈g,cC a=l)->∀a∈b.foldl (fg h d) g,cC a=l:=by
   intro b;induction b with
   |nil=>grind
   |cons s t k=>
    intro g r q;refine k _ (λa e=>r a (mo _ e)) λa e=>?_;unfold fg at e;grind
  refine this _ [] (λa e=>?_) D;obtain⟨p,j,e⟩:=ru.1 e;exact vZ (i.fl p j).1 a e
 have:=Dc h d (eX o) [];have q:=i.all;unfold ga;simp[gQ]at this;exact fY this w
theorem KD{d}(a:c (dF d)<=100000):c (eG d)<=100000:=by unfold eG;grind[Dd]
abbrev aca(e b d:Int)(g:cc)(h:m cN)(a:m bA):bM:=[(0,R e),(2,R b),(3,bu.B h),(5,aI 0 0),(8,aI 1 0),(10,aI 5 0),(11,R d),(12,R (cR g)),(13,bS.B a)]
abbrev ML(b:cc)(a:m cb):m ar:=[j2 b,.cells 30 [cG,cG,cG],.x 86 2 (c a) (a2.fn a),.x 90 2 (c b.2.1) (bh.fn b.2.1),.x 56 2 (c b.2.2) (a3.fn b.2.2),.cells 30 [.x 2 2 (c a) (a2.fn a),.x 3 2 (c b.2.1) (bh.fn b.2.1),.x 4 2 (c b.2.2) (a3.fn b.2.2)]]
abbrev NB(a:cc)(b:Bool):y:=.T [.agg [.c (.B v 2 (c a.1) (a2.fn a.1)),.c (.B v 2 (c a.2.1) (bh.fn a.2.1)),.c (.B v 2 (c a.2.2) (a3.fn a.2.2))],.R (.c (.bool b))]
def X4(h)(b)(j)(o)(z:ce h=l)(x:dJ b)(O:mi b)(J:ri o)(ak:c (dF b.1)<=100000):
  Y q 121 [R h,bX b,R j,bu.B o] [] (NB (if fC h b o=l then b else eI h b j o) (!fC h b o)) []:=by
 refine Y.bE func121 rfl rfl rfl λau=>?_;have s:a' q [(164,Hw),(163,HL),(165,HI),(166,HM)]:=.cons adL (.cons ad0 (.cons adX (.cons ad1 .nil)));have aP:=x.a0;have P:=x.a1;have av:=x.aM;have ax:=KD ak;refine cU s a B (g.aB (qp b x.a0 x.bn x.a1 x.bt x.aM) [] a (cU s a B (g.aB (Xr b x O) [] a (cU s a bF ?_))));simp[a2.l,fi.l,bu.l];obtain⟨an,aB⟩:=qT (h:=h) (d:=eG b.1) J;have aw:ku h b o=gh h (c (ga h o (eG b.1))) (dj b) (ga h o (eG b.1)):=rfl;generalize ga h o (eG b.1)=C at *;generalize S:ku h b o=e at *;have L:-4000000<=dj b/\dj b<=4000001:=by
  unfold dj;split
  .omega
  rename_i t;exact RO
 have H:c e<=100000:=by grind[LL]
 refine g.ck (S2:=Unit) 0 a a (λ_=>True) (λ_=>[(0,R h),(2,R j),(3,bu.B o),(5,aI 0 0),(8,aI 1 0),(10,aI 5 0),(11,R (dj b+c e)),(12,R (cR b))]) (λ_=>ML b (b.1++e)) 6
  (λk:m bA×m cb=>(∀T∈k.1,cC T=l)/\c k.2+c k.1<=5000000/\c b.1<=c k.2/\∃p,c k.1<=p/\b.1++e=k.2++gh h p (dj b+(c k.2-c b.1:Nat)) k.1) (λk=>aca h j (dj b+(c k.2-c b.1:Nat)) b o k.1) (λk=>ML b k.2) (λk=>c k.1) (C,b.1) a ?_ a ?_ a ⟨an,by grind,bC _,c C,bC _,by grind⟩ ?_ ?_
 .simp
 .simp
 .rintro dy ⟨bq,Z⟩ ⟨u,Q,af,p,G,A⟩;simp only at u Q af G A;by_cases t:0<c bq
  .obtain⟨p,rfl⟩:∃aa,p=aa+1:=⟨p-1,by omega⟩
   simp[gh,bl t]at A;have ae:a8 .i64 ((min (c bq) 4:Nat):Int):=m5;refine bd s [30] a bv (g.aL (yX ((min (c bq) 4:Nat):Int) a a a (aaE (c bq) 4) ae) a a ?_);have K:bS.ad (bW (c bq) (f ((min (c bq) 4:Nat):Int))-bW 0 n) (fJ (bW 0 n) (bS.fn bq))=bq.take 4:=by have E:bW (c bq) (f ((min (c bq) 4:Nat):Int))-bW 0 n=min (c bq) 4:=wS;rw[E,bS.hh bq (λI r=>by simp[fJ,bW]) w];grind
   have X:bS.bH (bW (c bq) (f ((min (c bq) 4:Nat):Int))-bW 0 n) (fJ (bW 0 n) (bS.fn bq)):=bS.g5 bq (λI r=>by simp[fJ,bW]);have ao:bs (c bq-min (c bq) 4) (fJ (min (c bq) 4) (bS.fn bq)) (bS.fn (bq.drop 4)):=by intro I r;have V:min (c bq) 4=4:=w;rw[V];simp[fJ,c6.fn,gK,al,p6]
   have aq:∀T∈bq.take 4,cC T=l:=λT D=>u T (g4 D);have ab:=a2.aW Z (jZ (dj b+(c Z-c b.1:Nat)) h (bq.take 4));refine cU s a ?_ (g.az (bq.drop 4,Z++[jZ (dj b+(c Z-c b.1:Nat)) h (bq.take 4)]) a ?_ ?_ ?_ ?_)
   .simp only[U,a8,K,z,X,List.length_take,show nD.bytes=32 from a,ba,a9];and_intros<;>first|omega|omega
   .simp only[U.Y,U,dm,fs,gQ,sB,bW,cW,ba,a9];and_intros<;>first|rfl|omega|simp|exact ao
   .simp only[U.Y,U,K,dm,fs,gQ,ba,a9];and_intros<;>first|rfl|exactλ_ _=>rfl|exact ab|omega
   .refine⟨λT D=>u T (p4 D),by grind,by grind,p,by grind,?_⟩;grind
   grind
  have F:Z=b.1++e:=by rw[A];cases p<;>simp[gh,t]
  refine bd s [-30] a bF (g.aA ?_);refine dy () B a ?_ a ?_
  .simp only[U.Y,U,F,dm,ba,a9];and_intros<;>first|rfl|omega|simp
  simp[F]
 rintro⟨⟩ -;have y:fC h b o=(decide (20<c b.1+c e)||(decide (99<dj b+c e-1)||(decide (20<cR b)||decide (9<=c b.2.2)))):=by unfold fC;rw[S]
 have M:-4000000<=cR b/\cR b<=4000001:=by
  have:=tb b.2.2 O.aM;unfold cR;split
  .omega
  rename_i t;exact Pq
 have ar:c (b.1++e)=c b.1+c e:=dm;by_cases ag:20<c b.1+c e
 .have i:fC h b o=l:=N;rw[i];exact bd s [53] a bv Af
 by_cases ah:99<dj b+c e-1
 .have i:fC h b o=l:=N;rw[i];exact bd s [-53,57] a F2 Af
 by_cases ai:20<cR b
 .have i:fC h b o=l:=N;rw[i];exact bd s [-53,-57,61] a F2 Af
 by_cases aj:9<=c b.2.2
 .have i:fC h b o=l:=N;rw[i];exact bd s [-53,-57,-61,67] a F2 Af
 have i:fC h b o=v:=N;rw[i];have E:=bh.aW b.2.1 (fM (cR b) h o);have W:=a3.aW b.2.2 (j,cR b);refine bd s [-53,-57,-61,-67] a ?_ ?_
 .simp only[U,z,bu.l,dm,a8,show rS.bytes=32 from a,show vx.bytes=16 from a,bw,dr,ba,a9];and_intros<;>first|exact J|exact bu.U _|rfl|omega
 refine g.freeze 8 1 a a a ?_;refine g.cb bb [] a ?_ a a a eN;simp[U.Y,U,bu.l,eI,S,dm,fs,gQ,ba,a9];and_intros<;>first|rfl|exactλ_ _=>rfl|exact E|exact W|simp
def vL(a:Int×Int):Bool:=decide (0<=a.1/\a.1<=9)&&decide (0<=a.2)
abbrev qC(b:eE)(a:Nat):Int×Int:=b.2.2.2.1.getD a (0,0)
abbrev rM(b:eE)(a:Nat):Int:=b.2.2.2.2.getD a 0
def ww(b:eE)(a:Nat):Bool:=vL (qC b a)&&decide (0<=rM b a/\rM b a<=2)
def fD(a:eE):Bool:=decide (c a.2.2.2.1=2)&&decide (c a.2.2.2.2=2)&&(aA 2).all (ww a)&&hp a.1 a.2.1
abbrev xX(a:cc)(e:Nat)(d:Nat->m M)(g:Nat)(j:m ej)(b:fy)(i:Nat)(h:m X):m ar:=[j2 a,.cells 30 [cG,cG,cG],.q 86 2 e d,.q 90 2 g (bh.fn j),.q 56 2 (c a.2.2) (a3.fn a.2.2),.cells 30 [.O 2 (.B e 2 0 e),.O 3 (.B g 2 0 g),.O 4 (.B (c a.2.2) 2 0 (c a.2.2))],.K (ct 121 2 b i h)]
def U'(b)(i0)(V:i0<c b.1)(z:0<(b.1.getD i0 (0,[])).2.length)(y:c b.1<=4000000)(K:∀u∈b.1,c u.2<=4000000)(H:c b.2.1<=4000000)(S:kz b)(G:c b.2.2<=4000000):
  bm (ι:=pZ (b.1.getD i0 (0,[])).2) q 84 [bX b] [] (λ_=>.n (.agg [.O 0 (.B (c b.1) 2 0 (c b.1)),.O 1 (.B (c b.2.1) 2 0 (c b.2.1)),.O 2 (.B (c b.2.2) 2 0 (c b.2.2))]))
   (λj=>[.q 86 2 (c b.1) (gr b.1 i0 (c5 j.1.1 (b.1.getD i0 (0,[])).2.length)),.q 90 2 (c b.2.1) (bh.fn b.2.1),.q 56 2 (c b.2.2) (a3.fn b.2.2),tv (b.1.getD i0 (0,[])).2 j]):=by
 refine bm.bE bb func84 rfl rfl rfl λW=>?_;refine bO [901] a B (g.region ?_);refine gv [] 5 a B (g.dJ 9 86 2 (a2.fn []) a ?_);refine g.dJ 10 90 2 (bh.fn []) a ?_;refine g.dJ 11 56 2 (a3.fn []) a ?_;refine bO [902] a PQ (g.fg 121 2 ?_);refine cA a B (g.aH 7 (I3 b.1 i0) (λi:S3=>[(1,aI 0 0),(2,aI 1 0),(3,aI 5 0),(4,R i.1)]) (λi=>xX b i.1 (gr b.1 i0 (nT i)) 0 [] i.2.1 i.2.2.1 i.2.2.2) (λi=>c b.1-i.1) (0,.nil n,0,[]) a D a ?_ a ⟨by omega,.inl ⟨by omega,a⟩⟩ ?_)
 .simp[bs,o9];rfl
 rintro⟨d,h,p,k⟩ ⟨s,A⟩;simp only at s A;by_cases o:d<c b.1
 .have aa:b.1.getD d (0,[])∈b.1:=N;have x:b.1.getD (d:Int).toNat a2.E=b.1.getD d (0,[]):=N;have j:=K _ aa;by_cases t:d=i0
  .subst t;have F:p=0:=by rcases A with⟨_,Q⟩|⟨M,_⟩<;>omega
   rw[<-x]at z j;refine a4 [20,905] a bv ?_;refine g.eI (ι:=pZ (b.1.getD (d:Int).toNat a2.E).2) b6 15 18 8 (λr=>ay r 14)
    (λr=>[aI 5 0,cE 2 (.B d 2 0 d),aI 0 0,a2.B b.1,R d,iY [.int .i64 (b.1.getD (d:Int).toNat a2.E).1,lw (b.1.getD (d:Int).toNat a2.E)],iY [.int .i64 (b.1.getD (d:Int).toNat a2.E).1,lw (b.1.getD (d:Int).toNat a2.E)],R (b.1.getD (d:Int).toNat a2.E).1,
     ax (.B l 2 0 (λe=>[].getD e [])),aI 0 0,a2.B b.1,R d,iY [.int .i64 (b.1.getD (d:Int).toNat a2.E).1,lw (b.1.getD (d:Int).toNat a2.E)],iY [lw (b.1.getD (d:Int).toNat a2.E)],ax (lw (b.1.getD (d:Int).toNat a2.E))].getD r .any)
    (λj r=>[ax (r5 _ j),.n (.agg [.c (.int .i64 (b.1.getD (d:Int).toNat a2.E).1),.c (r5 _ j)]),ax (.B l 2 1 (λe=>[[.int .i64 (b.1.getD (d:Int).toNat a2.E).1,r5 _ j]].getD e []))].getD (r-15) .any)
    (λj=>xX b d (gr b.1 d (c5 h p)) 0 [] h p k++[tv _ j])
    rfl rfl rfl rfl rfl rfl rfl (λr o=>by have:=fA o;omega) rfl
    ⟨aT.w,aT.w,aT.w,aT.w,aT.w,aT.eval (bf:=[]) bb a'.nil a ?_,aT.w,aT.w,aT.w,aT.w,aT.w,aT.w,aT.eval (bf:=[]) bb a'.nil a ?_,aT.w,aT.w,B,B,B,B,B,B,B⟩
    (λj=>⟨aT.w,aT.w,aT.w,aT.w,aT.w,aT.eval (bf:=[]) bb a'.nil a ?_,aT.w,aT.w,aT.w,aT.w,aT.w,aT.w,aT.eval (bf:=[]) bb a'.nil a ?_,aT.w,aT.w,B,aT.w,aT.w,B⟩)
    (dX.ev a (ei.fE (GR a) a a a z An (Hy _ _))) ?_
   .exact bv
   .exact bv
   .exact bv
   .exact bv
   rw[x];rw[x]at z j;generalize J:b.1.getD d (0,[])=u at *;intro C;refine a4 [904] a Q0 (g.swap 6 7 b' a a (λ_ _ o=>o.1) (λ_ _ o=>o.1) ?_);refine aR a bF (g.az (d+1,C.1.1,c u.2,C.1.2) a D ?_ ?_ ?_)
   .have ak:=L2 (Z:=b.1) (i0:=d) (bz:=c5 C.1.1 (c u.2)) (E_:=c5 h p);rw[J]at ak;exact FY
   .refine⟨by grind,.inr ⟨by grind,?_⟩⟩;grind
   grind
  refine bO [20,2000038] a FH (g.az (d+1,h,p,k) a D ?_ ?_ ?_)
  .have ak:=L0 (Z:=b.1) (bz:=c5 h p) t;exact OY
  .refine⟨by grind,?_⟩;grind
  grind
 obtain rfl:d=c b.1:=w;obtain⟨_,F,O⟩:i0<c b.1/\p=(b.1.getD i0 (0,[])).2.length/\et 2 (b.1.getD i0 (0,[])).2.length (bH.fn (b.1.getD i0 (0,[])).2) k:=N;subst F;clear A;generalize b.1.getD i0 (0,[])=m at *;refine bO [-20] a D (g.aA ?_);refine cA a B (g.aH 7 (λd=>d<=c b.2.1) (λd:Nat=>[(1,aI 0 0),(2,aI 1 0),(3,aI 5 0),(5,R d)]) (λd=>xX b (c b.1) (gr b.1 i0 (c5 h (c m.2))) d (b.2.1.take d) h (c m.2) k) (λd=>c b.2.1-d) 0 a D a D a w ?_);intro d s;by_cases o:d<c b.2.1
 .have aa:b.2.1.getD d (0,[])∈b.2.1:=N;have x:b.2.1.getD (d:Int).toNat bh.E=b.2.1.getD d (0,[]):=N;have j:=S _ aa;have ak:=bh.cW b.2.1 o (0,[]);generalize b.2.1.getD d (0,[])=i at *;refine bO [47,910] a bv ?_;rw[x];refine g.cn 7 1 123 2 (cw.fn []) a a ?_;refine cA a B (g.aH 9 (λe=>e<=c i.2) (λe:Nat=>[(1,aI 0 0),(2,aI 1 0),(3,aI 5 0),(5,R d),(6,aI 7 0),(7,R e)]) (λe=>xX b (c b.1) (gr b.1 i0 (c5 h (c m.2))) d (b.2.1.take d) h (c m.2) k++[.cells 90 [.c (.int .i64 i.1),.x 8 2 e (cw.fn (i.2.take e))],.x 123 2 e (cw.fn (i.2.take e))]) (λe=>c i.2-e) 0 a D a D a w ?_);intro e I;by_cases t:e<c i.2
  .have E:i.2.getD (e:Int).toNat cw.E=i.2.getD e ([],[]):=N;have X:=j.2 (i.2.getD e ([],[])) N;have T:=cw.cW i.2 t ([],[]);refine bO [66,2000085] a ?_ (g.az (e+1) a ?_ ?_ ?_ ?_)
   .simp only[U,x,E,a8,show yH.bytes=40 from a,show dZ.bytes=8 from a,bw,lI,ba,a9];exact fE
   .simp
   .simp only[U.Y,U,x,E,o9,cV,a9,ba];and_intros<;>first|exactλ_ _=>rfl|exact T|rfl
   .grind
   omega
  obtain rfl:e=c i.2:=w;rw[c8];refine bO [-66] a FP (g.aA ?_);refine cA a F0 (g.az (d+1) a D FY N ?_);omega
 obtain rfl:d=c b.2.1:=w;rw[c8];refine bO [-47] a D (g.aA ?_);refine cA a B (g.bg ⟨(h,k),O⟩ [2,3,4,6] ?_ (λe I=>absurd I D));simp
def UH(b:cc)(d:Int)(j:c b.2.2<=4000000)(k:d<0∨d>c b.2.2):Y q 126 [bX b,R d] [] (bX b) []:=by refine Y.bh bb func126 rfl rfl rfl λi=>?_;have h:a' q [(49,kN)]:=.cons ly .nil;refine bd h [15] a bK ?_;refine g.bg () [] ?_ (λm e=>absurd e D);simp
abbrev mJ(a:Nat)(d:cc)(b:m ej):m ej:=b.filter λe=>!jy a d.2.2 e
abbrev ta(d:Nat)(e:cc)(b:Nat)(g:ej):Bool:=((e.2.2.drop d).take b).any λa=>a.2==g.1
abbrev G8(b:cc)(d:Nat)(a:m ej):m ar:=[.cells 30 [.c (tK b.1),.c (tL b.2.1),.c (h6 (b.2.2.take d))],.cells 30 [cG,cG,cG],.x 90 2 (c a) (bh.fn a)]
def J5(a:α->Bool){d}(g:e<c d)(b):(d.take (e+1)).filter a=(d.take e).filter a++(if a (d.getD e b)then[d.getD e b]else[]):=ir
def S5(a:α->Bool){d}(g:e<c d)(b):(d.take (e+1)).any a=((d.take e).any a||a (d.getD e b)):=ir
def UI(b)(j)(S:j<=c b.2.2)(Q:c b.2.1<=4000000)(C:∀m∈b.2.1,-4000000<=m.1/\m.1<=4000000)(O:c b.2.2<=4000000):Y q 126 [bX b,R j] [] (bX (b.1,mJ j b b.2.1,b.2.2.take j)) []:=by
 refine Y.bh bb func126 rfl rfl rfl λM=>?_;have o:a' q [(49,kN)]:=.cons ly .nil;refine a_ o [-15,906] a ?_ ?_
 .simp[jq];omega
 refine g.bG 6 90 2 a a ?_;refine b9 o a B (g.aH 3 (λe=>e<=c b.2.1) (λe:Nat=>[(2,aI 0 0),(4,aI 1 0),(5,a3.B (b.2.2.drop j)),(6,.n (.R (.x 2 2 (c (mJ j b (b.2.1.take e))) (bh.fn (mJ j b (b.2.1.take e)))))),(7,R e)]) (λe=>G8 b j (mJ j b (b.2.1.take e))) (λe=>c b.2.1-e) 0 a ?_ a ?_ a w ?_)
 .have x:=a3.g_ b.2.2 j (c b.2.2-j);simp[bW];exact x
 .simp[bW];exact⟨by omega,λe t=>by have A:e<j:=t;simp[fJ,bW,c6.fn,gK,al,iA,A]⟩
 intro e t;by_cases u:e<c b.2.1
 .have F:b.2.1.getD e (0,[])∈b.2.1:=N;have s:b.2.1.getD (e:Int).toNat bh.E=b.2.1.getD e (0,[]):=N;have J:=C _ F;have x:=bh.cW b.2.1 u (0,[]);have y:mJ j b (b.2.1.take (e+1))=mJ j b (b.2.1.take e)++(if !jy j b.2.2 (b.2.1.getD e (0,[]))then[b.2.1.getD e (0,[])]else[]):=J5 (λm=>!jy j b.2.2 m) u (0,[]);have K:c (mJ j b (b.2.1.take e))<=e:=fY (kI _ _) N;generalize mJ j b (b.2.1.take e)=k at *;generalize b.2.1.getD e (0,[])=m at *;refine bd o [31] a ?_ ?_
  .simp only[U,s,bw,lI,ba,a9];grind
  refine g.aH 3 (λh=>h<=c (b.2.2.drop j)) (λh:Nat=>[(2,aI 0 0),(4,aI 1 0),(5,a3.B (b.2.2.drop j)),(6,.n (.R (.x 2 2 (c k) (bh.fn k)))),(7,R e),(8,bg (ta j b h m)),(9,R h)]) (λh=>G8 b j k) (λh=>c (b.2.2.drop j)-h) 0 a D a D a w ?_;intro h z;have I:=sB (i:=j) (l:=b.2.2);by_cases E:h<c (b.2.2.drop j)
  .have i:(b.2.2.drop j).getD (h:Int).toNat a3.E=(b.2.2.drop j).getD h (0,0):=N;have p:ta j b (h+1) m=(ta j b h m||((b.2.2.drop j).getD h (0,0)).2==m.1):=S5 (λu:Int×Int=>u.2==m.1) E (0,0);cases r:ta j b h m with
   |true=>
    refine bd o [37] a O0 (g.az (h+1) a ?_ ?_ ?_ ?_)
    .rw[r]at p;simp[p]
    .simp
    .grind
    omega
   |false=>
    refine bd o [37] a O0 (g.az (h+1) a ?_ ?_ ?_ ?_)
    .rw[r]at p;simp only[U.Y,U,bs.same,p,s,i,ba,a9,Bool.false_or];rfl
    .simp
    .grind
    omega
  obtain rfl:h=c (b.2.2.drop j):=w;have p:ta j b (c (b.2.2.drop j)) m=jy j b.2.2 m:=by unfold ta jy;grind
  rw[p];cases r:jy j b.2.2 m with
  |true=>
   rw[r]at y;refine bd o [-37] a D (g.aA ?_);refine cU o a ub (g.az (e+1) a ?_ ?_ ?_ ?_)
   .have:mJ j b (b.2.1.take (e+1))=k:=N;rw[this];exact QC
   .rw[show mJ j b (b.2.1.take (e+1))=k by grind];simp
   .grind
   omega
  |false=>
   rw[r]at y;refine bd o [-37] a D (g.aA ?_);refine cU o a ?_ (g.az (e+1) a ?_ ?_ ?_ ?_)
   .simp only[U,a8,show rS.bytes=32 from a,ba,a9];exact fE
   .rw[show mJ j b (b.2.1.take (e+1))=k++[m] by grind];simp only[U.Y,U,s,bs.same,ba,a9,dm,gC];exact⟨bh.aW k m,a⟩
   .rw[show mJ j b (b.2.1.take (e+1))=k++[m] by grind];simp only[U.Y,U,s,bs.same,ba,a9,dm,gC];exact bh.aW k m
   .grind
   omega
 obtain rfl:e=c b.2.1:=w;rw[c8];refine bd o [-31] a D (g.aA ?_);refine cU o a B (g.bg () [] ?_ (λh z=>absurd z D));simp
def Yc(b)(d)(e:dJ b)(k:d.1≠1)(h:d.1≠2)(m:d.1≠3)(j:d.1≠4):Y q 82 [bX b,ev d] [] (bX b) []:=by
 refine Y.bh bb func82 rfl rfl rfl λo=>?_;refine aR a B (g.aB (qp b e.a0 e.bn e.a1 e.bt e.aM) [] a (a4 [-13,-42,-48,-91] a ?_ ?_))
 .simp[k,h,m,j]
 exact z9
def JK(b)(d)(aF)(e:dJ b)(h:d.1=2)(j:Y q 126 [bX b,R d.2.1] [] (bX aF) []):Y q 82 [bX b,ev d] [] (bX aF) []:=by
 refine Y.bh bb func82 rfl rfl rfl λk=>?_;refine aR a B (g.aB (qp b e.a0 e.bn e.a1 e.bt e.aM) [] a (a4 [-13,42] a ?_ ?_))
 .simp[h]
 refine g.bV j.tocI [] a a a a D a a a bn a bn a ?_;rintro -;exact aR a B z9
abbrev nG(a:Int)(b:m cb):m cb:=b.filter λd=>!(d.1==a)
abbrev acr(a:cc)(d:dq)(b:m cb):m ar:=[j2 a,.cells 35 (vH d),.cells 30 [cG,cG,cG],.x 86 2 (c a.1) (a2.fn a.1),.x 90 2 (c a.2.1) (bh.fn a.2.1),.x 56 2 (c a.2.2) (a3.fn a.2.2),
 .cells 30 [.x 3 2 (c a.1) (a2.fn a.1),.x 4 2 (c a.2.1) (bh.fn a.2.1),.x 5 2 (c a.2.2) (a3.fn a.2.2)],.x 86 2 (c b) (a2.fn b)]
def X8(b)(d)(k:dJ b)(t:d.1=1):Y q 82 [bX b,ev d] [] (bX (b.1.filter λi=>!(i.1==d.2.1),b.2.1,b.2.2)) []:=by
 refine Y.bh bb func82 rfl rfl rfl λz=>?_;refine aR a B (g.aB (qp b k.a0 k.bn k.a1 k.bt k.aM) [] a (a4 [13,905] a ?_ ?_))
 .simp[t]
 refine g.bG 6 86 2 a a ?_;refine aR a B ?_;have u:=k.a0;refine g.aH 8 (λe=>e<=c b.1) (λe:Nat=>[(3,aI 1 0),(4,aI 2 0),(5,aI 6 0),(6,.n (.R (.x 7 2 (c (nG d.2.1 (b.1.take e))) (a2.fn (nG d.2.1 (b.1.take e)))))),(7,R e)]) (λe=>acr b d (nG d.2.1 (b.1.take e))) (λe=>c b.1-e) 0 a D a D a w ?_;intro e r;by_cases p:e<c b.1
 .have s:b.1.getD (e:Int).toNat a2.E=b.1.getD e (0,[]):=by rw[cW];rfl
  have j:nG d.2.1 (b.1.take (e+1))=nG d.2.1 (b.1.take e)++(if !((b.1.getD e (0,[])).1==d.2.1)then[b.1.getD e (0,[])]else[]):=J5 (λi:cb=>!(i.1==d.2.1)) p (0,[]);have y:c (nG d.2.1 (b.1.take e))<=e:=fY (kI _ _) bK;generalize nG d.2.1 (b.1.take e)=h at *;generalize b.1.getD e (0,[])=i at *;cases m:i.1==d.2.1 with
  |true=>
   rw[m]at j;refine bO [20,-31] a ?_ (g.az (e+1) a ?_ ?_ ?_ ?_)
   .simp only[U,s,a8,bw,dr,lI,ba,a9];and_intros<;>first|omega|simp[bne,m]
   .rw[show nG d.2.1 (b.1.take (e+1))=h by simpa using j];exact QC
   .rw[show nG d.2.1 (b.1.take (e+1))=h by simpa using j];simp
   .exact q6
   omega
  |false=>
   rw[m]at j;refine bO [20,31] a ?_ (g.az (e+1) a ?_ ?_ ?_ ?_)
   .simp only[U,s,a8,show nD.bytes=32 from a,bw,dr,lI,ba,a9];and_intros<;>first|omega|simp[bne,m]
   .rw[show nG d.2.1 (b.1.take (e+1))=h++[i] by simpa using j];simp only[U.Y,U,s,bs.same,ba,a9,dm,gC];exact⟨a2.aW h i,a⟩
   .rw[show nG d.2.1 (b.1.take (e+1))=h++[i] by simpa using j];simp only[U.Y,U,s,bs.same,ba,a9,dm,gC];exact a2.aW h i
   .exact q6
   omega
 obtain rfl:e=c b.1:=w;rw[c8];refine bO [-20] a D (g.aA ?_);refine cA a B (g.bg () [] ?_ (λx o=>absurd o D));simp
def U6{b}{args}(Z)(dA)(j)(V:Nat->m M)(a)(k:c a=j)(i:bs j V (a3.fn a))(d:bm (ι:=Unit) q b args [] (λ_=>.n (.agg [dD 0 (c Z) (c Z),dD 1 (c dA) (c dA),dD 2 j j])) (λ_=>[.q 86 2 (c Z) (a2.fn Z),.q 90 2 (c dA) (bh.fn dA),.q 56 2 j V])):
  Y q b args [] (bX (Z,dA,a)) []:=by
 have o:=bm.bK (aX:=λ_:Unit=>[.q 86 2 (c Z) (a2.fn Z),.q 90 2 (c dA) (bh.fn dA)]) (W:=56) (h:=2) (j:=λ_=>j) (V:=λ_=>V) d bn (λ_=>?_) bn (λ_=>g5 _);have e:=bm.bK (aX:=λ_:Unit=>[.q 86 2 (c Z) (a2.fn Z)]) (W:=90) (h:=2) (j:=λ_=>c dA) (V:=λ_=>bh.fn dA) o bn (λ_=>?_) bn (λ_=>g5 _);have g:=bm.bK (aX:=λ_:Unit=>[]) (W:=86) (h:=2) (j:=λ_=>c Z) (V:=λ_=>a2.fn Z) e bn (λ_=>?_) bn (λ_=>bC _);refine(g.le (oJ:=λ_=>bX (Z,dA,a)) bn (λ_=>?_)).R
 .simp only[U.Y,U,a9,ba];exact⟨bs.same,bs.same,k.symm,i⟩
 .simp
 .simp
 simp
def Yb(b)(d:dq)(e:dJ b)(j:d.1=4)(p:0<=d.2.1)(o:d.2.1<c b.2.2)(h:a8 .i64 (3-lA b d)):
  bm (ι:=Unit) q 82 [bX b,ev d] [] (λ_=>.n (.agg [dD 0 (c b.1) (c b.1),dD 1 (c b.2.1) (c b.2.1),dD 2 (c b.2.2) (c b.2.2)])) (λ_=>[.q 86 2 (c b.1) (a2.fn b.1),.q 90 2 (c b.2.1) (bh.fn b.2.1),.q 56 2 (c b.2.2) (yv b d)]):=by
 refine bm.bE bb func82 rfl rfl rfl λk=>?_;have i:a' q [(49,kN)]:=.cons ly .nil;have m:=e.aM;refine b9 i a B (g.aB (U9 b e.a0 e.bn e.a1 e.bt e.aM) [] a (a_ i [-13,-42,-48,91,99] a ?_ ?_))
 .have h:a8 .i64 (3-(b.2.2.getD (0+d.2.1.toNat) a3.E).1):=h;simp only[U,a8,j,bw,ba,a9]at h⊢;exact F3
 refine g.bg () [3,4,5] ?_ eN;simp
def X'(b)(a:dq)(d:dJ b)(i:a.1=4)(e:0<=a.2.1)(g:a.2.1<c b.2.2)(h:a8 .i64 (3-lA b a)):
  Y q 82 [bX b,ev a] [] (bX (b.1,b.2.1,b.2.2.set (0+a.2.1.toNat) (3-lA b a,(b.2.2.getD (0+a.2.1.toNat) a3.E).2))) []:=
 U6 b.1 b.2.1 _ _ _ D (a3.cV b.2.2 (0+a.2.1.toNat) (3-lA b a,(b.2.2.getD (0+a.2.1.toNat) a3.E).2) (c b.2.2) (bC _)) (Yb b a d i e g h)
def Ya(b)(e:dq)(d:dJ b)(j:e.1=4)(o:¬(0<=e.2.1/\e.2.1<c b.2.2)):Y q 82 [bX b,ev e] [] (bX b) []:=by
 refine Y.bh bb func82 rfl rfl rfl λk=>?_;have h:a' q [(49,kN)]:=.cons ly .nil;have m:=d.aM;refine b9 h a B (g.aB (qp b d.a0 d.bn d.a1 d.bt d.aM) [] a (a_ h [-13,-42,-48,91,-99] a ?_ ?_))
 .simp only[U,a8,j,dr,ba,a9];exact F3
 refine g.bg () [] ?_ (λp i=>absurd i D);simp
abbrev EC(a:cc)(i:dq)(e g b d:Nat)(h:m X):m ar:=[j2 a,.cells 35 (vH i),.cells 30 [cG,cG,cG],.q 86 2 (c a.1) (gr a.1 e (.slice (f ⟨g,0,n⟩) d b)),.q 90 2 (c a.2.1) (bh.fn a.2.1),.q 56 2 (c a.2.2) (a3.fn a.2.2),.K (ct 121 2 (.row g b) d h),.cells 30 [dD 3 (c a.1) (c a.1),dD 4 (c a.2.1) (c a.2.1),dD 5 (c a.2.2) (c a.2.2)]]
def X_(b)(d)(x:dJ b)(t:d.1=3)(i0 A)(r:ss b d i0 A):
  bm (ι:={E:fy×m X // et 2 (b.1.getD i0 (0,[])).2.length (bH.fn (gZ (b.1.getD i0 (0,[])).2 A d.2.2.2)) E.2}) q 82 [bX b,ev d] []
   (λ_=>.n (.agg [dD 0 (c b.1) (c b.1),dD 1 (c b.2.1) (c b.2.1),dD 2 (c b.2.2) (c b.2.2)]))
   (λE=>[.q 86 2 (c b.1) (gr b.1 i0 (c5 E.1.1 (b.1.getD i0 (0,[])).2.length)),.q 90 2 (c b.2.1) (bh.fn b.2.1),.q 56 2 (c b.2.2) (a3.fn b.2.2),.K (ct 121 2 E.1.1 (b.1.getD i0 (0,[])).2.length E.1.2)]):=by
 have W:=r.gu;have Z:=x.bn _ (vq r.a');have G:=x.a0;refine bm.bE bb func82 rfl rfl rfl λH=>?_;have h:a' q [(49,kN)]:=.cons ly .nil;refine b9 h a B (g.a2 (U' b i0 r.a' w x.a0 x.bn x.a1 x.bt x.aM) [] a bn ?_);rintro⟨⟨T,N⟩,O⟩;refine g.fD (ct.len (d:=6) a) λV=>?_;obtain⟨i,cap,rfl⟩:=V.2.2.1 w;refine a_ h [-13,-42,48] a gM (g.aH 8 (λo:Nat×m X=>o.1<=c b.1/\(o.1<=i0->o.2=N)/\(i0<o.1->et 2 (b.1.getD i0 (0,[])).2.length (bH.fn (gZ (b.1.getD i0 (0,[])).2 A d.2.2.2)) o.2)) (λo=>[(3,aI 1 0),(4,aI 2 0),(5,aI 7 0),(8,R o.1)]) (λo=>EC b d i0 i cap (b.1.getD i0 (0,[])).2.length o.2) (λo=>c b.1-o.1) (0,N) a D a ?_ a ⟨by omega,λ_=>rfl,λt=>by omega⟩ ?_)
 .simp only[U.Y,U,bs.same,a9,ba];and_intros<;>first|exactλ_ _=>rfl|rfl
 rintro⟨e,p⟩ ⟨F,K,J⟩;simp only at F K J;have j:0+(e:Int).toNat=e:=w;by_cases t:e<c b.1
 .by_cases S:e=i0
  .subst S;obtain rfl:=K (bC _);have u:=r.c5;have y:=r.b4;generalize aa:(b.1.getD e (0,[])).2=ah at *;refine a_ h [54,917] a ?_ ?_
   .simp only[U,bw,ba,a9];omega
   refine g.eI (ι:=Unit) b6 17 20 20 (λk=>ay k 16) (λk=>[aI 7 0,.n (.R (dD 3 (c b.1) (c b.1))),R e,cE 3 (.bx (c b.1) 2 (0+(e:Int).toNat) 0),cE 3 (.bx (c b.1) 2 (0+(e:Int).toNat) 0),R (b.1.getD (0+(e:Int).toNat) (0,[])).1,aI 1 1,R d.2.1,bg ((b.1.getD (0+(e:Int).toNat) (0,[])).1==d.2.1),bg l,aI 1 2,R d.2.2.1,aI 7 0,.n (.R (dD 3 (c b.1) (c b.1))),R e,cE 3 (.bx (c b.1) 2 (0+(e:Int).toNat) 0),cE 3 (.bx (c b.1) 2 (0+(e:Int).toNat) 1)].getD k .any)
    (λ_ k=>[ax (.val (.slice (f ⟨i,0,n⟩) (c ah) cap)),R (c ah),R (c ah-1)].getD (k-17) .any)
    (λ_=>EC b d e i cap (c ah) p) a a a a a a a (λk t=>by have:=fA t;omega) a
    ⟨aT.w,aT.w,aT.w,aT.eval (bf:=[]) bb h a q8,aT.w,aT.eval (bf:=[]) bb h a OD,aT.w,aT.w,aT.w,aT.eval (bf:=[66]) bb h a Oq,aT.w,aT.w,aT.w,aT.w,aT.w,aT.eval (bf:=[]) bb h a q8,aT.w,B,B,B,B,B,B⟩
    (λ_=>⟨aT.w,aT.w,aT.w,aT.eval (bf:=[]) bb h a q8,aT.w,aT.eval (bf:=[]) bb h a OD,aT.w,aT.w,aT.w,aT.eval (bf:=[66]) bb h a Oq,aT.w,aT.w,aT.w,aT.w,aT.w,aT.eval (bf:=[]) bb h a q8,aT.w,B,aT.eval (bf:=[]) bb h a q8,aT.eval (bf:=[]) bb h a F',B⟩)
    (dX.dj (aT.aZ (j5 a) (a1.e9 bb (ak:=.R (.c (.val (.slice (f ⟨i,0,n⟩) (c ah) cap)))) a a a a a ?_ ?_))) λ_=>?_
   .exact PE
   .grind
   refine a_ h [78,918] a ?_ ?_
   .simp only[U,bw,a9];omega
   refine g.eI (ι:=Unit) b6 5 10 8 (λk=>ay k 4||(ay 6 k&&ay k 9)) (λk=>[aI 7 0,.n (.R (dD 3 (c b.1) (c b.1))),R e,cE 3 (.bx (c b.1) 2 (0+(e:Int).toNat) 0),cE 3 (.bx (c b.1) 2 (0+(e:Int).toNat) 1),.any,aI 1 2,R d.2.2.1,aI 1 3,ax (.S d.2.2.2)].getD k .any)
    (λ_ k=>[ax (.val (.slice (f ⟨i,0,n⟩) (c ah) cap))].getD (k-5) .any)
    (λ_=>EC b d e i cap (c ah) p) a a a a a a a (λk t=>by simp at t;omega) a
    ⟨aT.w,aT.w,aT.w,aT.eval (bf:=[]) bb h a q8,aT.w,B,aT.w,aT.w,aT.w,aT.w,B,B,B,B⟩
    (λ_=>⟨aT.w,aT.w,aT.w,aT.eval (bf:=[]) bb h a q8,aT.w,B,aT.w,aT.w,aT.w,aT.w,B⟩)
    (dX.dj (aT.aZ (j5 a) (a1.e9 bb (ak:=.R (.c (.val (.slice (f ⟨i,0,n⟩) (c ah) cap)))) a a a a a ?_ ?_))) λ_=>?_
   .exact PE
   .grind
   refine b9 h a q8 ?_;have M:c p=c ah*2:=O.len;have I:0+d.2.2.1.toNat*2+1=A*2+1:=w;refine g.eP bb 6 a a a a a a a ?_ a a λz C=>?_
   .show 0+d.2.2.1.toNat*2+1+1<=c p;omega
   have ab:=J_ O W C;refine b9 h a F' (g.az (e+1,p.take (A*2+1)++z++p.drop (A*2+1+c z)) a D ?_ ?_ ?_)
   .simp only[U.Y,U,bs.same,a9,ba];show ct 121 2 _ _ (List.take (0+d.2.2.1.toNat*2+1) p++z++List.drop (0+d.2.2.1.toNat*2+1+c z) p)=_;rw[I]
   .grind
   grind
  have Y:=r.bU e t S;refine a_ h [54,-66,-78] a ?_ (g.az (e+1,p) a ?_ ?_ ?_ ?_)
  .simp only[U,a8,j,eW,bw,ba,a9];and_intros<;>first|exact Y|omega
  .simp
  .simp
  .grind
  grind
 obtain rfl:e=c b.1:=w;refine a_ h [-54] a D (g.aA ?_);refine b9 h a B (g.bg ⟨(.row i cap,p),J r.a'⟩ [3,4,5,6] ?_ eN);simp
def U8{p}{args}(b)(d)(i0 A)(x:i0<c b.1)(s:bm (ι:={g:fy×m X // et 2 (b.1.getD i0 (0,[])).2.length (bH.fn (gZ (b.1.getD i0 (0,[])).2 A d.2.2.2)) g.2}) q p args []
   (λ_=>.n (.agg [dD 0 (c b.1) (c b.1),dD 1 (c b.2.1) (c b.2.1),dD 2 (c b.2.2) (c b.2.2)]))
   (λg=>[.q 86 2 (c b.1) (gr b.1 i0 (c5 g.1.1 (b.1.getD i0 (0,[])).2.length)),.q 90 2 (c b.2.1) (bh.fn b.2.1),.q 56 2 (c b.2.2) (a3.fn b.2.2),.K (ct 121 2 g.1.1 (b.1.getD i0 (0,[])).2.length g.1.2)])):
  Y q p args [] (bX (hd b d i0 A)) []:=by
 generalize e:b.1.getD i0 (0,[])=i at *;have z:∀k,k≠i0->a2.fn (hd b d i0 A).1 k=a2.fn b.1 k:=λk o=>by simp[c6.fn,gK,al,n',o8 o]
 have D:a2.fn (hd b d i0 A).1 i0=[.int .i64 i.1,.B v 2 (c i.2) (bH.fn (gZ i.2 A d.2.2.2))]:=by have:(hd b d i0 A).1.getD i0 a2.E=(i.1,gZ i.2 A d.2.2.2):=N;show a2.a8 ((hd b d i0 A).1.getD i0 a2.E)=_;rw[this];show[M.int .i64 i.1,M.B v 2 (c (gZ i.2 A d.2.2.2)) (bH.fn (gZ i.2 A d.2.2.2))]=_;rw[Mh]
 have y:=bm.fx (aX:=λg:{g:fy×m X // et 2 (c i.2) (bH.fn (gZ i.2 A d.2.2.2)) g.2}=>[.q 86 2 (c b.1) (gr b.1 i0 (c5 g.1.1 (c i.2))),.q 90 2 (c b.2.1) (bh.fn b.2.1),.q 56 2 (c b.2.2) (a3.fn b.2.2)]) (fp:=λ_=>[.q 86 2 (c b.1) (a2.fn (hd b d i0 A).1),.q 90 2 (c b.2.1) (bh.fn b.2.1),.q 56 2 (c b.2.2) (a3.fn b.2.2)]) (W:=121) (h:=2) (j:=c i.2) (bQ:=λg=>g.1.1) (ah:=λg=>g.1.2) s (λg=>g.2) 0 bn bn bn bn (λ_=>g5 _)
  (λg k o=>by exact bF)
  (λg k o r C O=>by
   by_cases t:k=i0
   .subst t;rw[D]at O;have:gr b.1 k (c5 g.1.1 (c i.2)) k=[.int .i64 i.1,.val (c5 g.1.1 (c i.2))]:=OM;rw[this];rcases r with _|_|r
    .simp at O;subst O;exact⟨_,a,.inl a⟩
    .exact R2
    grind
   .rw[z k t]at O;have:gr b.1 i0 (c5 g.1.1 (c i.2)) k=a2.fn b.1 k:=Fq
    rw[this];exact⟨C,O,.inl a⟩)
 have B:=bm.bK (aX:=λ_=>[.q 86 2 (c b.1) (a2.fn (hd b d i0 A).1),.q 90 2 (c b.2.1) (bh.fn b.2.1)]) (W:=56) (h:=2) (j:=λ_=>c b.2.2) (V:=λ_=>a3.fn b.2.2) y bn (λ_=>?_) bn (λ_=>g5 _);have u:=bm.bK (aX:=λ_=>[.q 86 2 (c b.1) (a2.fn (hd b d i0 A).1)]) (W:=90) (h:=2) (j:=λ_=>c b.2.1) (V:=λ_=>bh.fn b.2.1) B bn (λ_=>?_) bn (λ_=>g5 _);have w:=bm.bK (aX:=λ_=>[]) (W:=86) (h:=2) (j:=λ_=>c b.1) (V:=λ_=>a2.fn (hd b d i0 A).1) u bn (λ_=>?_) bn (λ_=>bC _);refine(w.le (oJ:=λ_=>bX (hd b d i0 A)) bn (λ_=>?_)).R
 .exact Px
 .simp
 .simp
 simp
def X9(b)(d)(e:dJ b)(g:d.1=3)(i0 A)(a:ss b d i0 A):Y q 82 [bX b,ev d] [] (bX (hd b d i0 A)) []:=
 U8 b d i0 A a.a' (X_ b d e g i0 A a)
abbrev acv(a:cc)(b:dq):m ar:=[j2 a,.cells 35 (vH b),.cells 30 [cG,cG,cG],.x 86 2 (c a.1) (a2.fn a.1),.x 90 2 (c a.2.1) (bh.fn a.2.1),.x 56 2 (c a.2.2) (a3.fn a.2.2),
 .cells 30 [.x 3 2 (c a.1) (a2.fn a.1),.x 4 2 (c a.2.1) (bh.fn a.2.1),.x 5 2 (c a.2.2) (a3.fn a.2.2)]]
def Yd(b)(d)(h:dJ b)(t:d.1=3)(p:pX b d):Y q 82 [bX b,ev d] [] (bX b) []:=by
 refine Y.bh bb func82 rfl rfl rfl λz=>?_;have i:a' q [(49,kN)]:=.cons ly .nil;have y:=h.a0;refine b9 i a B (g.aB (qp b h.a0 h.bn h.a1 h.bt h.aM) [] a (a_ i [-13,-42,48] a gM (g.aH 7 (λe=>e<=c b.1) (λe:Nat=>[(3,aI 1 0),(4,aI 2 0),(5,aI 6 0),(8,R e)]) (λ_=>acv b d) (λe=>c b.1-e) 0 a D a D a w ?_)));intro e m;by_cases t:e<c b.1
 .have s:=p e t;have u:=h.bn _ (vq t);have j:b.1.getD (e:Int).toNat a2.E=b.1.getD e (0,[]):=by rw[cW];rfl
  generalize b.1.getD e (0,[])=r at *;by_cases k:r.1=d.2.1
  .refine a_ i [54,66,-78] a ?_ (g.az (e+1) a ?_ ?_ ?_ ?_)
   .simp only[U,a8,j,k,gm,bw,dr,ba,a9];exact fE
   .simp
   .simp
   .exact q6
   omega
  refine a_ i [54,-66,-78] a ?_ (g.az (e+1) a ?_ ?_ ?_ ?_)
  .simp only[U,a8,j,eW,bw,dr,ba,a9];and_intros<;>first|exact k|omega
  .simp
  .simp
  .exact q6
  omega
 obtain rfl:e=c b.1:=w;refine a_ i [-54] a D (g.aA ?_);refine b9 i a B (g.bg () [] ?_ (λx o=>absurd o D));simp
def Xl(j):Y q 278 [R j] [] (bg (decide (0<=j)&&decide (j<999999999989))) []:=by
 refine Y.I func278 rfl λb=>?_;by_cases t:0<=j
 .exact a4 [5] a gM (g.aw a gM)
 exact a4 [-5] a gM (g.aw a gM)
def Yq(b i):Y q 218 [pc b i] [] (bg (gb (b,i))) []:=by
 refine Y.I func218 rfl λh=>?_;have e:a' q [(278,dc c7 (λd=>bg (decide (0<=d)&&decide (d<999999999989))) λ_=>[])]:=.cons (.a9 λd _=>Xl d) .nil;unfold gb;cases t:(decide (0<=b)&&decide (b<999999999989))with
 |false=>exact a_ e [-6,-11] rfl gM (g.aw rfl)
 |true=>
  by_cases O:1<=i
  .exact a_ e [6,11] a du (g.aw a pS)
  exact a_ e [6,-11] a du (g.aw a pS)
abbrev B0:bI:=dc sx (λa=>bg (gb a)) λ_=>[]
def NA:bL q 218 B0:=.a9 λa _=>Yq a.1 a.2
def NO(d:m (Int×Int)):∀a:dH,dH.fo a->(d.foldl (λa b=>a.put b.1 b.2) a).ad=d.foldl ee a.ad/\dH.fo (d.foldl (λa b=>a.put b.1 b.2) a):=by
 induction d with
 |nil=>grind
 |cons b g e=>
  grind[Ef,abE]
def Wh(d:m cb)(T:c d<=4000000)(Q:c (dF d)<=100000):Y q 177 [a2.B d] [] (a3.B (eG d)) []:=by
 refine Y.I func177 rfl λM=>?_;have e:a' q [(218,B0)]:=.cons NA .nil;refine cU e a B (g.bG 3 255 2 a a ?_);refine g.aH 1 (λb=>b<=c d/\(dF (d.take b)).all gb=l) (λb:Nat=>[(3,.n (.R (.x 0 2 (c (dF (d.take b))) (a3.fn (dF (d.take b)))))),(9,a2.B d),(10,R (c d)),(11,R b)]) (λb=>[jB (dF (d.take b))]) (λb=>c d-b) 0 a ?_ a ?_ a ⟨by omega,a⟩ ?_
 .simp[dF]
 .simp[dF]
 rintro b ⟨C,j⟩;by_cases k:b<c d
 .have o:d.getD (b:Int).toNat a2.E=d.getD b (0,[]):=N;have F:=EL k;refine bd e [12] a bv (g.aH 2 (λu=>u<=(d.getD b (0,[])).2.length/\(ho d b u).all gb=l) (λu:Nat=>[(3,.n (.R (.x 0 2 (c (ho d b u)) (a3.fn (ho d b u))))),(5,aI 1 0),(9,a2.B d),(10,R (c d)),(11,R b),(16,bH.B (d.getD b (0,[])).2),(17,R (d.getD b (0,[])).2.length),(18,R u)]) (λu=>[jB (ho d b u),.cells 86 [.c (.int .i64 (d.getD b (0,[])).1),.c (.B v 2 (d.getD b (0,[])).2.length (bH.fn (d.getD b (0,[])).2))]]) (λu=>(d.getD b (0,[])).2.length-u) 0 a Qv a Qv a ⟨by omega,by simpa[ho]using j⟩ ?_);rintro u ⟨V,z⟩;obtain⟨J,O⟩:=zG (d:=d) (u:=u) k;have X:c (ho d b u)<=100000:=N;have Z:(d.getD b (0,[])).2.length<=100000:=by grind[M6]
  by_cases y:u<(d.getD b (0,[])).2.length
  .have x:(d.getD b (0,[])).2.getD (u:Int).toNat bH.E=(d.getD b (0,[])).2.getD u (0,[]):=N;have h:ho d b (u+1)=ho d b u++[(((d.getD b (0,[])).2.getD u (0,[])).1,(d.getD b (0,[])).1)]:=R8;have A:=a3.aW (ho d b u) (((d.getD b (0,[])).2.getD u (0,[])).1,(d.getD b (0,[])).1);cases t:gb (((d.getD b (0,[])).2.getD u (0,[])).1,(d.getD b (0,[])).1)with
   |false=>
    have W:eG d=[]:=by obtain⟨J,O⟩:=zG (d:=d) (u:=u+1) k;unfold eG;rw[bj];grind
    refine bd e [19,29] a ?_ (g.aS (bZ.zero a ?_))
    .simp only[U,x,t,bw,ba,a9];exact q5
    exact bv
   |true=>
    refine bd e [19,-29] a ?_ (g.az (u+1) a ?_ ?_ ?_ ?_)
    .simp only[U,x,t,a8,show pn.bytes=16 from a,bw,ba,a9];exact q5
    .exact QR
    .exact QR
    .grind
    omega
  have aa:u=(d.getD b (0,[])).2.length:=w;have s:ho d b u=dF (d.take (b+1)):=by rw[F,ho];grind[List.length_map]
  refine bd e [-19] a bF (g.aA ?_);rw[s];refine cU e a bF (g.az (b+1) a D ?_ ⟨k,s▸z⟩ w);simp
 .obtain rfl:b=c d:=w;rw[c8]at j⊢;refine bd e [-12] a D (g.aA ?_);refine g.fW (dG:=[(3,a3.B (dF d))]) (aq:=[jB (dF d)]) ?_ a D a D;have I:∀p∈dF d,a8 .i64 p.1/\a8 .i64 p.2:=λp S=>by have:=aW.1 j p S;simp only[gb,cm,bw]at this;simp only[a8];omega
  have i:a' q [(214,dS [qF (dF d)] (ax (eT (jd (dF d)))))]:=.cons (d9 (JR (dF d) w I)) .nil;have a0:(jd (dF d)).ad=eG d:=by unfold eG;rw[bl j];exact(NO (dF d) .nil bF).1
  have E:c (eG d)<=100000:=by have:=Dd (dF d) [];unfold eG;grind
  rw[<-a0]at E⊢;clear a0;generalize jd (dF d)=r at *;have K:=Jq (q:=q) r w
  cases r<;>(
   refine cU i a a (g.bV K.tocI [] a a a a (by simp[eT]) a a a bn a bn a λ_=>?_)
   exact cU i a B (g.aw a))
def qz(b:m bA)(d:bA):Int:=match b.findIdx? (λe=>e==d)with
 |some a=>a
 |none=>-1
def ZU{d}{aa}(a:e<c d)(j:∀b,b<e->d.getD b []≠aa)(h:d.getD e []=aa):qz d aa=e:=by
 have:d.findIdx? (λg=>g==aa)=f e:=by rw[uN];refine⟨a,by grind,λb i=>?_⟩;grind
 simp[qz,this]
def ZW{d}{aa}(e:∀a,a<c d->d.getD a []≠aa):qz d aa=-1:=by have:d.findIdx? (λb=>b==aa)=n:=wO;simp[qz,this]
def ZV(d)(aa):decide (0<=qz d aa)=d.contains aa:=by unfold qz;grind
def V'(d)(aa):Y q 277 [bS.B d,b2 aa] [] (R (qz d aa)) []:=by
 refine Y.I func277 rfl λm=>?_;have r:=m.B 0 a;refine aR a B (g.aH 0 (λb=>b<=c d/\∀e,e<b->d.getD e []≠aa) (λb:Nat=>[(0,bS.B d),(1,b2 aa),(7,R (c d)),(8,R b)]) (λ_=>[]) (λb=>c d-b) 0 a D a B a ⟨by omega,by omega⟩ ?_);rintro b ⟨p,h⟩;by_cases k:b<c d
 .have i:d.getD (b:Int).toNat bS.E=d.getD b []:=rfl;by_cases j:d.getD b []=aa
  .rw[ZU k h j];refine a4 [9,16] a ?_ (g.aS (bZ.zero a));simp[U,i,bw,gR,ba,a9];and_intros<;>first|exact j.symm|omega
  refine a4 [9,-16] a ?_ (g.az (b+1) a ?_ B ⟨k,λe o=>?_⟩ w)
  .simp only[U,i,a8,bw,eW,ba,a9];and_intros<;>first|grind|omega
  .simp
  grind
 rw[ZW λe o=>h e w];exact Rp
abbrev Tx:bI:=ek (eS bS) eL (λa b=>R (qz a b)) λ_ _=>[]
def VU(d)(aa):Y q 217 [bS.B d,b2 aa] [] (bg (d.contains aa)) []:=by refine Y.I func217 rfl λe=>?_;have b:a' q [(277,Tx)]:=.cons (.bl λd aa _=>V' d aa) .nil;refine b9 b a (by simp[U];exact bS.U _) (g.aw a ?_);simp only[U,bS.l,a9];exact ZV d aa
abbrev Hv:bI:=ek (eS bS) eL (λa b=>bg (a.contains b)) λ_ _=>[]
def adJ:bL q 217 Hv:=.bl λa b _=>VU a b
def kX(b:m fr)(d:Nat):Bool:=(aA d).all λa=>gb (b.getD a (0,0))&&(a==0||decide ((b.getD (a-1) (0,0)).1<(b.getD a (0,0)).1))
theorem Lz{d}:kX d (e+1)=(kX d e&&(gb (d.getD e (0,0))&&(e==0||decide ((d.getD (e-1) (0,0)).1<(d.getD e (0,0)).1)))):=by unfold kX;rw[List.range_succ,List.all_append];simp
def Lx{d}(h:kX d e=v):∀a,e<=a->kX d a=v:=by
 intro a g;obtain⟨b,rfl⟩:=Nat.exists_eq_add_of_le g;induction b with
 |zero=>exact h
 |succ b i=>grind[Lz]
def Wi(d):Y q 213 [a3.B d] [] (bg (kX d (c d))) []:=by
 refine Y.I func213 rfl λp=>?_;have t:=p.B 0 a;have b:a' q [(218,B0)]:=.cons NA .nil;refine b9 b a B (g.aH 0 (λe=>e<=c d/\kX d e=l) (λe:Nat=>[(0,a3.B d),(5,a3.B d),(6,R (c d)),(7,R e)]) (λ_=>[]) (λe=>c d-e) 0 a D a B a ⟨by omega,a⟩ ?_);rintro e ⟨r,k⟩;by_cases o:e<c d
 .have j:=Lz (d:=d) (e:=e);rw[k,fX]at j;have i:d.getD (e:Int).toNat a3.E=d.getD e (0,0):=rfl;cases h:gb (d.getD e (0,0))with
  |false=>
   rw[Lx (e:=e+1) N (c d) w];refine a_ b [8,14,29] a ?_ (g.aS (bZ.zero a));simp_all
  |true=>
  rw[h,fX]at j;by_cases s:e=0
  .subst s;refine a_ b [8,-14,-17,-29] a ?_ (g.az 1 a D B ⟨o,j⟩ w);simp only[U,i,h,a8,bw,dr,ba,a9];exact q5
  have m:d.getD ((e:Int)-1).toNat a3.E=d.getD (e-1) (0,0):=by rw[show((e:Int)-1).toNat=e-1 by omega];rfl
  by_cases u:(d.getD (e-1) (0,0)).1<(d.getD e (0,0)).1
  .refine a_ b [8,-14,17,-29] a ?_ (g.az (e+1) a D B ⟨o,by grind⟩ w);simp only[U,i,m,h,a8,bw,dr,ba,a9];exact q5
  rw[Lx (e:=e+1) N (c d) w];refine a_ b [8,-14,17,29] a ?_ (g.aS (bZ.zero a));simp only[U,i,m,h,a8,bw,ba,a9];exact q5
 obtain rfl:e=c d:=w;rw[k];refine a_ b [-8] a D (g.aA ?_);exact b9 b a B (g.aw a)
def Ji(d):Y q 11 [az.B d,az.B d] [] (bg l) []:=by
 refine Y.I func11 rfl λb=>?_;have i:=b.B 0 a;refine a4 [-10] a D (g.aH 0 (λe=>e<=c d) (λe:Nat=>[(0,az.B d),(1,az.B d),(5,R e)]) (λ_=>[]) (λe=>c d-e) 0 a D a D a w ?_);intro e h;by_cases j:e<c d
 .exact PN
 exact FK
abbrev xL:bI:=ek (eS az) (eS az) (λ_ _=>bg l) λa b=>[b=a]
def EY:bL q 11 xL:=.bl λa b d=>by have:b=a:=d;subst this;exact Ji _
def WF(d):Y q 35 [a3.B d,a3.B d] [] (bg l) []:=by
 refine Y.I func35 rfl λb=>?_;have i:=b.B 0 a;refine a4 [-10] a D (g.aH 0 (λe=>e<=c d) (λe:Nat=>[(0,a3.B d),(1,a3.B d),(5,R e)]) (λ_=>[]) (λe=>c d-e) 0 a D a D a w ?_);intro e h;by_cases j:e<c d
 .exact PN
 exact FK
abbrev HC:bI:=ek (eS a3) (eS a3) (λ_ _=>bg l) λa b=>[b=a]
def adS:bL q 35 HC:=.bl λa b d=>by have:b=a:=d;subst this;exact WF _
abbrev LF(a:cb):ar:=.cells 86 [.c (.int .i64 a.1),.c (.B v 2 (c a.2) (bH.fn a.2))]
def WG(b):Y q 36 [fR b,fR b] [] (bg l) []:=by
 refine Y.I func36 rfl λr=>?_;by_cases E:c b.2<=9223372036854775807
 .refine a4 [-10,-18] a D (g.aH 2 (λd=>d<=c b.2) (λd:Nat=>[(2,aI 0 0),(3,aI 1 0),(5,R d)]) (λ_=>[LF b,LF b]) (λd=>c b.2-d) 0 a D a D a w ?_);intro d p;by_cases o:d<c b.2
  .refine bO [24,-37] a ?_ (g.az (d+1) a ?_ ?_ ?_ ?_)
   .simp[a8,o];omega
   .simp
   .simp
   .grind
   omega
  refine bO [-24] a bK (g.aA ?_);exact cA a B (g.aw a)
 exfalso;obtain⟨k,z,h,_⟩:=r;obtain⟨C,t⟩:∃u,bx [] k u (fR b):=by
  match z,h with
  |[i,_],h=>exact⟨i,h.1⟩
 obtain⟨s,_,e⟩:=t
 match s,e with
 |[i,m],e=>
  have:=e.2.1;cases(show Rd k.D m (.B v 2 (c b.2) (bH.fn b.2))from this)with
  |B x j y A F=>omega
abbrev HD:bI:=ek (jJ bH) (jJ bH) (λ_ _=>bg l) λa b=>[b=a]
def adT:bL q 36 HD:=.bl λa b d=>by have:b=a:=d;subst this;exact WG _
abbrev j1(a:ej):ar:=.cells 90 [.c (.int .i64 a.1),.c (.B v 2 (c a.2) (cw.fn a.2))]
def WH(d)(h:c d.2<=4000000):Y q 37 [i1 d,i1 d] [] (bg l) []:=by
 refine Y.I func37 rfl λi=>?_;have x:a' q [(11,xL)]:=.cons EY .nil;refine a_ x [-10,-18] a D (g.aH 2 (λb=>b<=c d.2) (λb:Nat=>[(2,aI 0 0),(3,aI 1 0),(5,R b)]) (λ_=>[j1 d,j1 d]) (λb=>c d.2-b) 0 a D a D a w ?_);intro b e;by_cases j:b<c d.2
 .refine bd x [24,-39,53] a ?_ (g.az (b+1) a ?_ ?_ ?_ ?_)
  .simp only[U,a8,gm,fB,iz,bw,ba,a9];and_intros<;>first|exact az.U _|omega
  .simp
  .simp
  .grind
  omega
 refine bd x [-24] a bK (g.aA ?_);exact wL
abbrev HE:bI:=ek (jJ cw) (jJ cw) (λ_ _=>bg l) λb a=>[a=b,c a.2<=4000000]
def adU:bL q 37 HE:=.bl λa b e=>by obtain⟨rfl,d⟩:b=a/\_:=e;exact WH _ d
abbrev zH(a:cc):ar:=.cells 30 [.c (.B v 2 (c a.1) (a2.fn a.1)),.c (.B v 2 (c a.2.1) (bh.fn a.2.1)),.c (.B v 2 (c a.2.2) (a3.fn a.2.2))]
def Jj(b)(e:dJ b):Y q 13 [bX b,bX b] [] (bg l) []:=by
 refine Y.I func13 rfl λk=>?_;have x:a' q [(35,HC),(36,HD),(37,HE)]:=.cons adS (.cons adT (.cons adU .nil));have o:=e.a0;have m:=e.a1;refine bd x [-13,-21,28] a ?_ ?_
 .simp only[U,a8,gm,fB,iz,bw,ba,a9];and_intros<;>first|exact a3.U _|omega
 refine g.aH 2 (λd=>d<=c b.1) (λd:Nat=>[(2,aI 0 0),(3,aI 1 0),(5,R d)]) (λ_=>[zH b,zH b]) (λd=>c b.1-d) 0 a D a D a w ?_;intro d h;by_cases i:d<c b.1
 .refine bd x [35,48] a ?_ (g.az (d+1) a ?_ ?_ ?_ ?_)
  .simp only[U,a8,bw,ba,a9];and_intros<;>first|exact bH.U _|omega
  .simp
  .simp
  .grind
  omega
 refine bd x [-35] a bK (g.aA ?_);refine cU x a B (g.aH 2 (λd=>d<=c b.2.1) (λd:Nat=>[(2,aI 0 0),(3,aI 1 0),(6,R d)]) (λ_=>[zH b,zH b]) (λd=>c b.2.1-d) 0 a D a D a w ?_);intro d h;by_cases i:d<c b.2.1
 .have u:=(e.bt _ (mE i (0,[]))).1;have j:b.2.1.getD (d:Int).toNat bh.E=b.2.1.getD d (0,[]):=N;refine bd x [54,67] a ?_ (g.az (d+1) a ?_ ?_ ?_ ?_)
  .simp only[U,a8,j,cw.l,bw,ba,a9];and_intros<;>first|exact cw.U _|omega
  .simp
  .simp
  .grind
  omega
 refine bd x [-54] a bK (g.aA ?_);exact wL
def WJ(b:m cN):Y q 16 [bu.B b,bu.B b] [] (bg l) []:=by
 refine Y.I func16 rfl λd=>?_;have j:=d.B 0 a;refine a4 [-10] a D (g.aH 0 (λe=>e<=c b) (λe:Nat=>[(0,bu.B b),(1,bu.B b),(5,R e)]) (λ_=>[]) (λe=>c b-e) 0 a D a D a w ?_);intro e i;by_cases h:e<c b
 .refine bO [14,-25] a ?_ (g.az (e+1) a ?_ ?_ ?_ ?_)
  .simp[a8,h];omega
  .simp
  .simp
  .exact q6
  omega
 exact FK
end
def GI{d}:∀{h:Nat},c (fI d h)=h->∀a,1<=a->a<h->d.getD a 0≠d.getD (a-1) 0
 |0,_,a,_,b=>by omega
 |h+1,b,a,e,i=>by
  have g:=xm d h;rw[fI]at b;split at b
  .omega
  rename_i j;simp only[dm,gC]at b;by_cases k:a=h
  .grind
  exact GI (h:=h) w a e w
def M4(d):(j3 d).Pairwise λa b=>a<=b:=by have:=List.pairwise_mergeSort (le:=λa b:Int=>decide (a<=b)) (λe g h i j=>by grind) (λe g=>by grind) d;exact this.imp λk=>by grind
def zF(d):(j3 d).Perm d:=List.mergeSort_perm _ _
def TP(d):c (hZ (j3 d))=c d↔d.Nodup:=by
 rw[<-qU d,<-(zF d).nodup_iff];have r:=M4 d;generalize j3 d=i at *;have k:∀{b:Nat} (e:b<c i),i.getD b 0=i[b]:=λ{b} e=>by grind
 constructor
 .intro e;have o:=GI e;refine List.Pairwise.imp (R:=λs t=>s<t) (λe q=>by omega) (nf.2 λb g h a m=>?_);have j:=nf.1 r;have p:=o g w a;rw[k a,k w]at p;have u:=j (g-1) g w a w;by_cases q:b=g-1
  .grind
  have:=j b (g-1) h w w;omega
 intro e;unfold hZ;rw[uR (bC _),c8];exact FQ
def M8(j A):∀(g:m Int)d(e:Bool),(e=l->j∈d) ->
  ((A∈(g.foldl (gw j) (d,e)).1∨(A=j/\(g.foldl (gw j) (d,e)).2=v))↔((A∈d∨(A=j/\e=v))∨A∈g))
 |[],d,e,_=>by simp
 |i::g,d,e,r=>by
  rw[iT];have h:∀a b,gw j (d,e) i=(a,b)->(b=l->j∈a)/\((A∈a∨(A=j/\b=v))↔((A∈d∨(A=j/\e=v))∨A=i)):=λa b p=>by unfold gw at p;grind
  cases k:gw j (d,e) i with
  |mk a b=>
   obtain⟨q,o⟩:=h a b k;rw[M8 j A g a b q,o,fh,or_assoc]
def aaA{d}{b a:Int}:a∈fe d b↔a∈d∨a=b:=by have:=M8 b a d [] v D;unfold fe;grind
def yV{A}:∀{b a:m Int},A∈b.foldl fe a↔A∈a∨A∈b
 |[],a=>by simp
 |d::b,a=>by rw[iT,yV,aaA,fh,or_assoc]
def DO{d}{A}:A∈gJ d↔A∈ed d:=by unfold gJ;rw[yV];simp
def K_{A}:∀{e:m ej}{b:m Int},A∈e.foldl (λa d=>(gJ d.2).foldl fe a) b↔A∈b∨∃d∈e,A∈ed d.2
 |[],b=>by simp
 |d::e,b=>by rw[iT,K_,yV,DO,or_assoc];simp
def tr{d}{A}:A∈h4 d↔∃a∈d,A∈ed a.2:=by unfold h4;rw[K_];simp
def K9{d}{A}:∀{u:Nat},u<=c d->(A∈fI d u↔A∈d.take u)
 |0,_=>by simp[fI]
 |u+1,e=>by
  have b:=K9 (d:=d) (A:=A) (u:=u) w;rw[fI,iq w 0];split
  .rename_i s;rw[b,fG];constructor
   .exact .inl
   rintro(a|a)
   .exact a
   simp only[gO]at a;subst a;rw[s.2,al,bJ w];exact A8.2 ⟨u-1,by simp;omega,by simp⟩
  grind
def yW{a}{A}:A∈gk a↔A∈ed a.2:=by unfold gk hZ;rw[K9 (bC _),c8];exact(zF _).mem_iff
def aav{d}{j:Int->Bool}:(h4 d).all j=(aA (c d)).all λe=>!(gk (d.getD e (0,[]))).any λb=>!j b:=by
 rw[o6,aW,gf];constructor
 .intro h e a;rw[jl,List.any_eq_false];intro b g;have:=h b (tr.2 ⟨_,ov a,yW.1 g⟩);simp[this]
 intro h b g;obtain⟨o,m,k⟩:=tr.1 g;obtain⟨e,a,rfl⟩:=A8.1 m;have i:=h e a;rw[al,bJ a,ia,jl,List.any_eq_false]at i;simpa using i b (yW.2 k)
def s'{a:m α}(d:e<c a)(b:α):a.getD e b=a[e]:=N
def xr{aj:α->Int}{O}{d}:(∀a,a<c d->ki aj O d a=l)↔d.Pairwise λo p=>aj o<aj p:=by
 constructor
 .intro j;have key:∀g a e (b:a<c d) (h:e<c d),e=a+g->0<g->aj d[a]<aj d[e]:=by
   intro g;induction g with
   |zero=>grind
   |succ g q=>
    intro a e b h k _;have m:=j e h;rw[qd w,decide_eq_true_iff,s' w,s' h]at m;by_cases i:g=0
    .subst i;grind
    grind
  exact nf.2 λa e b h k=>key (e-a) a e b h w w
 intro j a b;by_cases i:a=0
 .exact bF
 rw[qd i,decide_eq_true_iff,s' w,s' b];exact(nf.1 j) (a-1) a w b w
def sM{d}{T:α->Bool}{O}:(∀a,a<c d->T (d.getD a O)=l)↔∀b∈d,T b=l:=by grind[List.mem_iff_getElem]
structure n4(h:Int)(T:cb):Prop where
 c5:1<=T.1/\T.1<=99
 key:ce h=l
 len:1<=c T.2/\c T.2<=4
 gC:∀E∈T.2,right h E=l
 h_:T.2.Pairwise λE bD=>E.1<bD.1
def za{d}:il h d=l↔n4 h d:=by
 rw[D8];simp[cm,bw,gf];have k:(∀b,b<c d.2->ip h d b=l)↔(∀g∈d.2,right h g=l)/\d.2.Pairwise λg m=>g.1<m.1:=by
  rw[<-sM (O:=(0,[])),<-xr (aj:=λg:c1=>g.1) (O:=(0,[]))];constructor
  .intro e;exact⟨λb a=>by have:=e b a;simp[ip,cm]at this;exact this.1,λb a=>by have:=e b a;simp only[ip,cm]at this;exact this.2⟩
  intro e b a;simp only[ip,cm];exact⟨e.1 b a,e.2 b a⟩
 rw[k];constructor
 .rintro⟨⟨⟨s,j⟩,u⟩,i,C⟩;exact⟨s,j,u,i,C⟩
 rintro⟨s,j,u,i,C⟩;grind
structure iN(h:Int)(b:cc):Prop where
 cr:∀T∈b.1,n4 h T
 cH:b.1.Pairwise λT bk=>T.1<bk.1
 ax:(ck b.1).Nodup
 a1:∀E∈b.2.1,(1<=E.1/\E.1<=20)/\(ep h E b.1).isSome=l
 cJ:b.2.1.Pairwise λE bD=>E.1<bD.1
 key:ce h=l
 df:gH b.2.2=l
 len:c b.1<=20
def sa{b}:h8 h b=l↔iN h b:=by
 unfold h8;simp[cm,bw,gf];have q:(∀e,e<c b.1->nS h b.1 e=l)↔(∀g∈b.1,n4 h g)/\b.1.Pairwise λg r=>g.1<r.1:=by
  rw[<-xr (aj:=λg:cb=>g.1) (O:=(0,[]))];have:(∀g∈b.1,n4 h g)↔∀g∈b.1,il h g=l:=⟨λk g o=>za.2 (k g o),λk g o=>za.1 (k g o)⟩
  rw[this,<-sM (O:=(0,[]))];constructor
  .intro k;exact⟨λe a=>by have:=k e a;simp[nS,cm]at this;exact this.1,λe a=>by have:=k e a;simp[nS,cm]at this;exact this.2⟩
  intro k e a;simp[nS,cm];grind
 have t:(∀e,e<c b.2.1->lx h b e=l)↔(∀i∈b.2.1,(1<=i.1/\i.1<=20)/\(ep h i b.1).isSome=l)/\b.2.1.Pairwise λi w=>i.1<w.1:=by
  rw[<-xr (aj:=λg:ej=>g.1) (O:=(0,[]))];have:(∀i∈b.2.1,(1<=i.1/\i.1<=20)/\(ep h i b.1).isSome=l)↔∀i∈b.2.1,(decide (1<=i.1/\i.1<=20)&&(ep h i b.1).isSome)=l:=N;rw[this,<-sM (O:=(0,[]))];constructor
  .intro k;exact⟨λe a=>by have:=k e a;simp[lx,cm]at this⊢;grind,λe a=>by have:=k e a;simp[lx,cm]at this;exact this.1.2⟩
  intro k e a;have m:=k.1 e a;simp[lx,cm]at m⊢;grind
 rw[q,t];constructor
 .rintro⟨⟨⟨⟨⟨⟨m,C⟩,j⟩,u,A⟩,s⟩,d⟩,p⟩;exact⟨m,C,j,u,A,s,d,p⟩
 rintro⟨m,C,j,u,A,s,d,p⟩;grind
structure jI(h:Int)(p:dP):Prop extends iN h p.1 where
 gq:∀E∈p.1.2.1,∀j∈ed E.2,j∈p.2.1
 gp:∀j∈p.2.2,∃T∈p.1.1,T.1=j
 g8:p.2.2.Pairwise λE bD=>E<bD
def sb{p}:hp h p=l↔jI h p:=by
 unfold hp;simp only[cm,sa,gf];have o:(h4 p.1.2.1).all (λa=>p.2.1.contains a)=l↔∀g∈p.1.2.1,∀a∈ed g.2,a∈p.2.1:=by
  rw[aW];constructor
  .intro e g u a k;simpa using e a (tr.2 ⟨g,u,k⟩)
  intro e a k;obtain⟨g,u,k⟩:=tr.1 k;grind
 have q:(∀d,d<c p.2.2->nJ p.1.1 p.2.2 d=l)↔(∀a∈p.2.2,∃j∈p.1.1,j.1=a)/\p.2.2.Pairwise λg r=>g<r:=by
  rw[<-xr (aj:=λa:Int=>a) (O:=0)];have:(∀a∈p.2.2,∃j∈p.1.1,j.1=a)↔∀a∈p.2.2,(p.1.1.any λj=>j.1==a)=l:=D;rw[this,<-sM (O:=0)];constructor
  .intro e;exact⟨λd b=>by have:=e d b;simp only[nJ,cm]at this;exact this.1,λd b=>by have:=e d b;simp[nJ,cm]at this;exact this.2⟩
  intro e d b;simp[nJ,cm];grind
 rw[o,q];constructor
 .rintro⟨⟨m,i,C⟩,s⟩;exact⟨s,m,i,C⟩
 rintro⟨s,m,i,C⟩;grind
def ja(b:Int)(a:m Int)(d:cb):cb:=if d.1=b then hO d a else d
def fo(b:Int)(a:m Int)(d:m cb):m cb:=(d.map (ja b a)).filter λe=>!e.2.isEmpty
def h7(a:dP):dP:=match a.2.2 with
 |[]=>a
 |b::d=>((fo b a.2.1 a.1.1,a.1.2),a.2.1,d)
def Zi{d:m c1}{a:m Int}{j}(e:j∈a):(d.filter λb=>a.contains b.1).find? (λb=>b.1==j)=d.find? (λb=>b.1==j):=N
def aa8{bN:Int}{a:m Int}{T}{j}(b:j∈a):fZ h (ja bN a T) j=fZ h T j:=by
 unfold ja;split
 .simp only[fZ,hO,Zi b]
 simp
def J3{h bN}{cy}{j}(b:j∈cy):∀a:m cb,dh h (fo bN cy a) j=dh h a j
 |[]=>rfl
 |T::a=>by
  have g:=J3 (h:=h) (bN:=bN) b a;have e:=aa8 (h:=h) (bN:=bN) (T:=T) b;unfold fo dh at *;rw[mm,sF];split
  .grind
  rename_i d;have d:(ja bN cy T).2=[]:=N;have:fZ h T j=n:=by rw[<-e];unfold fZ;grind
  grind
def Za{Z cT}{a}(d:∀b∈a,dh h Z b=dh h cT b):g9 h Z a=g9 h cT a:=by unfold g9;grind[List.map_congr_left]
def acF{Z cT}{b}(i:∀a∈ed b.2,dh h Z a=dh h cT a):ep h b Z=ep h b cT:=by
 have j:∀d∈b.2,fS h Z d=fS h cT d:=λd g=>by unfold fS;rw[Za λa e=>i a (ru.2 ⟨d,g,e⟩)]
 unfold ep fu;grind[List.map_congr_left]
theorem yN{bN}{cy}{a}:(ja bN cy a).1=a.1:=by unfold ja hO;split<;>rfl
theorem DD{bN}{cy}{T}:List.Sublist (ja bN cy T).2 T.2:=by unfold ja hO;split<;>simp
def Nc{bN}{cy}{Z}{a}(b:a∈fo bN cy Z):∃d∈Z,a=ja bN cy d/\a.2≠[]:=by unfold fo at b;grind
def Lf{bN}{cy}:∀a:m cb,List.Sublist (ck (fo bN cy a)) (ck a)
 |[]=>.refl _
 |d::a=>by
  have b:=Lf (bN:=bN) (cy:=cy) a;unfold fo ck at *;rw[mm,sF,sC];split
  .rw[sC];exact(DD.map _).append b
  grind
def jI.step{p}(b:jI h p):jI h (h7 p):=by
 unfold h7;split
 .exact b
 rename_i bN y m;have s:=b.gp;have r:=b.g8;rw[m]at s r;have w:∀d∈p.1.2.1,ep h d (fo bN p.2.1 p.1.1)=ep h d p.1.1:=λd i=>acF λo e=>J3 (b.gq d i o e) _;refine⟨⟨λx t=>?_,?_,b.ax.sublist (Lf _),λd i=>?_,b.cJ,b.key,b.df,?_⟩,b.gq,λo e=>?_,(iR.1 r).2⟩
 .obtain⟨T,j,rfl,q⟩:=Nc t;have g:=b.cr T j;have k:=DD (bN:=bN) (cy:=p.2.1) (T:=T);refine⟨by rw[yN];exact g.c5,g.key,⟨A6.2 q,fY k.length_le g.len.2⟩,λd i=>g.gC d (k.subset i),g.h_.sublist k⟩
 .show (fo bN p.2.1 p.1.1).Pairwise _;unfold fo;refine List.Pairwise.filter _ (rq.2 (b.cH.imp λu=>?_));grind[yN]
 .have:=b.a1 d i;grind
 .show (c (fo bN p.2.1 p.1.1))<=20;have:c (fo bN p.2.1 p.1.1)<=c p.1.1:=by unfold fo;grind
  exact fY this b.len
 obtain⟨T,j,rfl⟩:=s o (mo _ e);have q:T.1≠bN:=by grind[List.pairwise_cons]
 refine⟨T,?_,a⟩;show T∈fo bN p.2.1 p.1.1;unfold fo;refine jm.2 ⟨hu.2 ⟨T,j,by unfold ja;grind⟩,?_⟩;have:=(b.cr T j).len.1;grind
def oR{o}(i:dO o=l):ri o:=by
 obtain⟨k,_,_,t⟩:=zV.1 i;have q:∀a∈o,d6 a.2=l/\c a.2<=40:=λa d=>by have:=(k a d).2;simp[fU,cm,bw]at this;grind
 refine⟨by omega,λa d=>⟨(q a d).1,by grind⟩,?_⟩;have:∀b:m cN,(∀a∈b,c a.2<=40)->c (eX b)<=40*c b:=by
  intro b;induction b with
  |nil=>exact bF
  |cons a u j=>
   intro e;have g:=j λh p=>e h (mo _ p);have r:=e a iB;have s:=vY a.2;simp[eX,sC,dm,fs]at g⊢;omega
 grind
theorem aaF(bN h)(Z):(jZ bN h Z).2.length=c Z:=DQ h Z
def xt{d:m ej}:∀a,d.Pairwise (λa g=>a.1<g.1)->(∀b∈d,a<=b.1/\b.1<=20)->(c d:Int)<=max 0 (21-a):=by
 induction d with
 |nil=>grind
 |cons b r h=>
  intro a k e;obtain⟨p,i⟩:=iR.1 k;have q:=e b iB;have:=h (b.1+1) i λo j=>⟨by grind,(e o (mo _ j)).2⟩
  grind
def LN(h):∀j a(b:m bA),(∀g∈b,cC g=l)->∀k∈gh h j a b,∃i d,a<=i/\i<a+c (gh h j a b)/\0<c d/\c d<=4/\(∀g∈d,cC g=l)/\k=jZ i h d
 |0,_,_,_,k,e=>by exact bF
 |j+1,a,b,o,k,e=>by
  simp only[gh]at e⊢;split at e
  .rename_i q;rw[bl q];rcases fh.1 e with rfl|e
   .grind
   obtain⟨i,d,s,r,t⟩:=LN h j (a+1) (b.drop 4) (λg p=>o g (p4 p)) k e;grind
  grind
def Df{a:m α}(d:c a≠0)(b:α):a.getD (c a-1) b∈a:=mE w b
def D9(h):∀g a(b:m bA),∀e∈gh h g a b,a<=e.1
 |0,_,_,e,d=>by exact bF
 |g+1,a,b,e,d=>by
  simp only[gh]at d;split at d
  .rcases fh.1 d with rfl|d
   .exact Int.le_refl _
   have:=D9 h g (a+1) (b.drop 4) e d;omega
  grind
def LK(h):∀(d:Nat) (a:Int)(b:m bA),(gh h d a b).Pairwise λe g=>e.1<g.1
 |0,_,_=>by simp[gh]
 |d+1,a,b=>by
  simp[gh];split
  .refine iR.2 ⟨λj i=>?_,LK h d (a+1) (b.drop 4)⟩;have:=D9 h d (a+1) (b.drop 4) j i;exact bF
  simp
theorem aaC{d}{e a}(b:a∈fK d e):a=e∨a∈d:=by
 induction d with
 |nil=>simp[fK]at b;grind
 |cons i h g=>
  simp only[fK]at b;grind
def aaB{Z}{d}(e:d∈ii h Z):∃a∈Z,d=(d8 h a,fT a):=by
 have key:∀(Z:m bA) b,d∈Z.foldl (λg a=>fK g (d8 h a,fT a)) b->d∈b∨∃a∈Z,d=(d8 h a,fT a):=by
  intro Z;induction Z with
  |nil=>grind
  |cons a j i=>
   grind[aaC]
 rcases key Z [] e with e|e
 .cases e
 grind
def C2{Z}{j}{b}(d:dh h Z j=f b):cC b=l/\d8 h b=j/\j∈ck Z:=by
 unfold dh at d;obtain⟨nO,k,a⟩:=List.exists_of_findSome?_eq_some d;unfold fZ at a;split at a
 .rename_i e i;have m:e.1=j:=OK;have g:=w9 i;unfold iV hP at a;refine⟨by grind,by grind,ru.2 ⟨nO,k,hu.2 ⟨e,g,m⟩⟩⟩
 cases a
def J2{Z}{j}(p:ce h=l)(i:∀b∈Z,n4 h b)(o:j∈ck Z):∃b,dh h Z j=f b:=by
 obtain⟨nO,e,m⟩:=ru.1 o;obtain⟨s,r,t⟩:=hu.1 m;cases k:dh h Z j with
 |some b=>simp
 |none=>
  have d:fZ h nO j=n:=List.findSome?_eq_none_iff.1 k nO e;unfold fZ at d;split at d
  .rename_i g a;have u:g.1=j:=by simpa using List.find?_some a
   have q:=(i nO e).gC g (w9 a);unfold right at q;unfold iV at d;grind
  rename_i a;have:=uH.1 a s r;grind
def Zg{Z cT}(a:ce h=l)(e:∀b∈Z,n4 h b)(q:∀j∈ck cT,j∈ck Z){j}{b}(p:dh h cT j=f b):dh h Z j=f b:=by obtain⟨i,k,o⟩:=C2 p;obtain⟨r,d⟩:=J2 a e (q j o);obtain⟨g,m,_⟩:=C2 d;rw[d,y1 a i g (k.trans m.symm)]
def Zh{Z cT}(q:∀a(g:bA),dh h cT a=f g->dh h Z a=f g){b}{j}(k:fS h cT b=f j):fS h Z b=f j:=by
 have key:∀e,g9 h cT b.2=f e->g9 h Z b.2=f e:=by
  intro e d;unfold g9 at *;split at d
  .rename_i i;cases d;have p:∀a∈b.2,dh h Z a=dh h cT a:=λa m=>by have:=aW.1 i a m;obtain⟨g,o⟩:=AP.1 this;simp_all
   simp_all
  cases d
 unfold fS at *;split at k
 .cases k
 simp_all
def acI{Z cT}(k:∀i(j:bA),dh h cT i=f j->dh h Z i=f j){a}{o}(d:ep h a cT=f o):ep h a Z=f o:=by
 unfold ep at *;split at d
 .rename_i s;cases d;simp only[cm]at s;have m:∀b∈a.2,fS h Z b=fS h cT b:=λb g=>by obtain⟨p,e⟩:=AP.1 (aW.1 s.1.2 b g);rw[e,Zh k e]
  have q:fu h Z a.2=fu h cT a.2:=qb λb g=>by simp_all
  simp_all
 cases d
section
variable {q:af S}
structure oY(b:cc):Prop where
 size:dJ b
 hG:b.1.Pairwise λx i=>x.1<i.1
 num:∀E∈b.2.1,-4000000<=E.1/\E.1<=4000000
 aM:∀E∈b.2.2,1<=E.1/\E.1<=2
def Kv{b}(i:oY b)(d):(∃a r,ss b d a r)∨pX b d:=by
 by_cases h:pX b d
 .exact .inr h
 refine .inl ?_;simp only[pX,Classical.not_forall,Classical.not_not]at h;obtain⟨a,e,k,u,x⟩:=h;refine⟨a,d.2.2.1.toNat,e,k,λg j t o=>?_,by omega,by omega⟩;have q:b.1.getD a (0,[])=b.1[a]:=N;have p:b.1.getD g (0,[])=b.1[g]:=N;rw[q]at k;rw[p]at o;rcases dY g a with m|s
 .have:=nf.1 i.hG g a j e m;omega
 have:=nf.1 i.hG a g e j w;omega
structure Ss(q:af S)(b:cc)(d:dq)(aF:cc):Prop where
 eO:dJ aF
 cC:Y q 68 [bX b,ev d] [] (bX aF) []
 cP:Y q 82 [bX b,ev d] [] (bX aF) []
theorem Ly{d}(g:kX d (c d)=l):(∀b∈d,gb b=l)/\d.Pairwise λb h=>b.1<h.1:=by
 have i:=gf.1 g;have j:∀a,a<c d->∀e,e<a->(d.getD e (0,0)).1<(d.getD a (0,0)).1:=by
  intro a;induction a with
  |zero=>grind
  |succ a k=>
   grind
 grind[List.getElem_of_mem,List.pairwise_iff_getElem]
def Zn(d):∀a:m fr,(a++d).Pairwise (λb e=>b.1<e.1)->d.foldl ee a=a++d:=by
 induction d with
 |nil=>grind
 |cons b h g=>
  grind[abz]
def aev{d}(g:kX d (c d)=l)(j):(jd d).find j=i5 d j:=by obtain⟨a,b⟩:=NO d .nil bF;have e:=Zn d [] (by grind[Ly]);rw[jd,C7 b,a];exact eF (i5 · j) e
def NQ{o}(d:dO o=l):∀a∈o,fU a.2=l:=λa b=>((zV.1 d).1 a b).2
abbrev IN(a:m bA):y:=.n (.R (.x 2 1 (c a) (bS.fn a)))
def Yk(A C)(h)(o)(d)(k:ce h=l)(z:dO o=l)(M:kX d (c d)=l)(ae:c d<=4000000):
  Y q 176 [R h,bu.B o,a3.B d] (iu A C) (bS.B (ga h o d)) (iu A C):=by
 refine Y.I func176 rfl λaP=>?_;have P:a' q [(56,dc c7 (λh=>bg (ce h)) λ_=>[]),(59,rB),(213,dc (eS a3) (λd=>bg (kX d (c d))) λ_=>[])]:=.cons t56 (.cons wn (.cons (.a9 λd _=>Wi d) .nil));refine bd P [-15,-20,-25] a ?_ ?_
 .simp only[U,k,bu.l,a3.l,sf,z,M];exact⟨a,a3.U _,a,bu.U _,a⟩
 have G:=Ly M;have O:∀r∈d,a8 .i64 r.1/\a8 .i64 r.2:=λr a7=>by have:=G.1 r a7;simp only[gb,cm,bw]at this;simp only[a8];omega
 have a0:=aev M;have af:=JR (q:=q) d ae O;have V:∀m,Y q 215 [ax (eT (jd d)),R m] [] (R (i5 d m)) []:=λm=>a0 m▸VB (jd d) m
 clear a0;generalize jd d=F at *;have s:a' q [(214,dS [qF d] (ax (eT F)))]:=.cons (d9 af) .nil;cases F<;>(
  refine cU s a a (g.bG 8 9 1 a a ?_);refine g.dH 3 [0,7,29,30] (λb=>b<=c o) (λb:Nat=>[(8,IN ((eX (o.take b)).foldl (fg h d) [])),(31,R b)]) (λb=>iu A C++[.x 9 1 (c ((eX (o.take b)).foldl (fg h d) [])) (bS.fn ((eX (o.take b)).foldl (fg h d) []))]) (λb=>c o-b) 0 a ?_ a ?_ a w ?_
  .simp[eX]
  .simp[eX]
  intro b Z;by_cases X:b<c o
  .have L:o.getD (b:Int).toNat bu.E=o.getD b ([],[]):=N;have I:o.getD b ([],[])∈o:=N;have ai:=NQ z _ I;have u:=GN X;have H:=GM o (b+1);have E:=oR z;have W:=(E.fl _ I).1;have ag:=E.all;have ah:=E.len;have S:=vZ W;generalize o.getD b ([],[])=i at *;rw[u,dm]at H;have T:lf i.2=cn i.2:=by unfold lf;grind
   have t:a' q [(195,dc eL (λaa=>bS.B (lf aa)) λ_=>[])]:=.cons EW .nil;refine bd t [32] a bv ?_;rw[L,T];refine g.dH 4 [0,7,29,30,31,37,38] (λe=>e<=c (cn i.2)) (λe:Nat=>[(8,IN ((eX (o.take b)++(cn i.2).take e).foldl (fg h d) [])),(39,R e)]) (λe=>iu A C++[.x 9 1 (c ((eX (o.take b)++(cn i.2).take e).foldl (fg h d) [])) (bS.fn ((eX (o.take b)++(cn i.2).take e).foldl (fg h d) [])),.cells 51 [.c (.S i.1),.c (.S i.2)]]) (λe=>c (cn i.2)-e) 0 a D a D a w ?_;intro e ak;have y:=Dc h d (eX (o.take b)++(cn i.2).take e) [];simp only[gQ,dm,List.length_take]at y;by_cases aj:e<c (cn i.2)
   .have ab:(cn i.2).getD (e:Int).toNat bS.E=(cn i.2).getD e []:=N;have Q:cC ((cn i.2).getD e [])=l:=S _ N;have x:(eX (o.take b)++(cn i.2).take (e+1)).foldl (fg h d) []=fg h d ((eX (o.take b)++(cn i.2).take e).foldl (fg h d) []) ((cn i.2).getD e []):=ir;generalize(eX (o.take b)++(cn i.2).take e).foldl (fg h d) []=dy at *;generalize(cn i.2).getD e []=p at *;have a7:=bS.aW dy p;refine bO [40] a bv ?_;rw[ab];refine g.aB (CK A C h p k Q) [0,1] a (g.aB (V _) [] a ?_);have j:a' q [(217,Hv)]:=.cons adJ .nil;by_cases K:i5 d (d8 h p)=0
    .cases av:dy.contains p with
     |true=>
      rw[fg,bj N]at x;refine bd j [49,-54] a ?_ (g.az (e+1) a ?_ ?_ ?_ ?_)
      .simp only[U,K,av,a8,bS.l,gm,bw,ba,a9];exact QG
      .rw[x];simp
      .rw[x];simp
      .grind
      omega
     |false=>
      rw[fg,bl N]at x;refine bd j [49,54] a ?_ (g.az (e+1) a ?_ ?_ ?_ ?_)
      .simp only[U,K,av,a8,show tc.bytes=16 from a,bS.l,gm,bw,ba,a9];exact QG
      .exact Rl
      .exact Rl
      .grind
      omega
    rw[fg,bj N]at x;refine bd j [-49] a bF (g.az (e+1) a ?_ ?_ ?_ ?_)
    .rw[x];simp
    .rw[x];simp
    .grind
    omega
   have J:e=c (cn i.2):=w;refine bO [-40] a bv (g.aA ?_);refine cA a bF (g.az (b+1) a ?_ ?_ ?_ ?_)
   .rw[u,J,c8];simp
   .rw[u,J,c8];simp
   .grind
   omega
  .obtain rfl:b=c o:=w;rw[c8];refine bO [-32] a D (g.aA ?_)
   refine cA a B (g.aJ [0,1] a ?_ qs);simp[ga,eX])
abbrev ad8(a:cb×Bool):y:=.T [.agg [.c (.int .i64 a.1.1),.c (.B v 2 (c a.1.2) (bH.fn a.1.2))],.R (.c (.bool a.2))]
def gI(b:Int)(a:bA):c1:=(d8 b a,fT a)
def tw(a d:Int)(b:m bA):cb:=(a,ma (b.map (gI d)))
def l7(a d:Int)(b:m bA):cb×Bool:=if il d (tw a d b)=l then(tw a d b,l)else((0,[]),v)
theorem zk:∀b a,c (b.foldl hQ a)=c a+c b
 |[],a=>by simp
 |d::b,a=>by rw[iT,zk b,Me,fs];omega
def NY:∀d{b:m c1}{e:Nat},gz b->e<c b->gz (je d b e)
 |0,_,_,a,_=>a
 |d+1,b,e,a,g=>by
  rw[je];split
  .exact a
  split
  .exact NY d (tT a w g) pR
  grind
theorem abs{d}{a}(e:gz d)(i:a8 .i64 a.1/\c a.2<=9223372036854775807):gz (hQ d a):=by
 refine NY _ (λh g=>?_) D;rcases fG.1 g with b|b
 .exact e h b
 grind
def abj{d}(a:gz d)(b:0<c d):gz (hl d):=
 Cw _ _ (tT a b w) pR pR
theorem K'{a}(b:cC a=l):a8 .i64 (gI h a).1/\(gI h a).2.length<=9223372036854775807:=by
 have d:=b;simp only[cC,cm,bw]at d;have e:=rv (gn a*(2*h+1)+h*7919) (show(999999999989:Int)≠0 by decide);have g:=ro (gn a*(2*h+1)+h*7919) (show(0:Int)<999999999989 by decide);refine⟨?_,?_⟩
 .show a8 .i64 (d8 h a);simp only[a8,d8];omega
 show c (fT a)<=_;unfold fT fk;grind
def KH(h)(a:m bA)(g:∀d∈a,cC d=l):gz ((a.map (gI h)).foldl hQ []):=by
 have:∀(b:m bA) e,(∀d∈b,cC d=l)->gz e->gz ((b.map (gI h)).foldl hQ e):=by
  intro b;induction b with
  |nil=>grind
  |cons d j i=>grind[abs,K']
 exact this a [] g (by simp[gz])
abbrev L6(e d:an×X)(g:Nat)(a:fy)(b:m c1):m ar:=iu e d++[.cells 86 [.c (.int .i64 0),.c (.B l 0 0 λ_=>[])],iD g a (c b),aM a (c b) b]
abbrev D'(b:Int)(a:m c1):m ar:=[.cells 86 [.c (.int .i64 b),.x 6 2 (c a) (bH.fn a)],.x 121 2 (c a) (bH.fn a)]
def Jy(s r:an×X)(bN h)(Z)(H:a8 .i64 bN)(bY:ce h=l)(K:∀t∈Z,cC t=l)(aw:c Z<=4):
  Y q 178 [R bN,R h,bS.B Z] (iu s r) (ad8 (l7 bN h Z)) (iu s r):=by
 refine Y.bh bb func178 rfl rfl rfl λav=>?_;refine bO [902] a B (g.jF 8 3 121 2 a a λp ak=>?_);refine cA a B (g.dH 5 [0,1,6,8,14,15] (λi:Nat×fy=>i.1<=c Z) (λi=>[(16,R i.1)]) (λi=>L6 s r p i.2 (((Z.take i.1).map (gI h)).foldl hQ [])) (λi=>c Z-i.1) (0,.nil ak) a D a ?_ a w ?_)
 .simp[gG]
 rintro⟨e,bQ⟩ J;simp only at J;by_cases o:e<c Z
 .have G:Z.getD (e:Int).toNat bS.E=Z.getD e []:=N;have ab:cC (Z.getD e [])=l:=K _ N;have L:((Z.take (e+1)).map (gI h)).foldl hQ []=hQ (((Z.take e).map (gI h)).foldl hQ []) (gI h (Z.getD e [])):=ir;have ao:c (((Z.take e).map (gI h)).foldl hQ [])=e:=by grind[zk]
  have I:=KH h (Z.take e) λt S=>K t (g4 S);generalize Z.getD e []=t at *;generalize((Z.take e).map (gI h)).foldl hQ []=d at *;refine bd (.cons zO .nil:a' q [(221,lN)]) [17] a bv ?_;rw[G];refine g.aB (CK s r h t bY ab) [0,1] a (cU (.cons zO .nil:a' q [(221,lN)]) a B (g.a2 (VY p bQ I w (E:=gI h t) (K' ab)) [3,4] a bn λQ=>?_));have aa:=Me d (gI h t);refine cA a bF (g.az (e+1,Q) a D du N ?_);grind
 obtain rfl:e=c Z:=w;rw[c8];refine bO [-17] a D (g.aA ?_);have au:c ((Z.map (gI h)).foldl hQ [])<=4:=by grind[zk]
 have I:=KH h Z K;have af:ma (Z.map (gI h))=[]++kZ (c ((Z.map (gI h)).foldl hQ [])) ((Z.map (gI h)).foldl hQ []):=by rw[ma,zk,p_,gQ,cV]
 refine cA a B (g.cn 5 1 121 2 (bH.fn []) a a ?_);refine g.dH 7 [1,6,8,11] (λi:m c1×fy×m c1=>gz i.1/\c i.1+c i.2.2<=4/\ma (Z.map (gI h))=i.2.2++kZ (c i.1) i.1) (λi=>[]) (λi=>L6 s r p i.2.1 i.1++D' bN i.2.2) (λi=>c i.1) ((Z.map (gI h)).foldl hQ [],bQ,[]) a D a D a ⟨I,by grind,af⟩ ?_;rintro⟨o,bQ,b⟩ ⟨O,ag,A⟩;simp only at O ag A;refine cA a B (g.aL (a1.dW a a) a a ?_);refine g.R (aT.eF bb 3 a a a a a (tP bQ _) a) a ?_;refine g.aB (CD bQ (c o) o) [4] a ?_;by_cases aj:c o=0
 .rw[aj,kZ,hU]at A;subst A;refine bO [-37] a du (g.aA ?_);have T:a' q [(170,BU)]:=.cons Nu .nil;have ar:c (ma (Z.map (gI h)))<=4:=w;cases ae:il h (tw bN h Z)with
  |false=>
   have x:il h (bN,ma (Z.map (gI h)))=v:=ae;have F:l7 bN h Z=((0,[]),v):=by unfold l7;grind
   rw[F];refine bd T [50] a RP (g.cc () [0,1] ?_ qs);simp
  |true=>
   have x:il h (bN,ma (Z.map (gI h)))=l:=ae;have F:l7 bN h Z=(tw bN h Z,l):=by unfold l7;grind
   rw[F];refine bd T [-50] a RP (g.cc () [0,1] ?_ qs);simp[tw]
 obtain⟨j,z⟩:∃j,c o=j+1:=⟨c o-1,by omega⟩
 refine bO [37,909] a bv (g.iN (Kp (e:=4) (j:=c o) (bQ:=bQ) (d:=o) a w) λP=>?_);obtain⟨u,k,rfl,V⟩:=P;rw[z]at V;have S:=VX (q:=q) p u k O z w V;have ah:=abj O w;have aa:c ((hl o).take j)=j:=by grind[L8]
 have aP:ma (Z.map (gI h))=(b++[(hl o).getD j (0,[])])++kZ j ((hl o).take j):=by rw[A,z,kZ,bj w,z];simp
 have aq:gz ((hl o).take j):=λE C=>ah E (g4 C);show g q _ _ _ _ _ (iu s r++[.cells 86 [.c (.int .i64 0),.c (.B l 0 0 λ_=>[])],iD p (.row u k) (c o),aM (.row u k) (c o) o]++D' bN b);rw[z];generalize(hl o).getD j (0,[])=E at *;generalize(hl o).take j=W at *;refine g.eI (ι:=Unit) b6 4 7 10 (λh=>ay h 3) (λh=>([aI 5 1,.n (.R (.x 6 2 (c b) (bH.fn b))),hg (.pointer (f ⟨p,0,n⟩)),sX p]:m y).getD h .any) (λ_ h=>([.any,.any,.any,.any,sW E,x5 E,ax (.B l 2 1 λe=>([[.int .i64 E.1,.S E.2]]:m (m M)).getD e [])]:m y).getD h .any)
  (λ_=>iu s r++[.cells 86 [.c (.int .i64 0),.c (.B l 0 0 λ_=>[])],iD p (.row u k) j,aM (.row u k) j W]++D' bN b)
  rfl rfl rfl rfl rfl rfl rfl (λh o=>by have:=fA o;omega) rfl
  ⟨aT.w,aT.w,aT.w,aT.w,B,B,B,B,B,B,B⟩
  (λ_=>⟨aT.w,aT.w,aT.w,aT.w,B,aT.aZ (j5 a) (a1.f_ (ai:=[.int .i64 E.1,.S E.2]) bb a a a a),aT.w,B⟩)
  (dX.ec S.tocI [3,4] a a a a a a a bn a bn) λ_=>?_
 have C:=bH.aW b E;refine cA a ?_ (g.az (W,.row u k,b++[E]) a ?_ ?_ ?_ ?_)
 .simp only[U,show mH.bytes=24 from a,ba];omega
 .simp
 .simp only[aa,U.Y,U,dm,fs,gQ,ba,a9];and_intros<;>first|exact bs.same|exact C|rfl
 .grind
 grind
abbrev aef(a:ej):y:=.T [.agg [.c (.int .i64 a.1),.c (.B v 2 (c a.2) (cw.fn a.2))],.R (.c (.bool l))]
abbrev M3(e d:an×X)(b:Int)(a:m m_):m ar:=iu e d++[.cells 90 [.c (.int .i64 0),.c (.B l 0 0 λ_=>[])],.cells 90 [.c (.int .i64 b),.x 4 2 (c a) (cw.fn a)],.x 123 2 (c a) (cw.fn a)]
abbrev acJ(b:cN)(a:m Int):m ar:=[.cells 51 [.c (.S b.1),.c (.S b.2)],.cells 123 [.c (.S b.1),.x 7 1 (c a) (az.fn a)],.x 3 1 (c a) (az.fn a)]
def Yl(C p)(bN h)(o)(ah:1<=bN/\bN<=99)(r:ce h=l)(x:dO o=l):
  Y q 179 [R bN,R h,bu.B o] (iu C p) (aef (fM bN h o)) (iu C p):=by
 refine Y.bh bb func179 rfl rfl rfl λae=>?_;have G:a' q [(56,dc c7 (λh=>bg (ce h)) λ_=>[]),(59,rB)]:=.cons t56 (.cons wn .nil);refine bd G [-15,-19,-24,-29] a ?_ ?_
 .simp only[U,r,bu.l,sf,x,dr];and_intros<;>first|exact bu.U _|rfl|omega
 refine g.cn 3 1 123 2 (cw.fn []) a a ?_;refine g.dH 5 [1,6,8,33,34] (λb=>b<=c o) (λb:Nat=>[(35,R b)]) (λb=>M3 C p bN (oB h (o.take b))) (λb=>c o-b) 0 a D a D a w ?_;intro b K;by_cases ag:b<c o
 .have Z:o.getD (b:Int).toNat bu.E=o.getD b ([],[]):=N;have z:o.getD b ([],[])∈o:=N;have E:=oR x;have I:=E.fl _ z;have ab:=NQ x _ z;have y:=E.len;have T:=vZ I.1;have aa:=vY (o.getD b ([],[])).2;have A:oB h (o.take (b+1))=oB h (o.take b)++[kV h (o.getD b ([],[]))]:=ir;have Q:c (oB h (o.take b))=b:=N;generalize o.getD b ([],[])=d at *;generalize oB h (o.take b)=i at *;have X:lf d.2=cn d.2:=by unfold lf;grind
  have u:a' q [(195,dc eL (λV=>bS.B (lf V)) λ_=>[])]:=.cons EW .nil;refine bd u [36] a bv ?_;rw[Z,X];refine g.cn 6 1 3 1 (az.fn []) a a ?_;refine g.dH 8 [1,6,8,10,11,33,34,35,44,45] (λe=>e<=c (cn d.2)) (λe:Nat=>[(46,R e)]) (λe=>M3 C p bN i++acJ d (kv h ((cn d.2).take e))) (λe=>c (cn d.2)-e) 0 a D a D a w ?_;intro e L;by_cases af:e<c (cn d.2)
  .have j:(cn d.2).getD (e:Int).toNat bS.E=(cn d.2).getD e []:=N;have S:cC ((cn d.2).getD e [])=l:=T _ N;have O:kv h ((cn d.2).take (e+1))=kv h ((cn d.2).take e)++[d8 h ((cn d.2).getD e [])]:=ir;have H:c (kv h ((cn d.2).take e))=e:=N;generalize(cn d.2).getD e []=s at *;generalize kv h ((cn d.2).take e)=k at *;have t:=az.aW k (d8 h s);refine bO [47,911] a bv ?_
   rw[j];refine g.gf b6 [aI 6 1,.n (.R (.x 7 1 (c k) (az.fn k))),R h,b2 s,R (d8 h s),ax (.B l 1 1 λb=>([[.int .i64 (d8 h s)]]:m (m M)).getD b [])] 6 a a a a a ⟨aT.w,aT.w,aT.w,aT.w,
    aT.dO (dX.ec (CK C p h s r S).tocI [0,1] a a a a a a a bn a bn),aT.w,B⟩ ?_
   refine cA a ?_ (g.az (e+1) a ?_ ?_ ?_ ?_)
   .simp only[U,a8,show dZ.bytes=8 from a,ba,a9];exact fE
   .simp
   .simp only[O,U.Y,U,dm,fs,gQ,ba,a9];and_intros<;>first|exact bs.same|exactλ_ _=>rfl|exact t|rfl|omega
   .grind
   omega
  have W:e=c (cn d.2):=w;rw[W,c8];have t:=cw.aW i (kV h d);have F:c i+1=c (i++[kV h d]):=D;have J:cw.a8 (kV h d)=[M.S d.1,M.B v 1 (c (kv h (cn d.2))) (az.fn (kv h (cn d.2)))]:=rfl;rw[J,<-A]at t;rw[<-A]at F;refine bO [-47] a D (g.aA ?_);refine cA a Pr (g.az (b+1) a D ?_ ?_ ?_)
  .simp only[U.Y,U,ba,a9];and_intros<;>first|exact bs.same|exact t|exact F|rfl
  .grind
  omega
 obtain rfl:b=c o:=w;rw[c8];refine bO [-36] a D (g.aA ?_);refine cA a B (g.cc () [0,1] ?_ qs);simp[fM]
end
section
variable {q:af S}[q.bZ]
abbrev Gl(b:Nat):={a:m cN×Nat // dO a.1=l/\b<=a.2/\a.2<=b+400}
end
section
variable {q:af S}
set_option maxRecDepth 20000 in
def Xx(A)(b:Nat->Int)(j:Bytes b)(e:Nat)(h:e<=4000000)(i:A<=1048576)(d)(o:1<=c d/\c d<=1000):
  Y q 76 [aI 0 0,bS.B d] [e7 A b e] (b2 (d.getD (qO A b e (c d)).toNat [])) [e7 A b (e+1)]:=by refine Y.I func76 rfl λk=>?_;refine aR a B (g.aB (JB A b j e (c d) h i w) [0] a ?_);have m:=LW A b e (c d) w;exact aR a bK (g.aJ [0] a oV kR)
end
end R1
def bm.die{E:af P}{I}{args}{W h}{F:Nat->m M}{p}{q:ι->Nat->m M}{S:ι->Nat}(J:bm E I args [.q W h j F] (λ_=>cE 0 p) (λA=>[.q W h (S A) (q A)])):Y E I args [.q W h j F] (cE 0 p) [.N]:=
 ⟨J.1,λT z y w Q o u=>J.2 T z y w Q o λA r K i x d g b=>u r K i x (by
  obtain⟨D,e,_,_⟩:cB _ _ _ (.O 0 p):=d;exact(⟨D,e,by simp,λ_ _ _ _ R=>by grind⟩:cB [.N] i K (.O 0 p))) g.d_
  ⟨b.size,b.a4,b.mem,b.bz,b.bR,λC N L aM t=>by
   obtain⟨O,k,e,s,U⟩:=b.box C N L aM t;cases C with
   |zero=>simp at aM;subst aM;exact⟨.N,k,a,s,B⟩
   |succ C=>grind,b.os,b.tape,b.output,b.own⟩⟩
namespace R1
variable {q:af S}
def Jf(b):Y q 71 [Cq b] [] (bg (hE b)) []:=by
 refine Y.I func71 rfl λi=>?_;have d:a' q []:=.nil;unfold hE;by_cases e:b.1=1
 .by_cases jR:1<=b.2
  .exact a_ d [6,11,16] a bv (g.aw a du)
  exact a_ d [6,11,-16] a bv (g.aw a uk)
 by_cases h:b.1=2
 .by_cases jR:1<=b.2
  .exact a_ d [-6,11,16] a bv (g.aw a du)
  exact a_ d [-6,11,-16] a bv (g.aw a uk)
 exact a_ d [-6,-11,-16] a bv (g.aw a bv)
def W8(b):Y q 70 [Cq b] [] (bg (!hE b)) []:=by refine Y.I func70 rfl λe=>?_;have d:a' q [(71,dc sx (λb=>bg (hE b)) λ_=>[])]:=.cons (.a9 λb _=>Jf b) .nil;exact b9 d a B (g.aw a)
def aal(d):gH d=(decide (c d<=9)&&!d.any λa=>!hE a):=by
 have:(aA (c d)).all (λb=>hE (d.getD b (0,0)))=!d.any λa=>!hE a:=by rw[o6,gf,jl,List.any_eq_false];grind[List.mem_iff_getElem]
 rw[gH,this,Bool.and_comm]
def W9(d):Y q 41 [a3.B d] [] (bg (gH d)) []:=by
 refine Y.I func41 rfl λi=>?_;have e:=VO (q:=q) d 70 (λt=>!hE t) λh _=>W8 h;have b:a' q [(69,dS [a3.B d,ax (.fn (.func 70) [] [])] (bg (d.any λt=>!hE t)))]:=.cons (d9 e) .nil;rw[aal];by_cases t:c d<=9
 .exact a_ b [6] a ⟨a,fa w⟩ (g.aw a gM)
 exact a_ b [-6] a bK (g.aw a bv)
def tV:bL q 41 od:=.a9 λa _=>W9 a
def XD(d)(k:c d.2<=4000000):Y q 57 [fR d] [] (az.B (d.2.map (·.1))) []:=by
 refine Y.I func57 rfl λm=>?_;refine a4 [902] a B (g.bG 3 3 1 a a ?_);refine aR a B (g.aH 2 (λb=>b<=c d.2) (λb:Nat=>[(1,aI 0 0),(3,.n (.R (.x 1 1 b (az.fn ((d.2.take b).map (·.1)))))),(7,bH.B d.2),(8,R (c d.2)),(9,R b)]) (λb=>[xJ d,.x 3 1 b (az.fn ((d.2.take b).map (·.1)))]) (λb=>c d.2-b) 0 a D a D a w ?_);intro b j;by_cases h:b<c d.2
 .have i:d.2.getD (b:Int).toNat bH.E=ec d b:=N;have x:(d.2.take (b+1)).map (·.1)=(d.2.take b).map (·.1)++[(ec d b).1]:=ir;have e:c ((d.2.take b).map (·.1))=b:=N;have ak:=az.aW ((d.2.take b).map (·.1)) (ec d b).1;rw[e]at ak;refine a4 [10] a ?_ (g.az (b+1) a ?_ ?_ h w)
  .simp only[U,a8,show dZ.bytes=8 from a];grind
  .exact P3
  exact P3
 obtain rfl:b=c d.2:=w;rw[c8];refine a4 [-10] a D (g.aA ?_);exact ue
abbrev HS:bI:=dc (jJ bH) (λa=>az.B (a.2.map (·.1))) λa=>[c a.2<=4000000]
def ad':bL q 57 HS:=.a9 λb a=>XD b a
def aaI(Z)(e):c (ck (Z.take e))<=c (ck Z):=by have:ck Z=ck (Z.take e)++ck (Z.drop e):=So;grind
abbrev abZ(a:m Int):y:=cE 0 (.B (c a) 1 0 (c a))
def Jw(Z)(p:∀i∈Z,c i.2<=4000000)(y:c (ck Z)<=4000000):Y q 27 [a2.B Z] [] (abZ (ck Z)) [jo (c (ck Z)) (ck Z)]:=by
 refine Y.I func27 rfl λr=>?_;have u:=r.B 0 a;have d:a' q [(57,HS)]:=.cons ad' .nil;refine a_ d [902] a B (g.e' 3 3 1 (az.fn []) a ?_);refine b9 d a B (g.aH 1 (λb=>b<=c Z) (λb:Nat=>[(3,cE 0 (.B (c (ck (Z.take b))) 1 0 (c (ck (Z.take b))))),(6,a2.B Z),(7,R (c Z)),(8,R b)]) (λb=>[jo (c (ck (Z.take b))) (ck (Z.take b))]) (λb=>c Z-b) 0 a Fw a (by simp[bs,ck]) a w ?_);intro b o;by_cases h:b<c Z
 .have C:Z.getD (b:Int).toNat a2.E=Z.getD b (0,[]):=N;have e:=Lg h;have j:=aaI Z (b+1);have x:=p _ (ov (O:=(0,[])) h);generalize Z.getD b (0,[])=i at *;rw[e]at j;generalize ck (Z.take b)=k at *;have m:=az.g6 k (i.2.map (·.1)) _ a;simp only[dm,kK]at j m;refine a_ d [9] a ?_ (g.az (b+1) a ?_ ?_ h w)
  .simp only[U,C,a8,bH.l,bH.U,kK,show dZ.bytes=8 from a];grind
  .rw[e];simp only[U.Y,U,C,bH.l,dm,kK,ba,a9];and_intros<;>first|exact bs.same|rfl|omega
  rw[e];simp only[U.Y,U,C,bH.l,dm,kK,ba,a9];grind
 obtain rfl:b=c Z:=w;rw[c8];refine a_ d [-9] a D (g.aA ?_);refine b9 d a B (g.aJ [0] a ?_ (λt s=>absurd s D));simp
def Jx(Z)(b:∀e∈Z,c e.2<=4000000)(d:c (ck Z)<=4000000):Y q 27 [a2.B Z] [] (az.B (ck Z)) []:=
 Y.bK (aX:=[]) (W:=3) (h:=1) (j:=c (ck Z)) (V:=az.fn (ck Z)) (Jw Z b d) a D a (bC _)
end R1
namespace R1
section
variable {q:af S}
def JJ(b):Y q 26 [bX b] [] (bX b) []:=by refine Y.bE func26 rfl rfl rfl λe=>?_;refine aR a D ?_;refine g.freeze 2 1 a a a ?_;exact g.cb bb [] a D a a a (λh d=>absurd d D)
abbrev BY:bI:=dc oa (λa=>bX a) λ_=>[]
def Ny:bL q 26 BY:=.a9 λa _=>JJ a
abbrev zB(a:cc):ar:=.cells 72 [.c (.B v 2 (c a.1) (a2.fn a.1)),.c (.B v 2 (c a.2.1) (bh.fn a.2.1)),.c (.B v 2 (c a.2.2) (a3.fn a.2.2))]
structure n5(b:cc):Prop extends rj b where
 cr:∀T∈b.1,c T.2<=4000000
 fa:c (ck b.1)<=4000000
def tx(b:Int)(a:cc):Bool:=(aA (c a.1)).all (nS b a.1)&&decide (c a.1<=20)&&decide (ck a.1).Nodup
def XG(h)(b)(bY:ce h=l)(m:n5 b):Y q 129 [bX b,R h] [] (bg (tx h b)) []:=by
 refine Y.I func129 rfl λX=>?_;have y:=m.fM;have S:=m.cr;have T:=Jx (q:=q) b.1 m.cr m.fa;have p:a' q [(170,BU)]:=.cons Nu .nil;refine b9 p a B ?_;unfold tx;refine g.aH 1 (λe=>e<=c b.1/\∀C,C<e->nS h b.1 C=l) (λe:Nat=>[(1,R h),(2,aI 0 0),(9,a2.B b.1),(10,R (c b.1)),(11,R e)]) (λ_=>[zB b]) (λe=>c b.1-e) 0 a D a D a ⟨by omega,by omega⟩ ?_;rintro e ⟨K,u⟩;by_cases t:e<c b.1
 .have bz:b.1.getD e a2.E=b.1.getD e (0,[]):=rfl;have o:b.1.getD (e-1) a2.E=b.1.getD (e-1) (0,[]):=rfl;have x:nS h b.1 e=(il h (b.1.getD e (0,[]))&&ki (·.1) (0,[]) b.1 e):=rfl;have I:=qd (aj:=λs:cb=>s.1) (O:=(0,[])) (d:=b.1) (e:=e);have i:=S _ (ov (O:=(0,[])) t);generalize b.1.getD e (0,[])=s at *;generalize b.1.getD (e-1) (0,[])=z at *;cases r:il h s with
  |false=>
   rw[r,sH]at x;refine a_ p [12,20,35] a ?_ (g.aS (bZ.zero a ?_))
   .simp[-al,bz,bY,i,r,bH.l,bH.U];omega
   rw[lM t x];simp
  |true=>
   rw[r,fX]at x;by_cases J:e=0
   .subst J;refine a_ p [12,-20,-23,-35] a ?_ (g.az 1 a D D ⟨t,jn u bF⟩ w);simp[-al,bz,bY,i,r,bH.l,bH.U,a8];omega
   have I:=I J;by_cases M:z.1<s.1
   .refine a_ p [12,-20,23,-33,-35] a ?_ (g.az (e+1) a D D ⟨t,jn u N⟩ w);exact QS
   refine a_ p [12,-20,23,33,35] a QS (g.aS (bZ.zero a ?_));exact j8
 obtain rfl:e=c b.1:=w;rw[gf.2 u,fX];refine a_ p [-12] a D (g.aA ?_);refine b9 p a B (g.aB (Jw b.1 m.cr m.fa) [] a (b9 p a B (g.aB (CQ (ck b.1) m.fa) [1] a ?_)));have W:=TP (ck b.1);have F:=(I8 (q:=q) (j3 (ck b.1)) (by rw[qU];exact m.fa)).die;rw[qU]at F;have V:=Ik (j3 (ck b.1));rw[qU]at V;have Q:=m.fa;generalize hZ (j3 (ck b.1))=j at *;generalize j3 (ck b.1)=A at *;have hY:a' q [(172,la [dK (c (ck b.1))] [jo (c (ck b.1)) A] (cE 0 (.B (c (ck b.1)) 1 0 (c j))) [.N]),(27,dS [a2.B b.1] (az.B (ck b.1)))]:=.cons (mb F) (.cons (d9 T) .nil);refine a_ hY [909] a B ?_;by_cases aa:c b.1<=20
 rotate_left
 .refine a_ hY [-46] a bK (g.aw a ?_);exact bv
 have E:(c b.1:Int)<=20:=w;generalize Z:ck b.1=k at *;refine g.dh (ι:=Unit) b6 6 (λe=>match ay e 5 with|true=>l|false=>match ad e 8 with|true=>l|false=>ad e 9) (λe=>[aI 0 0,a2.B b.1,R (c b.1),bg (decide ((c b.1:Int)<=20)),bg l,cE 1 (.B (c k) 1 0 (c k)),.any,.any,aI 0 0,a2.B b.1].getD e .any)
  (λ_ e=>[.any,.any,.any,.any,.any,.any,cE 1 (.B (c k) 1 0 (c j)),R (c j),.any,.any,az.B k,R (c k),bg ((c j:Int)==c k),bg ((c j:Int)==c k),bg ((c j:Int)==c k)].getD e .any) (λ_=>[zB b,.N]) a a a a a a ?_ ?_ ?_ ?_
 .exact⟨.w,.w,.w,.w,.eval bb hY (bf:=[46]) a (fa E),.w,B,B,.w,.w,B,B,B,B,B,B⟩
 .intro _;exact⟨.w,.w,.w,.w,.eval bb hY (bf:=[46]) a (fa E),.w,B,.w,.w,.w,.eval bb hY (bf:=[]) a a,.w,.w,.w,.w,B⟩
 .exact .dj (dT bb hY (bf:=[]) (aq:=f [zB b,.N]) a ⟨a,a⟩)
 intro _;refine b9 hY a B (g.aw a ?_);have:((c j:Int)==c k)=decide k.Nodup:=N;exact bF
def iH:m (Int×Int)->M
 |[]=>.bp
 |a::b=>.Q [.int .i64 a.1,.int .i64 a.2,iH b]
abbrev we(a:m (Int×Int)):M:=.B v 2 (c a) (a3.fn a)
def UG(b:m (Int×Int)):Y q 72 [a3.B b] [] (ax (.fn (.func 115) [] [.Q [we b]])) []:=by refine Y.I func72 rfl λd=>?_;refine gv [] 5 a B ?_;refine g.freeze 1 0 a a a ?_;refine aR a B (g.aw a ?_);rfl
def UL(j:m (Int×Int))(x:c j<=4000000){d:Nat}{b:bM}{o:Loop}{r:ar}(k:Nat->ar)(s:r=k (c j))(aM:∀u,k u≠.bk)(e:∀h,h<c j->iP (ι:=Unit) q 1 [R h,.n (.agg [.c (.int .i64 (j.getD h (0,0)).1),.c (.int .i64 (j.getD h (0,0)).2)])] [k (h+1),.loop d b o] l (λ_=>[k h,.loop d b o])):
  bm (ι:=Unit) q 115 [.n (.R (.aP 1)),ax (.Q [we j])] [r,.loop d b o] (λ_=>.T []) (λ_=>[k 0,.loop d b o]):=by
 subst s;refine bm.bN func115 rfl rfl rfl (g.aQ ?_);refine aR a ub ?_;show b4 q _ (.loop _) _ _ _;refine b4.loop (br:=Nat) (λi=>i<=c j) (λi=>[(0,.n (.R (.aP 1))),(1,ax (.Q [we j])),(3,R ((i:Int)-1))]) (λi=>[k i,.loop d b o]) (λi=>i) (c j) (bC _) (eO a D) a ?_;intro i p;rcases i with _|h
 .refine g.aQ ?_;refine a4 [-8] a D (g.fH a a ?_);exact⟨(),.inr a,a,qL (aM 0) (qL D a),[],.T [],[],a,a,a,B⟩
 have t:(((h+1:Nat):Int)-1)=(h:Int):=w;rw[t];refine g.aQ ?_;refine a4 [8] a ?_ ?_
 .simp only[U,bw,ba,a9];omega
 refine g.yield (e h p) a a a a a a λ_=>?_;exact a4 [-18] a Sj ⟨h,by omega,by omega,eO a D,a⟩
def IS{a:m (Int×Int)}(b:e<c a):a.drop e=a.getD e (0,0)::a.drop (e+1):=F_
def Jp(b:m (Int×Int))(i:c b<=4000000):Y q 42 [a3.B b] [] (ax (iH b)) []:=by
 refine(bm.e6 (ι:=Unit) (aq:=λ_=>[]) (res:=λ_=>ax (iH b)) func42 rfl rfl rfl λo=>?_).toY;have e:a' q [(72,dS [a3.B b] (ax (.fn (.func 115) [] [.Q [we b]])))]:=.cons (d9 (UG b)) .nil;refine df.seq (b4.bw (g.aQ ?_));refine b9 e a B (df.seq (b4.bw (g.aQ ?_)));refine b9 e a B (df.seq (df.seq (b4.bw (g.aQ ?_))));refine b9 e a a (df.block ?_);have h:iH (b.drop (c b))=.bp:=by rw[uJ];rfl
 refine df.rangeFunc (o':=fj [.Q [we b]]) (b1.callee a) (UL b i (λd=>.cells 96 [.c (iH (b.drop d))]) (by rw[h];rfl) D ?_) (λd=>⟨a,by simp⟩) λd=>⟨.normal,a,?_⟩
 .intro d bp;refine iP.cG (bq:=λ_=>[.cells 56 [.c (.int .i64 (b.getD d (0,0)).1),.c (.int .i64 (b.getD d (0,0)).2)],.N]) ?_ bn (λ_ u k aM=>?_)
  .rw[IS bp];generalize b.drop (d+1)=j;cases j<;>(
    refine iP.intro (u:=n) a a a a (g.aQ ?_);refine aR a B ?_;refine⟨a,a,g.aQ ?_⟩;refine gv [] 1 a B ?_;refine g.region ?_;refine gv [] 4 a B ?_;refine g.e3 13 3 a a a ?_;refine aR a B ?_;refine⟨a,a,(),jW a ?_⟩;simp[iH])
  .match u,aM with
   |0,aM=>cases aM;exact .inl ⟨_,_,a,a⟩
   |1,aM=>exact .inr (.inl aM)
   |u+2,aM=>simp at aM
 .show df q _ _ _ _ _;refine b4.bw (g.aQ ?_);rw[List.drop_zero];cases b<;>(
   refine aR a B ?_;refine g.ret ⟨(),bZ.zero a ?_⟩;simp[iH])
abbrev adH(a:m (Int×Int))(b:Bool):y:=.T [.R (.c (.B v 2 (c a) (a3.fn a))),.R (.c (.bool b))]
def W7(d)(b)(i:gH d=l)(j:hE b=l)(o:c d<=9):Y q 180 [a3.B d,pc b.1 b.2] [] (adH (if c d=9 then d else d++[b]) (decide (c d≠9))) []:=by
 refine Y.I func180 rfl λm=>?_;have e:a' q [(41,od),(71,dc sx (λh=>bg (hE h)) λ_=>[])]:=.cons tV (.cons (.a9 λh _=>Jf h) .nil);refine a_ e [-9,-14] a ?_ ?_
 .simp only[U,a3.l,i,j,fB,ba,a9];first|exact a3.U _|(and_intros<;>first|rfl|exact a3.U _)
 refine g.aB (I5 d w) [] a ?_;by_cases x:c d=9
 .exact a_ e [19] a oW Pw
 refine a_ e [-19] a ?_ ?_
 .simp only[U,show vx.bytes=16 from a,eW,ba,a9];exact q5
 have k:=a3.aW d b;refine g.fW (dG:=[(4,cE 1 (.B (c d+1) 2 0 (c d+1))),(5,bg l)]) (aq:=[.cells 56 [.c (.int .i64 b.1),.c (.int .i64 b.2)],.q 56 2 (c d+1) (a3.fn (d++[b]))]) ?_ a nX a bF;exact Pw
def WA(d)(e:c d<=4000000):Y q 211 [a2.B d] [] (R (if c d=0 then 0 else(d.getD (c d-1) (0,[])).1)) []:=by
 refine Y.I func211 rfl λh=>?_;by_cases t:c d=0
 .rw[bl t];exact a4 [5] a gM (g.aw a)
 have b:d.getD ((c d:Int)-1).toNat a2.E=d.getD (c d-1) (0,[]):=by rw[show((c d:Int)-1).toNat=c d-1 by omega];rfl
 rw[bj t];refine a4 [-5] a ?_ (g.aw a du);simp only[U,b,a8,eW,ba,a9];exact fE
def kT(a:Int)(d:m (Int×Int)):Int:=d.foldl (λa b=>max a (b.2+1)) a
def Kr(d):∀a b:Int,kT (max a b) d=max a (kT b d):=by
 induction d with
 |nil=>intro a b;rfl
 |cons g e h=>
  intro a b;show kT (max (max a b) (g.2+1)) e=max a (kT (max b (g.2+1)) e);grind
def ZD{A}{d}(a:e<c d):kT A (d.take (e+1))=max (kT A (d.take e)) ((d.getD e (0,0)).2+1):=by unfold kT;grind[iq]
def kB(a:cc):Int:=if c a.2.1=0 then 1 else max 1 ((a.2.1.getD (c a.2.1-1) (0,[])).1+1)
def acU(b):kT (kB b) b.2.2=cR b:=by
 unfold kB cR;have a:kT 1 b.2.2=lY b.2.2:=rfl;split
 .exact a
 rw[show max 1 ((b.2.1.getD (c b.2.1-1) (0,[])).1+1)=max ((b.2.1.getD (c b.2.1-1) (0,[])).1+1) 1 by omega,Kr,a];omega
def Xs(b)(h:dJ b)(O:mi b):Y q 174 [bX b] [] (.T [.R (.c (.int .i64 (dj b))),.R (.c (.int .i64 (cR b)))]) []:=by
 refine Y.I func174 rfl λF=>?_;have s:=h.a0;have I:=h.a1;have Q:=h.aM;have J:1<=kB b/\kB b<=4000001:=by
  unfold kB;split
  .omega
  exact Pq
 apply g.cj [(1,aI 0 0),(4,R (kB b))] [j2 b]
 .intro dy;by_cases e:c b.2.1=0
  .exact bO [-12,905] a du (dy _ _ a (by simp[kB,e]))
  have E:=O.bj _ (mE (show c b.2.1-1<c b.2.1 by omega) (0,[]));have x:b.2.1.getD ((c b.2.1:Int)-1).toNat bh.E=b.2.1.getD (c b.2.1-1) (0,[]):=Sb;refine bO [12] a wE ?_;rw[x];refine g.aL (yU (kB b) a a a (by unfold kB;grind) bF) a a ?_;exact bO [905] a B kD
 refine cA a B (g.aH 1 (λd=>d<=c b.2.2) (λd:Nat=>[(1,aI 0 0),(4,R (kT (kB b) (b.2.2.take d))),(24,a3.B b.2.2),(25,R (c b.2.2)),(26,R d)]) (λd=>[j2 b]) (λd=>c b.2.2-d) 0 a ?_ a ?_ a w ?_)
 .simp[kT]
 .simp
 intro d o;have j:∀d,1<=kT (kB b) (b.2.2.take d)/\kT (kB b) (b.2.2.take d)<=4000001:=λd=>by have k:=tb (b.2.2.take d) λz C=>O.aM z (g4 C);have u:kT 1 (b.2.2.take d)=lY (b.2.2.take d):=rfl;rw[show kB b=max (kB b) 1 by omega,Kr,u];omega
 have k:=j d;have K:=j (d+1);by_cases e:d<c b.2.2
 .have E:=O.aM _ (mE e (0,0));have x:b.2.2.getD (d:Int).toNat a3.E=b.2.2.getD d (0,0):=N;have t:=ZD (A:=kB b) e;refine bO [27] a wE ?_;rw[x];refine g.aL (yU (kT (kB b) (b.2.2.take (d+1))) a a a t.symm m5) a a ?_;refine cA a bF (g.az (d+1) a D ?_ e w);simp
 obtain rfl:d=c b.2.2:=w;rw[c8,acU]at k⊢;have i:dj b=(if c b.1=0 then 0 else(b.1.getD (c b.1-1) (0,[])).1)+1:=by unfold dj;split<;>rfl
 have m:-4000000<=dj b-1/\dj b-1<=4000000:=by
  rw[i];split
  .omega
  exact RO
 have p:=WA (q:=q) b.1 s;have r:=JJ (q:=q) b;rw[i]at m⊢;generalize(if c b.1=0 then 0 else(b.1.getD (c b.1-1) (0,[])).1)=T at *;have y:a' q [(26,dS [bX b] (bX b)),(211,dS [a2.B b.1] (R T))]:=.cons (d9 r) (.cons (d9 p) .nil);refine bO [-27] a D (g.aA ?_);refine cU y a ?_ (g.aw a);exact bF
abbrev qS(a:m bA):M:=.B v 1 (c a) (bS.fn a)
def UW(d):Y q 175 [bS.B d,R 4] [] (ax (.fn (.func 212) [] [.Q [qS d],.Q [.int .i64 4]])) []:=by refine Y.I func175 rfl λb=>?_;refine gv [] 6 a B ?_;refine g.freeze 2 0 a a a ?_;refine g.freeze 3 1 a a a ?_;exact a4 [-6] a D (g.aw a nX)
def gV(b:m bA)(a:Nat):m bA:=(b.drop (4*a)).take 4
def UV(d)(W:c d<=4000000){i}{N0}{iw}{x yS}(A)(T:A<=(c d+3) / 4)(e:Nat->m ar)(u)(Y:∀b,c (e b)=i)(Q:∀b,jX (e b++[.loop N0 iw x])=l)(K:jX (u++[.loop N0 iw yS])=l)(h:∀b,b<A->4*b<c d->iP (ι:=Unit) q i [bS.B (gV d b)] (e b++[.loop N0 iw x]) l (λ_=>e (b+1)++[.loop N0 iw x]))(k:4*A<c d->iP (ι:=Unit) q i [bS.B (gV d A)] (e A++[.loop N0 iw x]) v (λ_=>u++[.loop N0 iw yS])):
  bm (ι:=Unit) q 212 [.n (.R (.aP i)),ax (.Q [qS d]),ax (.Q [.int .i64 4])] (e 0++[.loop N0 iw x]) (λ_=>.T []) (λ_=>if 4*A<c d then u++[.loop N0 iw yS]else e A++[.loop N0 iw x]):=by
 refine bm.bN func212 rfl rfl rfl (g.aQ ?_);refine aR a B ?_;show b4 q _ (.loop _) _ _ _;refine b4.loop (br:=Nat) (λb=>b<=A) (λb=>[(0,.n (.R (.aP i))),(1,ax (.Q [qS d])),(2,ax (.Q [.int .i64 4])),(4,R (4*b:Nat))]) (λb=>e b++[.loop N0 iw x]) (λb=>A-b) 0 (g5 _) ?_ a ?_
 .exact .cons a (eO a D)
 intro b F;refine g.aQ ?_;by_cases o:4*b<c d
 .have C:U (jq (c d) (f ((4*b:Nat):Int)) n):=by simp only[jq,U];omega
  have J:bW (c d) n-bW 0 (f ((4*b:Nat):Int))=c d-4*b:=bF;refine a4 [9,903] a bv ?_;let t:Nat->y:=λp=>([R 4,bS.B d,R (4*b:Nat),ax (.B v 1 (bW (c d) n-bW 0 (f ((4*b:Nat):Int))) (fJ (bW 0 (f ((4*b:Nat):Int))) (bS.fn d))),R (bW (c d) n-bW 0 (f ((4*b:Nat):Int)):Nat),R (min 4 (c d-4*b):Nat),R (min 4 (c d-4*b):Nat)]:m y).getD p .any;refine g.b9 b6 t (kS (λ_ _ _=>e b++[.loop N0 iw x]) 100 101 102) oV oV oV oV ?_ ?_
  .exact⟨.aC,
   .aC,
   .aC,
   bV.bJ a a a (λ_ _ _=>aT.eval (bf:=[]) bb a'.nil a C),
   .aC,
   bV.bJ a a a (λ_ _ _=>aT.aZ (λ_ _ _ _=>jf a) (yX _ a a a N m5)),
   .aC,B⟩
  intro y X;show g q _ _ _ _ _ (e b++[.loop N0 iw x]);have S:(((4*b:Nat):Int)+((min 4 (c d-4*b):Nat):Int))=((4*b+min 4 (c d-4*b):Nat):Int):=w;refine aR a ub (g.aL (a1.jT bb a a a a (j:=c d) (V:=bS.fn d) (eU:=v) (λ_ _ a7=>b8 a7) a a a w w w w) a a ?_);have M:c (gV d b)=min 4 (c d-4*b):=by simp[gV]
  refine fq.le (dG:=[(0,.n (.R (.aP i))),(19,.n (.R (.aP i))),(1,ax (.Q [qS d])),(2,ax (.Q [.int .i64 4])),(4,R (4*b:Nat)),(28,bS.B (gV d b))]) ?_ (.cons a (.cons a (eO a ?_)))
  .have O:(e b++[ar.loop N0 iw x])[i]?=f (.loop N0 iw x):=N;rcases dY b A with z|z
   .refine g.yield (h b z o) a a a (N0:=N0) (iw:=iw) (a7:=x) O a a λ_=>?_;exact a4 [-30] a Sj ⟨b+1,by omega,by omega,.cons a (eO a bv),a⟩
   obtain rfl:b=A:=w;refine g.yield (k o) a a a (N0:=N0) (iw:=iw) (a7:=x) O a a λ_=>?_;exact a4 [30] a D (g.ret ⟨(),.inl a,(bl o).symm,by grind,[],.T [],[],a,a,a,B⟩)
  simp only[U.Y,U,ba,a9];have I:((4*b:Nat):Int).toNat=4*b:=w;have E:(((4*b:Nat):Int)+((min 4 (c d-4*b):Nat):Int)).toNat-((4*b:Nat):Int).toNat=c (gV d b):=N;refine⟨E,λp r=>?_⟩;rw[E]at r;rw[I];show bS.a8 (d.getD (4*b+p) bS.E)=bS.a8 ((gV d b).getD p bS.E);congr 1;simp only[gV,al];grind
 obtain rfl:b=A:=w;refine a4 [-9] a bv (g.fH a a ?_);exact⟨(),.inr a,(bj o).symm,by grind,[],.T [],[],a,a,a,B⟩
def nz(d:Int)(b:cc)(e:m bA)(a:Nat):Bool:=(l7 (dj b+a) d (gV e a)).2&&!(c b.1+a==20)
def mY(b:Nat->Bool):Nat->Nat->Nat
 |0,a=>a
 |d+1,a=>if b a=l then mY b d (a+1)else a
def EM(d:Nat->Bool):∀b a,a<=mY d b a/\mY d b a<=a+b/\(∀e,a<=e->e<mY d b a->d e=l)/\(mY d b a<a+b->d (mY d b a)=v)
 |0,a=>⟨bC _,bC _,λe g h=>absurd g (by simp[mY]at h;omega),λi=>absurd i (by simp[mY])⟩
 |b+1,a=>by obtain⟨g,h,k,j⟩:=EM d b (a+1);rw[mY];grind
def jz(b:Int)(g:cc)(d:m bA)(e:Nat):m cb:=(aA e).map λa:Nat=>(l7 (dj g+a) b (gV d a)).1
theorem DK(h)(b)(d)(j):c (jz h b d j)=j:=by simp[jz]
def aat(h)(b)(d)(j):jz h b d (j+1)=jz h b d j++[(l7 (dj b+(j:Nat)) h (gV d j)).1]:=by simp[jz,List.range_succ]
def LI{b}(a:mi b):-4000000<=dj b/\dj b<=4000001:=by
 unfold dj;split
 .omega
 rename_i d;have:=a.a0 _ (Df d (0,[]));omega
def pD(d:Int)(a:cc)(b:Int)(h:m cN):cc×Option bA:=
 let e:=ga d h (eG a.1);let g:=mY (nz d a e) ((c e+3) / 4) 0
 if g<(c e+3) / 4 then(([],[],[]),f [112,97,99,107,115])
 else if 20<cR a then(([],[],[]),f [115,110,97,112,115,104,111,116,115])
 else if c a.2.2=9 then(([],[],[]),f [104,101,97,100,115])
 else((a.1++jz d a e g,a.2.1++[fM (cR a) d h],a.2.2++[(b,cR a)]),n)
def Ur:Option bA->E1
 |none=>.R (.c .bD)
 |some a=>.R (.c (.cg 182 (.Q [.S a])))
def ND(a:cc×Option bA):y:=.T [.agg [.c (tK a.1.1),.c (tL a.1.2.1),.c (h6 a.1.2.2)],Ur a.2]
abbrev ac9(d:cc)(a:Int)(e:m cN)(b:m bA):bM:=[(2,R a),(3,bu.B e),(4,aI 2 0),(5,aI 3 0),(8,aI 4 0),(9,aI 5 0),(10,aI 9 0),(11,aI 10 0),(12,R (cR d)),(33,ax (.fn (.func 212) [] [.Q [qS b],.Q [.int .i64 4]]))]
abbrev wj(g e:an×X)(i:Int)(b:cc)(h:M)(a:m cb)(d:Int):m ar:=iu g e++[.cells 30 [.c (tK b.1),.c (tL b.2.1),.c (h6 b.2.2)],.cells 3 [.c (.int .i64 i)],.cells 30 [cG,cG,cG],.cells 179 [.c h],
 .q 86 2 (c a) (a2.fn a),.q 90 2 (c b.2.1) (bh.fn b.2.1),.N,.cells 30 [.O 6 (.B (c a) 2 0 (c a)),.O 7 (.B (c b.2.1) 2 0 (c b.2.1)),.c (h6 b.2.2)],.cells 3 [.c (.int .i64 d)]]
def Nj{s i}{b}{m k}{Z d}{bN a}{o g}(e)(j)(aM:(wj s i h b m Z bN++[.loop F J o])[e]?=f j):AA 12 (wj s i h b k d a++[.loop F J g]) e j:=by
 rcases e with _|_|_|_|_|_|_|_|_|_|_|_|e<;>first
  |(cases aM;exact .inl ⟨_,_,rfl,rfl⟩)
  |(cases aM;exact .inr (.inr (.inl ⟨_,_,_,_,rfl,rfl⟩)))
  |(cases aM;exact .inr (.inr (.inr ⟨by grind,by grind⟩)))
  |simp_all
def X6(s i)(h)(b)(e)(o)(bY:ce h=l)(x:dJ b)(dN:mi b)(C:dO o=l)(P:c (dF b.1)<=100000)(G:kX (eG b.1) (c (eG b.1))=l)(Z:gH b.2.2=l)(aK:e=1∨e=2)(ah:1<=cR b):
  Y q 139 [bX b,R h,R e,bu.B o] (iu s i) (ND (pD h b e o)) (iu s i):=by
 obtain⟨O,p⟩:∃O,O=pD h b e o:=⟨_,rfl⟩;rw[<-p];unfold pD at p;simp only at p;refine(bm.jf (ι:=Unit) (aq:=λ_=>iu s i) (res:=λ_=>ND O) func139 rfl rfl rfl ?_).toY
 refine df.seq (b4.bw (g.aQ ?_));refine aR a B (df.seq (b4.bw (g.aQ ?_)));refine aR a B (g.aB (JN b x.a0 x.bn x.a1 x.bt x.aM) [] a (aR a B (df.seq (b4.bw (g.aQ ?_)))));refine g.bL 8 a a a D (by simp;exact⟨B,B⟩) (aR a B (g.aB (Xs b x dN) [] a (aR a B (df.seq (df.seq (b4.bw (g.aQ ?_)))))));generalize ak:eG b.1=d at *;have ab:a' q [(177,dS [a2.B b.1] (a3.B d)),(175,dS [bS.B (ga h o d),R 4] (ax (.fn (.func 212) [] [.Q [qS (ga h o d)],.Q [.int .i64 4]])))]:=.cons (d9 (ak▸Wh b.1 x.a0 P)) (.cons (d9 (UW _)) .nil);have aF:c d<=4000000:=by grind[KD]
 refine g.gf b6 [R h,bu.B o,aI 2 0,a2.B b.1,a3.B d,bS.B (ga h o d),ax (.fn (.func 212) [] [.Q [qS (ga h o d)],.Q [.int .i64 4]])] 12 rfl rfl rfl rfl rfl ⟨aT.w,aT.w,aT.w,aT.w,
  aT.eval (bf:=[]) bb ab a a,aT.dO (dX.ec (Yk s i h o d bY C G aF).tocI [0,1] a a a a a a a bn a bn),aT.eval (bf:=[]) bb ab a a,B⟩ ?_
 refine aR a B (df.block ?_);refine df.bb (ac9 b e o (ga h o d)) (wj s i h b .bD (b.1++jz h b (ga h o d) 0) (dj b+(0:Nat))) a D a ?_ ?_
 .simp[jz];exact⟨a,λaC _=>rfl⟩
 have ae:∀A∈ga h o d,cC A=l:=(qT (oR C)).1;have ag:c (ga h o d)<=4000000:=fY (qT (oR C)).2 b';generalize ga h o d=j at *;obtain⟨au,av,I,ar⟩:=EM (nz h b j) ((c j+3) / 4) 0;have aJ:=x.a0;generalize V:mY (nz h b j) ((c j+3) / 4) 0=k at *;refine df.jM (o':=fj [.Q [qS j],.Q [.int .i64 4]]) (b1.callee a)
  (UV (yS:=?afu) j ag k w (λu=>wj s i h b .bD (b.1++jz h b j u) (dj b+(u:Nat))) (wj s i h b (.cg 182 (.Q [.S [112,97,99,107,115]])) (b.1++jz h b j k) (dj b+(k:Nat))) (λu=>rfl) (λu=>rfl) a (λu J L=>?ZI) λaH=>?ZJ) λaC=>?bY
 case ZJ=>
  have Q:=ar w;have S:=Jy (q:=q) s i (dj b+(k:Nat)) h (gV j k) Ow bY (λA F=>ae A (p4 (g4 F))) (by simp[gV];omega);have af:=DK h b j k;generalize an:l7 (dj b+(k:Nat)) h (gV j k)=r at *;refine iP.cG (bq:=λ_=>[.cells 86 [.c (.int .i64 r.1.1),.c (.B v 2 (c r.1.2) (bH.fn r.1.2))],.N]) (iP.intro (u:=f .ret) a a a a (g.aQ ?_)) ?_ ?_
  .refine aR a B ⟨a,a,g.aQ ?_⟩;refine aR a B (g.aB S [0,1] a ?_);have aa:c (b.1++jz h b j k)=c b.1+k:=N;have E:r.2=l->c b.1+k=20:=λaw=>by simpa[nz,an,aw]using Q
   cases y:r.2 with
   |false=>
    refine a4 [44,49,907] a (by simp[y]) (g.region ?_);refine gv [] 3 a B (g.e3 52 13 a a a ?_);refine aR a B (g.ret ?_);refine⟨a,a,(),jW a ?_⟩;simp[U.Y,U,ba,a9];and_intros<;>first|exact bs.same|exact bs.nil|rfl
   |true=>
    have:=E y;refine a4 [-44,49,907] a bF (g.region ?_);refine gv [] 3 a B (g.e3 52 13 a a a ?_);refine aR a B (g.ret ?_);refine⟨a,a,(),jW a ?_⟩;simp
  .exact λ_=>rfl
  exactλ_=>Nj
 case ZI=>
  have aE:=I u (g5 _) J;have S:=Jy (q:=q) s i (dj b+(u:Nat)) h (gV j u) Ow bY (λA F=>ae A (p4 (g4 F))) (by simp[gV];omega);have af:=DK h b j u;have W:=aat h b j u;obtain⟨ao,aD⟩:(l7 (dj b+(u:Nat)) h (gV j u)).2=l/\¬(c b.1)+u=20:=by simpa[nz]using aE
  generalize l7 (dj b+(u:Nat)) h (gV j u)=r at *;have aa:c (b.1++jz h b j u)=c b.1+u:=N;have ai:b.1++jz h b j (u+1)=(b.1++jz h b j u)++[r.1]:=N;generalize b.1++jz h b j u=m at *;refine iP.cG (bq:=λ_=>[.cells 86 [.c (.int .i64 r.1.1),.c (.B v 2 (c r.1.2) (bH.fn r.1.2))]]) (iP.intro (u:=n) a a a a (g.aQ ?_)) ?_ ?_
  .refine aR a B ⟨a,a,g.aQ ?_⟩;refine aR a B (g.aB S [0,1] a ?_);have mj:=a2.aW m r.1;have aB:=LI dN;refine a4 [-44,-49] a ?_ ?_
   .simp only[U,a8,ao,show nD.bytes=32 from a,aa,eW,ea,fB,ba,a9];omega
   refine⟨a,a,(),jW a ?_⟩;have aP:c (m++[r.1])=c m+1:=D;have H:dj b+(u:Int)+1=dj b+((u+1:Nat):Int):=w;rw[ai,aP,<-H];simp only[U.Y,U,ba,a9];exact QY
  .exact λ_=>rfl
  exactλ_=>Nj
 case bY=>
  by_cases L:4*k<c j
  .rw[bl L];refine⟨_,a,by simp,.ret,a,?_⟩;rw[bl (show k<(c j+3) / 4 by omega)]at p;subst p;simp only[uZ,wo];refine .freeze 8 4 a a a (.freeze 9 5 a a a (.of ⟨(),k9.cells bb [0,1] a ?_ a a a qs⟩));simp
  rw[bj L];refine⟨_,a,by simp,.normal,a,?_⟩;rw[bj (show¬k<(c j+3) / 4 by omega)]at p;show df q _ _ _ _ _;refine b4.bw (g.aQ ?_);by_cases E:20<cR b
  .rw[bl E]at p;subst p;refine a4 [63,911] a bv (g.region ?_);refine gv [] 3 a B (g.e3 66 13 a a a ?_);exact P_
  rw[bj E]at p;have aj:c b.2.2<=9:=by simp only[gH,cm,bw]at Z;omega
  refine a4 [-63] a bv (g.aB (Yl s i (cR b) h o ⟨ah,by omega⟩ bY C) [0,1] a ?_);have mj:=bh.aW b.2.1 (fM (cR b) h o);have aG:=x.a1;refine a4 [914] a ?_ ?_
  .simp only[U,show rS.bytes=32 from a,ba,a9];omega
  refine g.region ?_;refine aR a B (g.aB (W7 b.2.2 (e,cR b) Z (by simp only[hE,cm,bw];omega) aj) [] a ?_);by_cases z:c b.2.2=9
  .rw[bl z]at p;subst p;refine a4 [91,916] a (by simp[z]) (g.region ?_);refine gv [] 3 a B (g.e3 94 14 a a a ?_);exact P_
  rw[bj z]at p;subst p;simp only[bj z];refine a4 [-91,918] a (by simp[z]) ?_;have af:c (b.1++jz h b j k)=c b.1+k:=by grind[DK]
  generalize b.1++jz h b j k=m at *;generalize X:b.2.1++[fM (cR b) h o]=t at *;have M:c t=c b.2.1+1:=N;generalize T:b.2.2++[(e,cR b)]=K at *;refine g.fW (dG:=[(8,aI 4 0),(9,aI 5 0),(10,aI 9 0)]) (aq:=iu s i++[.cells 30 [.c (tK b.1),.c (tL b.2.1),.c (h6 b.2.2)],.cells 3 [.c (.int .i64 h)],.cells 30 [cG,cG,cG],.cells 179 [.c .bD],.q 86 2 (c m) (a2.fn m),.q 90 2 (c t) (bh.fn t),.N,.cells 30 [.O 6 (.B (c m) 2 0 (c m)),.O 7 (.B (c t) 2 0 (c t)),.c (h6 K)],.cells 3 [.c (.int .i64 (dj b+(k:Nat)))],.N,.bk,.cells 90 [.c (.int .i64 (fM (cR b) h o).1),.c (.B v 2 (fM (cR b) h o).2.length (cw.fn (fM (cR b) h o).2))]]) ?_ a ?_ a ?_
  .refine g.bL 6 a a a D D (g.bL 7 a a a D D (aR a B (g.ret (.freeze 8 4 a a a (.freeze 9 5 a a a (.of ⟨(),k9.cells bb [0,1] a ?_ a a a qs⟩))))));simp[ik]
  .simp
  simp only[U.Y,U,M,ba,a9];exact QY
end
structure j'(b:cc):Prop where
 eQ:c b.1<=20
 dM:∀T∈b.1,(1<=T.1/\T.1<=99)/\c T.2<=4
 ey:c b.2.1<=21
 c9:∀E∈b.2.1,(1<=E.1/\E.1<=20)/\c E.2<=6/\∀bD∈E.2,c bD.2<=40
 fX:c b.2.2<=9
 fp:∀t∈b.2.2,1<=t.2/\t.2<=20
def s_{a g:Type}{aj:a->m g}{j}:∀{d:m a},(∀b∈d,c (aj b)<=j)->c (d.flatMap aj)<=j*c d
 |[],_=>by simp
 |b::d,e=>by have k:=e b iB;have o:=s_ (d:=d) λi h=>e i (mo _ h);grind[Nat.mul_succ]
def wq{a:ej}(d:c a.2<=6/\∀b∈a.2,c b.2<=40):c (ed a.2)<=240:=by have:=s_ (aj:=λb:m_=>b.2) (j:=40) d.2;unfold ed;omega
def j'.fQ{b:cc}(a:j' b):n5 b:=by
 have i:=a.eQ;have k:=a.ey;have j:c (ck b.1)<=4*c b.1:=s_ λg d=>by rw[kK];exact(a.dM g d).2
 have m:c (hv b.2.1)<=240*c b.2.1:=s_ λh e=>wq (a.c9 h e).2;refine⟨⟨by omega,λh e=>?_,by omega,by omega⟩,λg d=>?_,by omega⟩
 .have:=(a.c9 h e).2;grind
 have:=(a.dM g d).2;omega
def j'.du{b}(d:j' b):dJ b:=by have a:=d.fQ;have e:=d.fX;exact⟨a.fM,a.cr,a.fe,a.dY,by omega⟩
def j'.dL{b}(e:j' b):mi b:=
 ⟨λd a=>by have:=(e.dM d a).1;omega,λd a=>by have:=(e.c9 d a).1;omega,λd a=>by have:=e.fp d a;omega⟩
def j'.j3{b}(a:j' b):c (dF b.1)<=100000:=by
 have e:=a.eQ;have:c (R1.dF b.1)<=4*c b.1:=s_ λg d=>by rw[kK];exact(a.dM g d).2
 omega
def acG{e}{Z}(j:(ep h e Z).isSome=l):c e.2<=6/\∀b∈e.2,c b.2<=40:=by
 unfold ep at j;split at j
 .rename_i i;simp only[cm]at i;obtain⟨⟨_,o⟩,k⟩:=i;refine⟨?_,λb m=>?_⟩
  .simp only[dO,cm,bw,fu,kK]at k;omega
  have a:=aW.1 o b m;unfold fS at a;split at a
  .cases a
  rename_i p d;split at a
  .cases a
  rename_i r g;have q:c p=c b.2:=by unfold g9 at d;split at d<;>cases d;simp
  unfold iX at g;split at g
  .rename_i i;simp[cm,gR,fU,bw]at i;grind[vY]
  grind
 grind
def iN.gG{b}(a:iN h b):j' b:=by
 have k:c b.2.1<=20:=by have:=xt 1 a.cJ λe d=>(a.a1 e d).1;omega
 have g:=a.df;simp[gH,cm,bw,gf]at g;refine⟨a.len,λT i=>⟨(a.cr T i).c5,(a.cr T i).len.2⟩,by omega,λe d=>⟨(a.a1 e d).1,acG (a.a1 e d).2⟩,g.2,λm j=>?_⟩;have:=(sM (T:=hE) (O:=(0,0))).1 g.1 m j;simp[hE,cm,bw]at this;omega
def ZE{d}(b:∀a∈d,-4000000<=a.2/\a.2<=4000000):1<=lY d:=(tb d b).1
def acD{b}(a:j' b):1<=cR b:=by have:=ZE a.dL.aM;unfold cR;split<;>omega
def aa9{b}(d:j' b):1<=dj b:=by
 unfold dj;split
 .omega
 rename_i a;have:=(d.dM _ (Df a (0,[]))).1;omega
def j'.cM{b}{o}{bU}(i:j' b)(D:c b.2.1<=20)(q:dO o=l)(j:fC h b o=v):j' (eI h b bU o):=by
 simp[fC,xb,dr]at j;obtain⟨w,x,f3,f4⟩:=j;have B:=acD i;have E:=aa9 i;have y:=zV.1 q;unfold eI;refine⟨by grind,λe a=>?_,by grind,λe a=>?_,by grind,λe a=>?_⟩
 .rcases fG.1 a with a|a
  .exact i.dM e a
  obtain⟨k,C,r,g,s,t,u,rfl⟩:=LN h _ _ _ (qT (h:=h) (d:=eG b.1) (oR q)).1 e a;have g:k<dj b+c (ku h b o):=g;exact⟨⟨by show 1<=k;omega,by show k<=99;omega⟩,by grind[aaF]⟩
 .rcases fG.1 a with a|a
  .exact i.c9 e a
  rw[gO]at a;subst a;refine⟨⟨B,by show cR b<=20;omega⟩,by show(o.map _).length<=6;grind,λF A=>?_⟩;obtain⟨m,j,rfl⟩:=hu.1 A;have p:=(y.1 m j).2;simp[fU,cm,bw]at p;have z:=vY m.2;show((cn m.2).map _).length<=40;grind
 rcases fG.1 a with a|a
 .exact i.fp e a
 grind
structure jj(b:cc):Prop extends j' b where
 cH:b.1.Pairwise λT bk=>T.1<bk.1
 cJ:b.2.1.Pairwise λE bD=>E.1<bD.1
 fz:∀t∈b.2.2,1<=t.1/\t.1<=2
def jj.nil:jj ([],[],[]):=⟨⟨by simp,by simp,by simp,by simp,by simp,by simp⟩,by simp,by simp,by simp⟩
def jj.dF{b}(a:jj b):oY b:=⟨a.du,a.cH,a.dL.bj,a.fz⟩
def jj.j0{b}(a:jj b):c b.2.1<=20:=by have:=xt 1 a.cJ λe d=>(a.c9 e d).1;omega
def GY{aj:α->Int}{d}(i:d.Pairwise λa b=>aj a<aj b)(h:c d≠0)(e):∀g∈d,aj g<=aj (d.getD (c d-1) e):=by grind[List.getElem_of_mem,List.pairwise_iff_getElem]
def jj.cM{h}{b}{o}{bU}(d:jj b)(p:dO o=l)(r:1<=bU/\bU<=2)(m:fC h b o=v):jj (eI h b bU o):=by
 refine⟨d.toj'.cM d.j0 p m,?_,?_,λe a=>?_⟩
 .refine nh.2 ⟨d.cH,LK h _ _ _,λe a k g=>?_⟩;have q:e.1<dj b:=by
   unfold dj;split
   .grind
   rename_i i;have:=GY (aj:=λj:cb=>j.1) d.cH i (0,[]) e a;omega
  have:=D9 h _ _ _ k g;omega
 .refine nh.2 ⟨d.cJ,by simp,λe a k g=>?_⟩;rw[gO]at g;subst g;show e.1<cR b;unfold cR;split
  .grind
  rename_i i;have:=GY (aj:=λj:ej=>j.1) d.cJ i (0,[]) e a;omega
 rcases fG.1 a with a|a
 .exact d.fz e a
 grind
def jj.j1{b}(a:jj b)(e:ej->Bool):jj (b.1,b.2.1.filter e,b.2.2):=
 ⟨⟨a.eQ,a.dM,fY (kI _ _) a.ey,λg d=>a.c9 g (jm.1 d).1,a.fX,a.fp⟩,a.cH,a.cJ.filter _,a.fz⟩
def jj.step{b}(a:jj b)(bN)(cy):jj (fo bN cy b.1,b.2):=by
 refine⟨⟨?_,λh d=>?_,a.ey,a.c9,a.fX,a.fp⟩,?_,a.cJ,a.fz⟩
 .have:c (fo bN cy b.1)<=c b.1:=by unfold fo;grind
  exact fY this a.eQ
 .obtain⟨e,s,rfl,_⟩:=Nc d;have:=a.dM e s;grind[DD,yN]
 show (fo bN cy b.1).Pairwise _;unfold fo;refine List.Pairwise.filter _ (rq.2 (a.cH.imp λg=>?_));grind[yN]
structure fQ(j:Nat)(p:dP):Prop where
 bj:jj p.1
 cm:c p.2.1<=j
 de:c p.2.2<=20
def fQ.mono{p}(a:fQ j p)(b:j<=A):fQ A p:=⟨a.bj,fY a.cm b,a.de⟩
abbrev hr:dP:=(([],[],[]),[],[])
def fQ.nil{j}:fQ j hr:=⟨jj.nil,by simp,by simp⟩
def jP(e:Int)(a:cc)(d:m Int):dP×Bool:=
 if h8 e a=l then(((a.1,a.2.1.filter λb=>d.contains b.1,a.2.2),h4 (a.2.1.filter λb=>d.contains b.1),a.1.map (·.1)),l)else(hr,v)
def aer{b}(a:j' b):c (hv b.2.1)<=240*21:=by have g:=a.ey;have h:c (hv b.2.1)<=240*c b.2.1:=s_ λe d=>wq (a.c9 e d).2;omega
def fQ.ic{b}{Dy}(e:jj b):fQ 6000 (jP h b Dy).1:=by
 unfold jP;split
 .have d:=e.j1 λa=>Dy.contains a.1;refine⟨d,?_,by simp only[kK];exact e.eQ⟩;have g:=yT (b.2.1.filter λa=>Dy.contains a.1) _ (bC _);have i:=aer d.toj';grind
 exact fQ.nil
def fQ.step{j}{p}(a:fQ j p):fQ j (h7 p):=by
 unfold h7;split
 .exact a
 rename_i d e b;refine⟨a.bj.step _ _,a.cm,?_⟩;have:=a.de;grind
def l9(d:Int)(b:dP)(a:Int)(e:m cN):dP:=(eI d b.1 a e,(gJ (fM (cR b.1) d e).2).foldl fe b.2.1,b.2.2)
def qG(b:Int)(e:dP)(a:Int)(d:m cN):Bool:=hp b e&&decide (1<=a/\a<=2)&&dO d
def fQ.cM{h}{j}{p}{o}{bU}(a:fQ j p)(g:dO o=l)(b:1<=bU/\bU<=2)(e:fC h p.1 o=v):fQ (j+240) (l9 h p bU o):=by have d:=a.bj.cM g b e;refine⟨d,?_,a.de⟩;have i:=qt p.2.1 (gJ (fM (cR p.1) h o).2);have k:=tt (fM (cR p.1) h o).2;have q:=wq (d.c9 (fM (cR p.1) h o) (by simp[eI])).2;have m:=a.cm;show((gJ _).foldl fe p.2.1).length<=_;omega
def fQ.jY{p}(a:fQ j p):rj p.1:=a.bj.fQ.torj
def e9(b:m (Int×Int)):Int:=b.foldl (λd a=>64*d+21*a.1+a.2) 0
def e6(a:Int×Int)(b:m (Int×Int)):(Int×Int)×Int:=
 if gH b=l/\a.1<=c b/\0<=a.1 then
  if e9 (b.take a.1.toNat)=a.2 then(((c b:Int),e9 b),0)else(a,2)
 else(a,1)
def EP{b:m (Int×Int)}(e:∀d∈b,(1<=d.1/\d.1<=2)/\1<=d.2/\d.2<=20):∀a,0<=e9 (b.take a)/\e9 (b.take a)<((64 ^ a:Nat):Int)
 |0=>by simp[e9]
 |a+1=>by
  have h:=EP e a;by_cases g:a<c b
  .have i:e9 (b.take (a+1))=64*e9 (b.take a)+21*(b.getD a (0,0)).1+(b.getD a (0,0)).2:=by unfold e9;grind[iq]
   grind
  grind[List.take_of_length_le]
def yP{d}(b:gH d=l):(∀a∈d,(1<=a.1/\a.1<=2)/\1<=a.2/\a.2<=20)/\c d<=9:=by simp only[gH,cm,bw,gf]at b;refine⟨λa e=>?_,b.2⟩;have:=(sM (T:=hE) (O:=(0,0))).1 b.1 a e;simpa only[hE,cm,bw]using this
def wi{d}(g:∀a∈d,(1<=a.1/\a.1<=2)/\1<=a.2/\a.2<=20)(h:c d<=9)(e):0<=e9 (d.take e)/\e9 (d.take e)<18014398509481984:=by
 rcases Nat.le_total e 9 with b|b
 .have i:=EP g e;have:64 ^ e<=64 ^ 9:=A2 w b;grind
 rw[Gy w];have i:=EP g (c d);rw[c8]at i;have:64 ^ c d<=64 ^ 9:=A2 w h;grind
abbrev TE:m (Nat×bI):=[(112,BZ)]
def Yo(h)(b)(y:n5 b):Y (af.ay S) 130 [bX b,R h] [] (bg ((aA (c b.2.1)).all (lx h b))) []:=by
 refine Y.I func130 rfl λK=>?_;have J:=y.fe;have F:=y.dY;have i:a' (af.ay S) TE:=.cons Nz .nil;refine b9 i a B (g.aH 1 (λe=>e<=c b.2.1/\∀u,u<e->lx h b u=l) (λe:Nat=>[(1,R h),(2,aI 0 0),(10,bh.B b.2.1),(11,R (c b.2.1)),(12,R e)]) (λ_=>[zB b]) (λe=>c b.2.1-e) 0 a D a D a ⟨by omega,by omega⟩ ?_);rintro e ⟨z,o⟩;by_cases t:e<c b.2.1
 .have j:b.2.1.getD e bh.E=b.2.1.getD e (0,[]):=rfl;have r:b.2.1.getD (e-1) bh.E=b.2.1.getD (e-1) (0,[]):=rfl;have k:lx h b e=(decide (1<=(b.2.1.getD e (0,[])).1/\(b.2.1.getD e (0,[])).1<=20)&&ki (·.1) (0,[]) b.2.1 e&&(ep h (b.2.1.getD e (0,[])) b.1).isSome):=rfl;have E:=qd (aj:=λm:ej=>m.1) (O:=(0,[])) (d:=b.2.1) (e:=e);have C:=F _ (ov (O:=(0,[])) t);generalize b.2.1.getD e (0,[])=m at *;generalize b.2.1.getD (e-1) (0,[])=s at *;by_cases p:1<=m.1
  rotate_left
  .refine a_ i [13,20,25,40] a ?_ (g.aS (bZ.zero a ?_))
   .simp[-al,j];omega
   exact j8
  by_cases q:m.1<=20
  rotate_left
  .refine a_ i [13,-20,25,40] a ?_ (g.aS (bZ.zero a ?_))
   .simp[-al,j];omega
   exact j8
  rw[fa ⟨p,q⟩,fX]at k;by_cases x:e=0
  .subst x;rw[show ki (·.1) (0,[]) b.2.1 0=l from a,fX]at k;cases A:(ep h m b.1).isSome with
   |false=>
    refine a_ i [13,-20,-25,-27,-40,50] a Pe (g.aS (bZ.zero a ?_));rw[lM t (k.trans A)];simp
   |true=>
    refine a_ i [13,-20,-25,-27,-40,-50] a ?_ (g.az 1 a D D ⟨t,jn o (k.trans A)⟩ w);exact Pe
  rw[E x]at k;by_cases I:s.1<m.1
  rotate_left
  .refine a_ i [13,-20,-25,28,38,40] a ?_ (g.aS (bZ.zero a ?_))
   .simp[-al,j,r,a8];omega
   exact j8
  rw[fa I,fX]at k;cases A:(ep h m b.1).isSome with
  |false=>
   refine a_ i [13,-20,-25,28,-38,-40,50] a Rw (g.aS (bZ.zero a ?_));rw[lM t (k.trans A)];simp
  |true=>
   refine a_ i [13,-20,-25,28,-38,-40,-50] a ?_ (g.az (e+1) a D D ⟨t,jn o (k.trans A)⟩ w);exact Rw
 obtain rfl:e=c b.2.1:=w;rw[gf.2 o];refine a_ i [-13] a D (g.aA ?_);exact b9 i a B (g.aw a)
def ac5(h)(b):h8 h b=(ce h&&tx h b&&(aA (c b.2.1)).all (lx h b)&&gH b.2.2):=by unfold h8 tx;cases(aA (c b.1)).all (nS h b.1)<;>cases decide (ck b.1).Nodup<;>cases(aA (c b.2.1)).all (lx h b)<;>cases ce h<;>cases gH b.2.2<;>cases decide (c b.1<=20)<;>rfl
abbrev Ty:bI:=ek oa c7 (λb a=>bg (tx a b)) λb a=>[ce a=l,n5 b]
abbrev TC:bI:=ek oa c7 (λa b=>bg ((aA (c a.2.1)).all (lx b a))) λa _=>[n5 a]
def Yx(h)(b)(aj:n5 b):Y (af.ay S) 88 [R h,bX b] [] (bg (h8 h b)) []:=by
 refine Y.I func88 rfl λj=>?_;have d:a' (af.ay S) [(26,BY),(56,dc c7 (λh=>bg (ce h)) λ_=>[]),(129,Ty),(130,TC),(41,od)]:=.cons Ny (.cons t56 (.cons (.bl λb h e=>XG h b e.1 e.2) (.cons (.bl λb h e=>Yo h b e) (.cons tV .nil))));have i:=a2.l b.1;have s:=bh.l b.2.1;have x:=a3.l b.2.2;rw[ac5];cases bY:ce h
 .exact a_ d [-10,-15,-20] a (by simp[bY,i,s,x,a2.U,bh.U,a3.U]) (g.aw a)
 cases ak:tx h b
 .exact a_ d [10,-15,-20] a (by simp[bY,i,s,x,a2.U,bh.U,a3.U,aj,ak]) (g.aw a)
 cases C:(aA (c b.2.1)).all (lx h b)
 .exact a_ d [10,15,-20] a Re (g.aw a)
 exact a_ d [10,15,20] a Re (g.aw a oW)
abbrev xP:bI:=ek c7 oa (λb a=>bg (h8 b a)) λ_ a=>[n5 a]
def E2:bL (af.ay S) 88 xP:=.bl λb d a=>Yx b d a
abbrev gy(b a:an×X):m ar:=iu b a++[AD]
def qA(d:Int)(b:cc)(a:Int)(e:m cN):cc×Bool:=
 if h8 d b=l/\(a=1∨a=2)/\dO e=l then(match(pD d b a e).2 with|none=>((pD d b a e).1,l)|some _=>(b,v))else(([],[],[]),v)
structure Gt(h:Int)(b:cc):Prop where
 ki:ce h=l
 sp:c (dF b.1)<=100000
 kk:kX (eG b.1) (c (eG b.1))=l
 df:gH b.2.2=l
 a1:1<=cR b
def kp:∀a,a<3->([0,1,2]:m Nat)[a]?=f a:=b'
def UE{b:af S}(aa):Y b 140 [ax .bD,oj aa] [] (bg v) []:=by refine Y.I func140 rfl λd=>?_;refine aR a B ?_;refine g.aL (DV a underlying179 a a a) a a ?_;exact a4 [9] a D (g.aw a)
def Yz(u t)(h)(b)(i)(o)(p:dJ b)(a7:n5 b)(F:mi b)(G:a8 .i64 i)(O:h8 h b=l->Gt h b):
  Y (af.ay S) 101 [R h,bX b,R i,bu.B o] (gy u t) (NB (qA h b i o).1 (qA h b i o).2) (gy u t):=by
 refine Y.bh bb func101 rfl rfl rfl λH=>?_;have k:a' (af.ay S) [(88,xP),(59,rB)]:=.cons E2 (.cons wn .nil);by_cases e:h8 h b=l
 .by_cases d:i=1∨i=2
  .by_cases j:dO o=l
   .have m:qA h b i o=(match(pD h b i o).2 with|none=>((pD h b i o).1,l)|some _=>(b,v)):=bl ⟨e,d,j⟩;rw[m];obtain⟨M,C,y,E,Q⟩:=O e;have A:=X6 (q:=af.ay S) u t h b i o M p F j C y E d Q;apply g.cj [(0,R h),(2,R i),(3,bu.B o),(5,aI 3 0),(8,aI 4 0)] (gy u t++[.cells 30 [.c (tK b.1),.c (tL b.2.1),.c (h6 b.2.2)],.cells 30 [cG,cG,cG]])
    .intro dy;rcases d with rfl|rfl
     .refine bd k [-17,-20,-25,-29,903] a Qa (dy _ _ a ?_);simp
     refine bd k [-17,20,-25,-29,903] a Qa (dy _ _ a ?_);simp
    have K:∀x:X,Y (af.ay S) 140 [ax .bD,oj x] [] (bg v) []:=λx=>UE x;generalize pD h b i o=J at *;obtain⟨W,T⟩:=J;cases T with
    |none=>
     have w:=A;refine cU k a B (g.aB w [0,1] a (bd k [905] a B (g.hB 12 6 a a λz=>?_)));refine cU k a B (g.g1 40 a ?_);exact g.aB (K _) [] a (bd k [-41] a D kE)
    |some V=>
     have w:=A;refine cU k a B (g.aB w [0,1] a (bd k [905] a B (g.hB 12 6 a a λz=>?_)));refine g.iL 11 a λI=>?_;refine cU k a B (g.g1 40 a ?_);refine g.aB (UC I z) [2,6] a (bd k [41] a D (g.aB (pf b p.a0 p.bn p.a1 p.bt p.aM) [] a (tH k [] 2 a B (g.hE ?_))));exact g.bL 7 a a a D D (g.bL 8 a a a D D Qk)
   have m:qA h b i o=(([],[],[]),v):=bj λs=>j s.2.2;rw[m];have r:dO o=v:=N;rcases d with rfl|rfl
   .exact bd k [-17,-20,-25,29] a Rs kE
   exact bd k [-17,20,-25,29] a Rs kE
  have m:qA h b i o=(([],[],[]),v):=bj λs=>d s.2.1;rw[m];exact bd k [-17,20,25,29] a bF kE
 have m:qA h b i o=(([],[],[]),v):=bj λs=>e s.1;rw[m];refine bd k [17,25,29] a ?_ ?_
 .simp only[U,a2.l,bh.l,a3.l];and_intros<;>first|rfl|exact True.intro|exact a2.U _|exact bh.U _|exact a3.U _|exact a7|grind
 exact kE
def Xc{d:af S}(b:cc)(e:∀j∈b.1,c j.2<=4000000)(h:c (ck b.1)<=4000000):Y d 9 [bX b] [] (R (c (ck b.1))) []:=by
 refine Y.I func9 rfl λk=>?_;have i:a' d [(26,BY)]:=.cons Ny .nil;refine cU i a ?_ ?_
 .simp[a2.U,bh.U,a3.U]
 simp only[a2.l,bh.l,a3.l];exact g.aB (Jx b.1 e h) [] a ue
abbrev HJ:bI:=dc oa (λa=>R (c (ck a.1))) λa=>[∀b∈a.1,c b.2<=4000000,c (ck a.1)<=4000000]
def adY{b:af S}:bL b 9 HJ:=.a9 λd a=>Xc d a.1 a.2
section
variable {q:af S}
def U_(b)(d:dJ b):Y q 84 [bX b] [] (bX b) []:=by refine(qp b d.a0 d.bn d.a1 d.bt d.aM).b2 a ?_ a;simp
abbrev BQ:bI:=dc oa (λa=>bX a) λa=>[dJ a]
def Np:bL q 84 BQ:=.a9 λb a=>U_ b a
def I_(p)(d:dJ p.1)(h:c p.2.1<=4000000)(j:c p.2.2<=4000000):Y q 55 [gE p] [] (.n (.agg [cL a2 p.1.1,cL bh p.1.2.1,cL a3 p.1.2.2,cL az p.2.1,.x 0 1 (c p.2.2) (az.fn p.2.2)])) [.x 3 1 (c p.2.2) (az.fn p.2.2)]:=by
 refine Y.bh bb func55 rfl rfl rfl λi=>?_;have e:a' q [(84,BQ)]:=.cons Np .nil;refine bd e [2000009] a ?_ ?_
 .simp only[U,a2.l,a2.U,bh.l,bh.U,a3.l,a3.U,d,ba,a9,show dZ.bytes=8 from a,lI];exact fE
 refine g.bb [gx p,.cells 33 [cL a2 p.1.1,cL bh p.1.2.1,cL a3 p.1.2.2,cL az p.2.1,.x 2 1 (c p.2.2) (az.fn p.2.2)],.x 3 1 (c p.2.2) (az.fn p.2.2)] a ?_ ?_
 .simp[a2.l,bh.l,a3.l,o9]
 refine g.bg () [2] ?_ (λk b=>absurd b D);simp
def Va(p)(b:dJ p.1)(d:c p.2.1<=4000000)(e:c p.2.2<=4000000):Y q 55 [gE p] [] (gE p) []:=
 (I_ p b d e).b2 a D a
abbrev xH:bI:=dc (AO C0) (λa=>gE a) λa=>[dJ a.1,c a.2.1<=4000000,c a.2.2<=4000000]
def EV:bL q 55 xH:=.a9 λb a=>Va b a.1 a.2.1 a.2.2
abbrev KU(b:cb)(a:m c1):m ar:=[xJ b,.cells 86 [.c (.int .i64 0),cG],.cells 86 [.c (.int .i64 b.1),.x 3 2 (c a) (bH.fn a)],.x 121 2 (c a) (bH.fn a)]
def C6{d}{a:α->Bool}(g:e<c d)(b):(d.take (e+1)).filter a=if a (d.getD e b)=l then(d.take e).filter a++[d.getD e b]else(d.take e).filter a:=by rw[iq g b,List.filter_append,sF];split<;>simp
def C5(d)(a:α->Bool)(b:e<=c d):c ((d.take e).filter a)<=e:=fY (kI _ _) bK
def WO(T)(b)(C:c T.2<=4000000):Y q 87 [fR T,az.B b] [] (fR (hO T b)) []:=by
 refine Y.bh bb func87 rfl rfl rfl λo=>?_;have i:a' q [(85,u5)]:=.cons zL .nil;refine bd i [902] a B (g.cn 2 1 121 2 (bH.fn []) a a ?_);refine b9 i a B ?_;refine g.aH 4 (λe=>e<=c T.2) (λe:Nat=>[(1,az.B b),(2,aI 0 0),(4,aI 1 0),(5,aI 2 0),(6,R e)])
  (λe=>KU T ((T.2.take e).filter λd=>b.contains d.1)) (λe=>c T.2-e) 0 a D a D a w ?_
 intro e j;have m:=C5 T.2 (λd=>b.contains d.1) j;by_cases t:e<c T.2
 .have O:T.2.getD e bH.E=ec T e:=rfl;have s:(T.2.take (e+1)).filter (λd=>b.contains d.1)=if b.contains (ec T e).1=l then(T.2.take e).filter (λd=>b.contains d.1)++[ec T e]else(T.2.take e).filter (λd=>b.contains d.1):=C6 t (0,[]);generalize(T.2.take e).filter (λd=>b.contains d.1)=k at *;generalize ec T e=d at *;cases aj:b.contains d.1 with
  |true=>
   rw[bl aj]at s;have C:=bH.aW k d;refine bd i [15,25] a QI (g.az (e+1) a D ?_ t w);exact Qd
  |false=>
   rw[bj du]at s;refine bd i [15,-25] a Qz (g.az (e+1) a D ?_ t w);simp_all
 exact Qf
abbrev HG:bI:=ek (jJ bH) (eS az) (λb a=>fR (hO b a)) λb _=>[c b.2<=4000000]
def adW:bL q 87 HG:=.bl λd a b=>WO d a b
abbrev j4(b:dP)(a:Bool):y:=.T [.agg (wl b),.R (.c (.bool a))]
abbrev lC:m Q:=[cG,cG,cG,cG,cG]
def stepT(b:Int)(a:m Int)(d:m cb)(e:Nat):m cb:=fo b a (d.take e)
def ac2{bN}{cy}{Z}(a:e<c Z):stepT bN cy Z (e+1)=if(ja bN cy (Z.getD e (0,[]))).2.length=0 then stepT bN cy Z e else stepT bN cy Z e++[ja bN cy (Z.getD e (0,[]))]:=by unfold stepT fo;rw[iq a (0,[]),List.map_append,List.filter_append,List.map_singleton];grind
def ac1(bN)(cy)(Z)(a:e<=c Z):c (stepT bN cy Z e)<=e:=by unfold stepT fo;grind
def Yt(p)(i:dJ p.1)(d:c p.2.1<=4000000)(h:p.2.2=[]):Y q 54 [gE p] [] (j4 p v) []:=by refine Y.bE func54 rfl rfl rfl λe=>?_;have b:a' q [(55,xH)]:=.cons EV .nil;refine bd b [13] a bF ?_;refine g.freeze 2 1 a a a ?_;refine g.cb bb [] a ?_ a a a eN;simp[a2.l,bh.l,a3.l,az.l]
abbrev ac6(b:cc)(a:m Int)(e:m Int)(d:m cb):m ar:=[gx (b,a,e),.cells 33 lC,gx (b,a,e),.x 86 2 (c d) (a2.fn d)]
def _root_.Go.AM.c6.iT(a:c6 α)(g)(d)(h:j=c d):bs j (fJ 1 (a.fn (g::d))) (a.fn d):=by intro e b;simp only[fJ,c6.fn,gK,al,Nat.add_comm 1 e,n9]
def Yu(b)(cy k)(bN)(u)(F:k=bN::u)(x:dJ b)(J:c cy<=4000000)(I:c k<=4000000):Y q 54 [gE (b,cy,k)] [] (j4 ((fo bN cy b.1,b.2),cy,u) l) []:=by
 refine Y.bE func54 rfl rfl rfl λQ=>?_;have m:a' q [(55,xH),(87,HG)]:=.cons EV (.cons adW .nil);have K:0<c k:=du;refine bd m [-13,905] a ?_ ?_
 .simp only[U,a2.l,a2.U,bh.l,bh.U,a3.l,a3.U,az.l,az.U,x,J,I,ba,a9,eW,ea];omega
 refine g.bG 5 86 2 a a ?_;refine cU m a B ?_;have M:=x.a0;refine g.aH 4 (λe=>e<=c b.1) (λe:Nat=>[(1,aI 0 0),(2,aI 1 0),(4,aI 2 0),(5,.n (.R (.x 3 2 (c (stepT bN cy b.1 e)) (a2.fn (stepT bN cy b.1 e))))),(6,R e)])
  (λe=>ac6 b cy k (stepT bN cy b.1 e)) (λe=>c b.1-e) 0 a ?_ a ?_ a w ?_
 .simp[stepT,fo]
 .simp[stepT,fo,a2.l,bh.l,a3.l,az.l]
 intro e t;by_cases o:e<c b.1
 .have O:b.1.getD e a2.E=b.1.getD e (0,[]):=rfl;have z:=x.bn _ (mE o (0,[]));have i:=ac2 (bN:=bN) (cy:=cy) o;have N:=ac1 bN cy b.1 t;have r:k.getD (Int.toNat 0) az.E=bN:=bF;generalize stepT bN cy b.1 e=y at *;generalize b.1.getD e (0,[])=h at *;by_cases j:h.1=bN
  .have C:ja bN cy h=hO h cy:=by unfold ja;exact bv
   rw[C]at i;have d:=a2.aW y (hO h cy);have S:(hO h cy).2.length<=c h.2:=kI _ _;have s:(h.1,h.2)=h:=rfl;by_cases p:(hO h cy).2.length=0
   .rw[bl p]at i;refine bd m [21,36,-44] a ?_ (g.az (e+1) a ?_ ?_ o w)
    .simp only[U,cW,O,r,s,z,bH.l,bH.U,az.l,az.U,a8,bw,dr,gR,ba,a9];exact z_
    .rw[i];simp
    rw[i];simp
   rw[bj p]at i;refine bd m [21,36,44] a ?_ (g.az (e+1) a ?_ ?_ o w)
   .simp only[U,cW,O,r,s,z,bH.l,bH.U,az.l,az.U,a8,show nD.bytes=32 from a,bw,dr,gR,ba,a9];exact z_
   .exact Qu
   exact Qu
  have C:ja bN cy h=h:=by unfold ja;exact bv
  rw[C]at i;have d:=a2.aW y h;by_cases p:c h.2=0
  .rw[bl p]at i;refine bd m [21,-36,-44] a ?_ (g.az (e+1) a ?_ ?_ o w)
   .simp only[U,cW,O,r,a8,bw,dr,eW,ea,ba,a9];exact z_
   .rw[i];simp
   rw[i];simp
  rw[bj p]at i;refine bd m [21,-36,44] a ?_ (g.az (e+1) a ?_ ?_ o w)
  .simp only[U,cW,O,r,a8,show nD.bytes=32 from a,bw,dr,eW,ea,ba,a9];exact z_
  .exact Qi
  exact Qi
 obtain rfl:e=c b.1:=w;have E:stepT bN cy b.1 (c b.1)=fo bN cy b.1:=by unfold stepT;simp
 rw[E];refine bd m [-21] a D (g.aA ?_);refine cU m a bv (g.freeze 2 1 a a a ?_);refine g.cb bb [] a ?_ a a a eN;have A:=az.iT bN u a;rw[<-F]at A;simp only[U.Y,U,bW,ba,a9];and_intros<;>first|exact bs.same|exact A|simp_all|grind|rfl
def qx(a:dP):Bool:=!a.2.2.isEmpty
def Ys(p)(e:dJ p.1)(g:c p.2.1<=4000000)(j:c p.2.2<=4000000):Y q 54 [gE p] [] (j4 (h7 p) (qx p)) []:=by
 obtain⟨d,a,i⟩:=p;cases i with
 |nil=>exact Yt (d,a,[]) e g rfl
 |cons b h=>exact Yu d a (b::h) b h rfl e g j
abbrev G2(d:cc)(a:m ej)(b:m Int):m ar:=[j2 d,.cells 33 lC,.cells 33 [cL a2 d.1,.x 4 2 (c a) (bh.fn a),cL a3 d.2.2,cG,.x 5 1 (c b) (az.fn b)],j2 d,.x 90 2 (c a) (bh.fn a),.x 3 1 (c b) (az.fn b)]
def map_take{b:Type}{d}{aj:α->b}(g:e<c d)(a):(d.take (e+1)).map aj=(d.take e).map aj++[aj (d.getD e a)]:=by rw[iq g a,List.map_append];rfl
def GJ(d)(a:ej->Bool):c (hv (d.filter a))<=c (hv d):=by
 induction d with
 |nil=>simp
 |cons e d b=>
  unfold hv at *;grind
def UN(h)(b)(i)(o:dJ b)(y:rj b):Y q 53 [R h,bX b,az.B i] [] (j4 (jP h b i).1 (jP h b i).2) []:=by
 refine Y.bE func53 rfl rfl rfl λN=>?_;have k:a' q [(83,B1),(84,BQ),(85,u5),(86,BS)]:=.cons NC (.cons Np (.cons zL (.cons Ns .nil)));have M:=o.a0;have F:=o.a1;unfold jP;cases r:h8 h b with
 |false=>
  refine bd k [15] a ?_ ?_
  .simp only[U,a2.l,a2.U,bh.l,bh.U,a3.l,a3.U,r,o.a0,o.a1,ba,a9,hT];exact y.dY
  refine g.freeze 6 1 a a a ?_;refine g.cb bb [] a ?_ a a a eN;simp
 |true=>
 rw[bl a];refine bd k [-15,906] a ?_ ?_
 .simp only[U,a2.l,a2.U,bh.l,bh.U,a3.l,a3.U,r,o.a0,o.a1,o,ba,a9,fB];exact y.dY
 refine g.cn 2 1 90 2 (bh.fn []) a a ?_;refine g.cn 2 4 3 1 (az.fn []) a a ?_;refine cU k a B ?_;refine g.aH 6 (λe=>e<=c b.2.1) (λe:Nat=>[(2,az.B i),(4,aI 0 0),(6,aI 1 0),(8,aI 2 0),(9,aI 3 0),(10,R e)])
  (λe=>G2 b ((b.2.1.take e).filter λj=>i.contains j.1) []) (λe=>c b.2.1-e) 0 a ?_ a ?_ a w ?_
 .simp
 .simp[a2.l,bh.l,a3.l]
 intro e p;have C:=C5 b.2.1 (λj=>i.contains j.1) p;by_cases m:e<c b.2.1
 .have u:b.2.1.getD e bh.E=b.2.1.getD e (0,[]):=rfl;have s:(b.2.1.take (e+1)).filter (λj=>i.contains j.1)=if i.contains (b.2.1.getD e (0,[])).1=l then(b.2.1.take e).filter (λj=>i.contains j.1)++[b.2.1.getD e (0,[])]else(b.2.1.take e).filter (λj=>i.contains j.1):=C6 m (0,[]);generalize(b.2.1.take e).filter (λj=>i.contains j.1)=x at *;generalize b.2.1.getD e (0,[])=j at *;cases z:i.contains j.1 with
  |true=>
   rw[bl z]at s;have d:=bh.aW x j;refine bd k [30,40] a ?_ (g.az (e+1) a D ?_ m w)
   .simp[-al,-List.contains_eq_mem,u,m,z,az.l,az.U,a8,show rS.bytes=32 from a];omega
   exact Rt
  |false=>
   rw[bj du]at s;refine bd k [30,-40] a ?_ (g.az (e+1) a D ?_ m w)
   .simp[-al,-List.contains_eq_mem,u,m,z,az.l,az.U,a8];omega
   simp_all
 obtain rfl:e=c b.2.1:=w;rw[c8]at C⊢;have E:=GJ b.2.1 λj=>i.contains j.1;have I:kz (b.1,b.2.1.filter (λj=>i.contains j.1),b.2.2):=λj d=>o.bt j (jm.1 d).1;have J:=y.eC;generalize b.2.1.filter (λj=>i.contains j.1)=A at *;refine bd k [-30] a D (g.aA ?_);refine cU k a B ?_;refine g.aH 6 (λe=>e<=c b.1) (λe:Nat=>[(2,az.B i),(4,aI 0 0),(6,aI 1 0),(8,aI 2 0),(11,R e)])
  (λe=>G2 b A ((b.1.take e).map (·.1))) (λe=>c b.1-e) 0 a D a D a w ?_
 intro e p;have K:c ((b.1.take e).map (·.1))=e:=bK;by_cases m:e<c b.1
 .have u:b.1.getD e a2.E=b.1.getD e (0,[]):=rfl;have s:=map_take (aj:=λt:cb=>t.1) m (0,[]);generalize(b.1.take e).map (λt:cb=>t.1)=x at *;generalize b.1.getD e (0,[])=t at *;have d:=az.aW x t.1;refine bd k [57] a ?_ (g.az (e+1) a D ?_ m w)
  .simp[-al,u,m,a8,show dZ.bytes=8 from a];omega
  exact Rt
 obtain rfl:e=c b.1:=w;rw[c8];refine bd k [-57] a D (g.aA ?_);refine cU k a bF (g.freeze 8 2 a a a ?_);refine g.freeze 6 1 a a a ?_;refine g.cb bb [] a ?_ a a a eN;simp[bh.l]
abbrev Hm:bI:=kl c7 oa (eS az) (λd a b=>j4 (jP d a b).1 (jP d a b).2) λ_ a _=>[dJ a,rj a]
def adv:bL q 53 Hm:=.c7 λd e b a=>UN d e b a.1 a.2
def rP(a:dq)(b:cb):cb:=if b.1=a.2.1/\0<=a.2.2.1/\a.2.2.1<c b.2 then(b.1,gZ b.2 a.2.2.1.toNat a.2.2.2)else b
def g_(a:cc)(b:dq):cc:=
 if b.1=1 then(a.1.filter λd=>!(d.1==b.2.1),a.2.1,a.2.2)
 else if b.1=2 then(if b.2.1<0∨b.2.1>c a.2.2 then a else(a.1,a.2.1.filter λd=>!jy b.2.1.toNat a.2.2 d,a.2.2.take b.2.1.toNat))
 else if b.1=3 then(a.1.map (rP b),a.2)
 else if b.1=4 then(if 0<=b.2.1/\b.2.1<c a.2.2 then(a.1,a.2.1,a.2.2.set b.2.1.toNat (3-(a.2.2.getD b.2.1.toNat (0,0)).1,(a.2.2.getD b.2.1.toNat (0,0)).2))else a)
 else a
def Ku{b}{d}(e:pX b d):b.1.map (rP d)=b.1:=by apply p8 D;intro g h a;rw[List.getElem_map];have:=e g a;rw[al,bJ a,ia]at this;exact bj this
def Kt{b}{d}{i0}(a:ss b d i0 A):b.1.map (rP d)=(hd b d i0 A).1:=by
 have m:=a.a';apply qa;intro e;have j:(hd b d i0 A).1=b.1.set i0 ((b.1.getD i0 (0,[])).1,gZ (b.1.getD i0 (0,[])).2 A d.2.2.2):=rfl;rw[j,ni];by_cases h:e<c b.1
 .have s:b.1[e]?=f (b.1.getD e (0,[])):=N;by_cases g:e=i0
  .subst g;rw[iy h,s];have o:=a.gu;have i:=a.b4;simp only[lK,rP];rw[bl ⟨a.c5,by omega,by omega⟩,i,cW]
  rw[kJ (λa=>g a.symm),s];simp only[lK,rP];rw[bj (λk=>a.bU e h g k.1)]
 grind
structure SJ(q:af S)(b:cc)(d:dq)(aF:cc):Prop where
 eO:dJ aF
 cP:Y q 82 [bX b,ev d] [] (bX aF) []
def r9{b}(k:oY b)(d):SJ q b d (g_ b d):=by
 have a:=k.size;have C:=a.aM;unfold g_;by_cases m:d.1=1
 .rw[bl m];exact⟨⟨fY (kI _ _) a.a0,λs g=>a.bn s (jm.1 g).1,a.a1,a.bt,a.aM⟩,X8 b d a m⟩
 rw[bj m];by_cases h:d.1=2
 .rw[bl h];by_cases e:d.2.1<0∨d.2.1>c b.2.2
  .rw[bl e];exact⟨a,JK b d b a h (UH b d.2.1 a.aM e)⟩
  rw[bj e];have o:d.2.1=(d.2.1.toNat:Nat):=w;have t:=UI (q:=q) b d.2.1.toNat w a.a1 k.num a.aM;rw[<-o]at t;refine⟨⟨a.a0,a.bn,fY (kI _ _) a.a1,λB z=>a.bt B (jm.1 z).1,?_⟩,JK b d _ a h t⟩;simp;omega
 rw[bj h];by_cases e:d.1=3
 .rw[bl e];rcases Kv k d with⟨i0,A,p⟩|o
  .have r:(b.1.map (rP d),b.2)=hd b d i0 A:=by rw[Kt p]
   rw[r];refine⟨⟨by simpa using a.a0,λs g=>?_,a.a1,a.bt,a.aM⟩,X9 b d a e i0 A p⟩;rcases AV g with g|rfl
   .exact a.bn s g
   simpa[gZ]using a.bn _ (vq p.a')
  rw[Ku o];exact⟨a,Yd b d a e o⟩
 rw[bj e];by_cases i:d.1=4
 .rw[bl i];by_cases j:0<=d.2.1/\d.2.1<c b.2.2
  .rw[bl j];have x:(b.2.2.getD (0+d.2.1.toNat) a3.E)∈b.2.2:=N;have t:=k.aM _ x;have y:a8 .i64 (3-lA b d):=R9;have u:=X' (q:=q) b d a i j.1 j.2 y;have r:b.2.2.set (0+d.2.1.toNat) (3-lA b d,(b.2.2.getD (0+d.2.1.toNat) a3.E).2)=b.2.2.set d.2.1.toNat (3-(b.2.2.getD d.2.1.toNat (0,0)).1,(b.2.2.getD d.2.1.toNat (0,0)).2):=N;rw[r]at u;exact⟨⟨a.a0,a.bn,a.a1,a.bt,by simpa using a.aM⟩,u⟩
  rw[bj j];exact⟨a,Ya b d a i j⟩
 rw[bj i];exact⟨a,Yc b d a m h e i⟩
def Dw{b}(m:oY b)(d):Y q 68 [bX b,ev d] [] (bX (g_ b d)) []:=by
 have e:=m.size;have u:=e.aM;unfold g_;by_cases j:d.1=1
 .rw[bl j];exact WU b d e j
 rw[bj j];by_cases g:d.1=2
 .rw[bl g];by_cases a:d.2.1<0∨d.2.1>c b.2.2
  .rw[bl a];exact CO (WY b d e g a)
  rw[bj a];have k:d.2.1=(d.2.1.toNat:Nat):=w;exact WW b d e g d.2.1.toNat k w
 rw[bj g];by_cases a:d.1=3
 .rw[bl a];rcases Kv m d with⟨i0,A,o⟩|k
  .have p:(b.1.map (rP d),b.2)=hd b d i0 A:=by rw[Kt o]
   rw[p];exact WZ b d e a i0 A o
  rw[Ku k];exact W1 b d e a k
 rw[bj a];by_cases h:d.1=4
 .rw[bl h];by_cases i:0<=d.2.1/\d.2.1<c b.2.2
  .rw[bl i];have r:(b.2.2.getD (0+d.2.1.toNat) a3.E)∈b.2.2:=N;have x:=m.aM _ r;have s:a8 .i64 (3-lA b d):=R9;have t:=W4 (q:=q) b d e h i.1 i.2 s;grind
  rw[bj i];exact W3 b d e h i
 rw[bj h];exact CO (W5 b d e j g a h)
def Tn{d:cc}(b:oY d)(a:dq):Ss q d a (g_ d a):=⟨(r9 (q:=q) b a).eO,Dw b a,(r9 b a).cP⟩
structure m'(d:m (Int×Int)):Prop where
 aM:∀E∈d,(1<=E.1/\E.1<=2)/\1<=E.2/\E.2<=20
 cy:c d<=9
def m'.of{d}(a:gH d=l):m' d:=⟨(yP a).1,(yP a).2⟩
def m'.take{d}(a:m' d)(e):m' (d.take e):=⟨λg b=>a.aM g (g4 b),by have:=a.cy;rw[List.length_take];omega⟩
def Ni{d}(a:e<c d):e9 (d.take (e+1))=64*e9 (d.take e)+21*(d.getD e (0,0)).1+(d.getD e (0,0)).2:=by unfold e9;rw[iq a (0,0),uI];rfl
def YD(d)(e:m' d):Y q 125 [a3.B d] [] (R (e9 d)) []:=by
 refine Y.I func125 rfl λm=>?_;have s:=e.cy;refine aR a B (g.aH 0 (λb=>b<=c d) (λb:Nat=>[(0,a3.B d),(3,R (e9 (d.take b))),(4,R b)]) (λ_=>[]) (λb=>c d-b) 0 a (by simp[e9]) a B a w ?_);intro b j;by_cases h:b<c d
 .have i:d.getD b a3.E=d.getD b (0,0):=rfl;have p:=Ni h;have o:=wi e.aM e.cy b;have k:=wi e.aM e.cy (b+1);have r:=e.aM _ (mE h (0,0));refine a4 [8] a ?_ (g.az (b+1) a ?_ B h w)
  .simp only[U,cW,i,a8,bw,ba,a9];exact fE
  simp only[U.Y,U,cW,i,ba,a9];and_intros<;>first|exact bs.same|omega
 obtain rfl:b=c d:=w;rw[c8];exact Qt
abbrev H0:bI:=dc (eS a3) (λa=>R (e9 a)) λa=>[m' a]
def aei:bL q 125 H0:=.a9 λb a=>YD b a
abbrev kO(a:Int×Int):y:=.n (.agg [.c (.int .i64 a.1),.c (.int .i64 a.2)])
abbrev m0(a:(Int×Int)×Int):y:=.T [.agg [.c (.int .i64 a.1.1),.c (.int .i64 a.1.2)],.R (.c (.int .i64 a.2))]
def X7(A)(d)(s:c d<=4000000):Y q 81 [kO A,a3.B d] [] (m0 (e6 A d)) []:=by
 refine Y.bE func81 rfl rfl rfl λr=>?_;have b:a' q [(124,od),(125,H0)]:=.cons Nr (.cons aei .nil);unfold e6;cases bY:gH d with
 |false=>
  rw[bj D];exact bd b [8,15,20] a Gb sm
 |true=>
 have h:=m'.of bY;by_cases aj:A.1<=c d
 rotate_left
 .rw[bj z3];exact bd b [-8,15,20] a O' sm
 by_cases O:0<=A.1
 rotate_left
 .rw[bj pS];exact bd b [-8,-15,20] a OX sm
 rw[bl ⟨rfl,aj,O⟩];have p:(A.1.toNat:Int)=A.1:=rn O;have k:a3.ad (bW (c d) (f A.1)-bW 0 n) (fJ (bW 0 n) (a3.fn d))=d.take A.1.toNat:=by have m:bW (c d) (f A.1)-bW 0 n=A.1.toNat:=wS;rw[m,a3.hh d (λo i=>by simp[fJ,bW]) w]
 have j:a3.bH (bW (c d) (f A.1)-bW 0 n) (fJ (bW 0 n) (a3.fn d)):=a3.g5 d (λo i=>by simp[fJ,bW]);by_cases e:e9 (d.take A.1.toNat)=A.2
 .rw[bl e];refine bd b [-8,-15,-20,-29] a ?_ ?_
  .simp only[U,jq,k,j,bY,h,h.take,e,a3.l,a3.U,fB,bw,dr,iz,ba,a9];omega
  refine g.freeze 4 1 a a a ?_;exact g.cb bb [] a (by simp[a3.l]) a a a eN
 rw[bj e];refine bd b [-8,-15,-20,29] a ?_ ?_
 .simp only[U,jq,k,j,bY,h,h.take,a3.l,a3.U,fB,bw,dr,iC,ba,a9];and_intros<;>first|exact e|omega
 exact sm
def fL(d:Int)(b:dP)(a:Int)(e:m cN):dP×Bool:=
 if qG d b a e=l then(if fC d b.1 e=l then(b,v)else(l9 d b a e,l))else(hr,v)
structure uz(p:dP):Prop where
 bj:dJ p.1
 cm:rj p.1
 cy:c p.2.1<=4000000
 de:c p.2.2<=4000000
def fQ.cB{p}(a:fQ j p)(b:j<=1000000):uz p:=⟨a.bj.toj'.du,a.jY,by have:=a.cm;omega,by have:=a.de;omega⟩
def YI(h)(p)(bU)(o)(j:uz p):Y q 80 [R h,gE p,R bU,bu.B o] [] (j4 (fL h p bU o).1 (fL h p bU o).2) []:=by
 refine Y.bE func80 rfl rfl rfl λL=>?_;have i:a' q [(120,H1),(49,kN),(50,sS),(55,xH),(122,BT),(123,xF)]:=.cons aej (.cons ly (.cons t50 (.cons EV (.cons Nt (.cons ET .nil)))));have aa:=j.cm;have x:(p.1,p.2.1,p.2.2)=p:=rfl;have V:fL h p bU o=if hp h p=l then(if 1<=bU/\bU<=2 then(if dO o=l then(if fC h p.1 o=l then(p,v)else(l9 h p bU o,l))else(hr,v))else(hr,v))else(hr,v):=by unfold fL qG;by_cases aj:hp h p=l<;>by_cases C:1<=bU/\bU<=2<;>by_cases r:dO o=l<;>simp[aj,C,r]
 rw[V];cases aj:hp h p with
 |false=>
  rw[bj D];refine bd i [18,23,28] a ?_ ?_
  .simp only[U,a2.l,a2.U,bh.l,bh.U,a3.l,a3.U,az.l,az.U,x,aj,aa,hT,ba,a9]
  exact Aa
 |true=>
 rw[bl a];by_cases C:1<=bU/\bU<=2
 rotate_left
 .rw[bj C];refine bd i [-18,23,28] a ?_ ?_
  .simp only[U,a2.l,a2.U,bh.l,bh.U,a3.l,a3.U,az.l,az.U,x,aj,aa,fB,ba,a9];grind
  exact Aa
 rw[bl C];cases r:dO o with
 |false=>
  rw[bj D];exact bd i [-18,-23,28] a F4 Aa
 |true=>
 rw[bl a];have s:=sb.1 aj;have a0:=s.toiN.gG;have K:=a0.dL;have k:=X4 (q:=q) h p.1 bU o s.key j.bj K (oR r) a0.j3;cases u:fC h p.1 o with
 |true=>
  rw[u,bl a]at k;rw[bl a];refine bd i [-18,-23,-28] a F4 (g.aB k [] a (bd i [42] a ?_ ?_))
  .simp only[U,a2.l,a2.U,bh.l,bh.U,a3.l,a3.U,az.l,az.U,x,j.bj,j.cy,j.de,fB,hT,ba,a9]
  refine g.freeze 8 1 a a a ?_;exact g.cb bb [] a Gf a a a eN
 |false=>
 rw[u,bj D]at k;rw[bj D];refine bd i [-18,-23,-28] a F4 (g.aB k [] a ?_);have F:=a0.cM (h:=h) (o:=o) (bU:=bU) (by have:=xt 1 s.cJ λm J=>(s.a1 m J).1;omega) r u;have Q:(eI h p.1 bU o).2.1.length=c p.1.2.1+1:=by simp[eI]
 have S:(eI h p.1 bU o).2.1.getD ((eI h p.1 bU o).2.1.length-1) (0,[])=fM (cR p.1) h o:=by rw[Q];simp[eI,al]
 have M:=F.c9 (fM (cR p.1) h o) N;have X:=wq M.2;have H:=tt (fM (cR p.1) h o).2;have G:=F.ey;have W:=j.cy;unfold l9;generalize eI h p.1 bU o=e at *;generalize fM (cR p.1) h o=m at *;have T:((c e.2.1:Int)-1).toNat=c e.2.1-1:=w;have z:e.2.1.getD ((c e.2.1:Int)-1).toNat bh.E=m:=by rw[T];exact S
 refine bd i [-42] a ?_ ?_
 .simp only[U,z,a2.l,a2.U,bh.l,bh.U,a3.l,a3.U,az.l,az.U,cw.l,cw.U,x,j.bj,j.cy,j.de,a8,fB,hT,ba,a9];omega
 rw[z];simp only[cw.l];generalize gJ m.2=b at *;refine g.aH 4 (λd=>d<=c b) (λd:Nat=>[(5,aI 0 0),(8,aI 1 0),(10,aI 2 0),(12,aI 3 0),(13,az.B b),(14,R d)])
  (λd=>[gx p,.cells 33 lC,j2 e,gx (e,(b.take d).foldl fe p.2.1,p.2.2)]) (λd=>c b-d) 0 a ?_ a ?_ a w ?_
 .simp
 .exact Gf
 intro d O;by_cases t:d<c b
 .have E:b.getD d az.E=b.getD d 0:=rfl;have y:=yw fe p.2.1 t;have I:=qt p.2.1 (b.take d);rw[List.length_take]at I;generalize(b.take d).foldl fe p.2.1=ka at *;have A:=az.l ka;refine bd i [58] a ?_ (g.az (d+1) a ?_ ?_ t w)
  .simp[-al,E,t,A,az.U,a8];omega
  .simp
  rw[y];simp[-al,E,A]
 obtain rfl:d=c b:=w;rw[c8];refine bd i [-58] a D (g.aA ?_);exact cU i a B Aa
def JO(d)(b:m' d)(A)(r:A<=c d):Y q 43 [ax (iH d),R A] [] (R (e9 (d.take A))) []:=by
 refine Y.I func43 rfl λs=>?_;have x:=b.cy;refine aR a B (g.loop (λe=>e<=A) (λe:Nat=>[(0,ax (iH (d.drop e))),(1,R ((A:Int)-e)),(5,R (e9 (d.take e)))]) (λ_=>[]) (λe=>A-e) 0 w (.cons a (eO a (by simp[e9]))) a ?_);intro e m;by_cases k:e<A
 .have h:=Ni (d:=d) (e:=e) w;have t:=wi b.aM b.cy e;have p:=wi b.aM b.cy (e+1);have u:=b.aM _ (mE (e:=e) (d:=d) w (0,0));rw[IS (e:=e) w]
  generalize d.getD e (0,0)=o at *;generalize j:d.drop (e+1)=i;cases i<;>(
   refine aR a B (g.aL (tG a underlying96 a a a) a a ?_);refine a4 [8,11] a ?_ ⟨e+1,k,by omega,.cons (by rw[j];rfl) (eO a ?_),a⟩
   .simp only[U,a8,bw,ba,a9];exact F3
   .simp only[U.Y,U,ba,a9];and_intros<;>omega)
 obtain rfl:e=A:=w;generalize d.drop e=i;cases i with
 |nil=>
  refine aR a B (g.aL (r1 a underlying96 a a a) a a ?_);refine a4 [-8,-11] a D (g.bs a a ?_);exact ue
 |cons o i=>
  refine aR a B (g.aL (tG a underlying96 a a a) a a ?_);refine a4 [8,-11] a D (g.bs a a ?_);exact ue
def W'(d)(i:c d<=4000000):Y q 44 [a3.B d] [] (R (if gH d=l then e9 d else -1)) []:=by
 refine Y.I func44 rfl λj=>?_;have h:=Jp (q:=q) d i;cases bY:gH d with
 |false=>
  have b:a' q [(41,od)]:=.cons tV .nil;refine bd b [5] a Gb (g.aw a)
 |true=>
  have e:=JO (q:=q) d (.of bY) (c d) (bC _);rw[c8]at e;have b:a' q [(41,od),(42,dS [a3.B d] (ax (iH d))),(43,dS [ax (iH d),R (c d)] (R (e9 d)))]:=.cons tV (.cons (d9 h) (.cons (d9 e) .nil));generalize e9 d=k at *;cases d<;>(
   refine bd b [-5] a ?_ (g.aw a);simp only[U,bY,a3.l,a3.U,fB,ba,a9]
   and_intros<;>rfl)
def CP(A)(d)(i:c d<=4000000):Y q 15 [kO A,a3.B d] [] (m0 (e6 A d)) []:=by
 refine Y.bE func15 rfl rfl rfl λt=>?_;have m:=Jp (q:=q) d i;have h:=W' (q:=q) d i;have e:a' q [(41,od)]:=.cons tV .nil;unfold e6;cases bY:gH d with
 |false=>
  rw[bj D];exact bd e [9,16,21] a Gb sm
 |true=>
 have r:=m'.of bY;by_cases j:A.1<=c d
 rotate_left
 .rw[bj (by simp[j])];exact bd e [-9,16,21] a O' sm
 by_cases O:0<=A.1
 rotate_left
 .rw[bj pS];exact bd e [-9,-16,21] a OX sm
 rw[bl ⟨rfl,j,O⟩];have p:(A.1.toNat:Int)=A.1:=rn O;have k:=JO (q:=q) d r A.1.toNat w;rw[bl bY]at h;rw[p]at k;have hY:a' q [(41,od),(42,dS [a3.B d] (ax (iH d))),(43,dS [ax (iH d),R A.1] (R (e9 (d.take A.1.toNat)))),(44,dS [a3.B d] (R (e9 d)))]:=.cons tV (.cons (d9 m) (.cons (d9 k) (.cons (d9 h) .nil)));generalize e9 d=s at *;generalize e9 (d.take A.1.toNat)=o at *;by_cases b:o=A.2
 .rw[bl b];cases d<;>(
   refine bd hY [-9,-16,-21,-23] a ?_ ?_
   .simp only[U,bY,b,a3.l,a3.U,fB,bw,dr,iz,ba,a9];exact q5
   refine g.freeze 4 1 a a a ?_;exact g.cb bb [] a D a a a eN)
 .rw[bj b];cases d<;>(
   refine bd hY [-9,-16,-21,23] a ?_ ?_
   .simp only[U,bY,a3.l,a3.U,fB,bw,dr,iC,ba,a9];and_intros<;>first|exact b|rfl|omega
   refine g.freeze 4 1 a a a ?_;exact g.cb bb [] a D a a a eN)
def oc(a:Int):Bool:=decide (1<=a/\a<=2)
def US(j):Y q 38 [R j] [] (bg (oc j)) []:=by
 refine Y.I func38 rfl λb=>?_;unfold oc;by_cases t:j=1
 .refine a4 [5] a gM (g.aw a ?_);simp[t]
 refine a4 [-5] a gM (g.aw a ?_);simp only[U,a9];rw[o6];simp only[gR,bw];omega
abbrev u4:bI:=dc c7 (λa=>bg (oc a)) λ_=>[]
def zK:bL q 38 u4:=.a9 λa _=>US a
def Ky:cq:=⟨1,8,v,TypeDesc.map 3 4,[.val (.map n)],[]⟩
def Zx:eQ S 144 Ky:=⟨underlying144,rfl,⟨Tryz.t144,_,l2 type144,rfl,rfl,rfl,rfl,⟨#[],rfl⟩,rfl⟩,λb=>absurd a b⟩
def de:b3 S ((144,Ky)::eU):=b3.cons Zx bb
abbrev sY(a:X):y:=cM a
abbrev jp(a:X)(b:m Int):ar:=.K (ji a b)
def I1(s)(e d):Y q 89 [sY s,az.B d] [jp s e] (.T []) [jp s (e++d)]:=by
 refine Y.I func89 rfl λh=>?_;have m:=h.B 1 a;refine g.aN b6 de a'.nil [] 100 a B (g.aH 1 (λb=>b<=c d) (λb:Nat=>[(0,sY s),(6,az.B d),(7,R (c d)),(8,R b)]) (λb=>[jp s (e++d.take b)]) (λb=>c d-b) 0 a D a D a w ?_);intro b k;by_cases j:b<c d
 .have o:d.getD (b:Int).toNat az.E=d.getD b 0:=du;refine g.aN b6 de a'.nil [9] 100 a bK (g.aL (a1.jP a underlying144 underlying3 (i:=0) a a a a) a a ?_);refine g.aN b6 de a'.nil [] 100 a bF (g.az (b+1) a D ?_ j w);simp_all
 obtain rfl:b=c d:=w;rw[c8];refine g.aN b6 de a'.nil [-9] 100 a D (g.aA ?_);exact bZ.dm [0] a D a a a ig
def Xv(b)(d)(j):Y q 92 [R j,ax (.Q [.val b])] [jp b d] (bg (!d.contains j)) [jp b d]:=by refine Y.I func92 rfl λh=>?_;refine g.aN b6 de a'.nil [] 100 a B ?_;refine g.aL (a1.jN a underlying144 underlying3 (λe=>Tryz.zeroValue4 e) (i:=0) a a a) a a ?_;exact g.aN b6 de a'.nil [] 100 a B (g.aJ [0] a D ig)
def Wp(b)(j):Y q 94 [fR b,ax (.Q [.int .i64 j])] [] (bg (b.1==j)) []:=by refine Y.I func94 rfl λd=>?_;exact aR a B (g.aw a)
def CL(b)(d:c b.2<=4000000)(e:c (ed b.2)<=4000000):Y q 91 [i1 b] [] (az.B (gk b)) []:=by refine Y.I func91 rfl λh=>?_;refine aR a B ?_;refine g.aB (Yh b d e) [] a ?_;exact aR a B (g.aw a)
def o0(g:X)(h:Nat)(b:Array MapEntry)(e:Nat):X->(Nat->Option Obj)->Prop:=λi a=>i=g/\∀d,a d=if d=h then f (.map b e)else n
def i7(a:MapEntry):Int:=match a.key with|.int _ b=>b|_=>0
structure o1(O:X)(d:m Int)(a7:Nat)(V:Array MapEntry)(s:Nat):Prop where
 cm:O=.map (f a7)
 a_:MapKept.Stamped V s
 cw:∀ak∈V.toList,ak.key=.int .i64 (i7 ak)/\a8 .i64 (i7 ak)/\ak.val=.bool l
 mem:∀j,j∈d↔j∈V.toList.map i7
def ji.j6{O}{d}(s:ji O d aa lc):∃b:{b:Nat×Array MapEntry×Nat // o1 O d b.1 b.2.1 b.2.2},o0 O b.1.1 b.1.2.1 b.1.2.2 aa lc:=by
 obtain⟨j,x,g,p,k,w,t,u,o⟩:=s;have i:∀a∈g.toList,a.key=.int .i64 (i7 a)/\a8 .i64 (i7 a)/\a.val=.bool l:=λa e=>by
  obtain⟨m,k1,q,r⟩:=u a e;have:i7 a=m:=by simp[i7,k1]
  rw[this];exact⟨k1,r,q⟩
 refine⟨⟨(x,g,p),k,t,i,λm=>?_⟩,j,w⟩;rw[o,hu];constructor
 .rintro⟨a,e,h⟩;exact⟨a,e,by simp[i7,h]⟩
 rintro⟨a,e,rfl⟩;exact⟨a,e,(i a e).1⟩
def o1.cT{O}{d}{a7}{V}{s}(e:o1 O d a7 V s)(g:o0 O a7 V s aa lc):ji O d aa lc:=by
 refine⟨g.1,a7,V,s,e.cm,g.2,e.a_,λb a=>⟨_,(e.cw b a).1,(e.cw b a).2.2,(e.cw b a).2.1⟩,λi=>?_⟩;rw[e.mem,hu];constructor
 .rintro⟨b,a,rfl⟩;exact⟨b,a,(e.cw b a).1⟩
 rintro⟨b,a,h⟩;exact⟨b,a,by simp[i7,h]⟩
def uu(a:Array MapEntry)(pre:m Int)(b:Array Nat):Prop:=pre.Nodup/\(∀e∈pre,e∈a.toList.map i7)/\∀d∈a.toList,d.born∈b↔i7 d∈pre
section
variable {O:X}{d:m Int}{a7 s:Nat}{V:Array MapEntry}(bk:o1 O d a7 V s)
include bk
def o1.ax:(V.toList.map i7).Nodup:=by
 have b:V.toList.map (·.key)=(V.toList.map i7).map (Value.int .i64):=by rw[uL];exact qb λa d=>(bk.cw a d).1
 have:=bk.a_.2.2;rw[b]at this;rw[List.Nodup,rq]at this;exact this.imp λb a=>b (eF (Value.int .i64) a)
def o1.step{pre}{dA}(i:uu V pre dA){b}(g:b∈V.toList)(j:b.born∉dA):uu V (pre++[i7 b]) (dA.push b.born)/\i7 b∉pre:=by
 have k:i7 b∉pre:=λm=>j ((i.2.2 b g).2 m);refine⟨⟨by grind[uu],λo e=>?_,λh a=>?_⟩,k⟩
 .rcases fG.1 e with e|e
  .exact i.2.1 o e
  rw[gO.1 e];exact List.mem_map_of_mem g
 simp only[Array.mem_push,fG,gO,i.2.2 h a];refine or_congr_right ⟨λd=>?_,λd=>?_⟩
 .rw[DW bk.a_.2.1 a g d]
 rw[DW bk.ax a g d]
def o1.over{pre}{dA}(g:uu V pre dA)(i:∀e∈V.toList,e.born∈dA):pre.Nodup/\∀b,b∈pre↔b∈d:=by refine⟨g.1,λb=>⟨λa=>(bk.mem b).2 (g.2.1 b a),λa=>?_⟩⟩;obtain⟨e,h,rfl⟩:=hu.1 ((bk.mem b).1 a);exact(g.2.2 e h).1 (i e h)
end
def ys{b}:∀a,a<1->(0::b)[a]?=f a:=λa d=>by simp_all
abbrev xK(a:X):M:=.fn (.func 187) [] [.Q [.val a]]
def Wy(O):Y q 147 [sY O] [] (ax (xK O)) []:=by refine Y.I func147 rfl λb=>?_;refine g.aN b6 de a'.nil [901] 100 a B ?_;refine g.freeze 1 0 a a a ?_;exact g.aN b6 de a'.nil [] 100 a B (g.aw a)
set_option maxRecDepth 20000 in
def Wz{ac:Type}{O}{d}{a7}{V}{s}(k:o1 O d a7 V s){h}{e}{u}(t w:ac->ar)(x:m Int->ac->Prop)(o:ac)(S:x [] o)(aM:∀j,t j≠.bk/\w j≠.bk)(i:∀pre b j K,b∉pre->pre.Nodup->(∀bD∈pre++[b],bD∈d)->x pre j->iP (ι:={p:ac // x (pre++[b]) p}) q 3 [R b] [.K (o0 O a7 V s),t j,w j,.loop h e u,.K K] l (λp=>[.K (o0 O a7 V s),t p.1,w p.1,.loop h e u,.K K])):
  bm (ι:={C:ac×m Int×Array Nat // (C.2.1.Nodup/\∀J,J∈C.2.1↔J∈d)/\x C.2.1 C.1}) q 187 [.n (.R (.aP 3)),ax (.Q [.val O])] [.K (o0 O a7 V s),t o,w o,.loop h e u] (λ_=>.T []) (λz=>[.K (o0 O a7 V s),t z.1.1,w z.1.1,.loop h e u,.K (k7 a7 s z.1.2.2)]):=by
 obtain rfl:=k.cm;have F:ur (o0 (.map (f a7)) a7 V s) a7 V s:=λY U W=>by rw[W.2];simp
 refine bm.bN func187 rfl rfl rfl (g.aQ ?_);refine g.aN b6 de a'.nil [] 100 a B (g.range (qH:=0) (a7:=a7) a a a a underlying144 (b1.j8 a) a F ?_);refine g.aN b6 de a'.nil [] 100 a B ?_;show b4 q _ (.loop _) _ _ _;refine b4.loop (br:=ac×m Int×Array Nat) (λb=>uu V b.2.1 b.2.2/\x b.2.1 b.1) (λ_=>[(0,.n (.R (.aP 3))),(5,.n (.R (.aP 4)))]) (λb=>[.K (o0 (.map (f a7)) a7 V s),t b.1,w b.1,.loop h e u,.K (k7 a7 s b.2.2)]) (λb=>c V.toList-c b.2.1) (o,[],#[]) ⟨⟨List.nodup_nil,by simp,by simp⟩,S⟩ (eO a D) a ?_;rintro⟨j,pre,dA⟩ ⟨I,N⟩;refine g.aQ ?_;refine g.aN b6 de a'.nil [] 100 a B (g.next (qH:=0) (kq:=4) (a7:=a7) (s:=s) (dA:=dA) (V:=V) a a a a a a a a F k.a_ (λak r=>⟨by rw[(k.cw ak r).1];rfl,by rw[(k.cw ak r).2.2];rfl⟩) λz=>?_);cases z with
 |over E=>
  refine g.aN b6 de a'.nil [-7] 100 a D (g.fH a a ?_);exact⟨⟨(j,pre,dA),k.over I E,N⟩,.inr a,a,qL (bT:=.K _) D (qL (aM j).1 (qL (aM j).2 a)),[],.T [],[],a,a,a,B⟩
 |R ak r G=>
  refine g.aN b6 de a'.nil [7] 100 a D ?_;obtain⟨k1,Q,M⟩:=k.cw ak r;obtain⟨A,T⟩:=k.step I r G;refine g.entry (qH:=0) (kq:=4) (a7:=a7) (s:=s) (dA:=dA) (V:=V) (ak:=ak) (bD:=.T [.R (.c (.int .i64 (i7 ak))),.R .any]) a a a a a a a F k.a_ r (λX=>⟨[ak.key,ak.val],a,?_,by rw[M];rfl,B⟩) ?_
  .rw[k1];exact Rd.int Q
  refine g.aN b6 de a'.nil [] 100 a B (g.yield (i pre (i7 ak) j _ T I.1 (λbD y=>(k.mem bD).2 (A.2.1 bD y)) N) a a a a a a λp=>?_);refine g.aN b6 de a'.nil [-13] 100 a D ⟨(p.1,pre++[i7 ak],dA.push ak.born),⟨A,p.2⟩,?_,eO a D,a⟩;have:=y2 _ _ A.1 A.2.1;simp at this⊢;omega
abbrev AL(d:m Int):Type:={b:m Int // b.Nodup/\∀a,a∈b↔a∈d}
set_option maxRecDepth 20000 in
def UB(O)(d)(J:c d<=4000000):
  bm (ι:=AL d) q 227 [ax (.B l 0 0 λ_=>[]),ax (xK O)] [jp O d] (λb=>cE 1 (.B (c b.1) 1 0 (c b.1))) (λb=>[jp O d,jo (c b.1) b.1]):=by
 refine bm.e6 func227 rfl rfl rfl λI=>?_;refine df.seq (b4.bw (g.aQ ?_));refine aR a B (df.seq (df.seq (b4.bw (g.aQ ?_))));refine g.gA 0 (λb:{b:Nat×Array MapEntry×Nat // o1 O d b.1 b.2.1 b.2.2}=>o0 O b.1.1 b.1.2.1 b.1.2.2) a (λz e h=>ji.j6 h) ?_;rintro⟨⟨K,w,E⟩,b⟩;refine g.ep 1 0 3 1 (az.fn []) a a ?_;refine aR a B (df.block ?_);refine df.rangeFunc (o':=fj [.Q [.val O]]) (b1.callee a) (Wz (ac:=m Int) b (λo=>.cells 31 [.O 2 (.B (c o) 1 0 (c o))]) (λo=>jo (c o) o) (λpre o=>o=pre) [] a (λo=>⟨by simp,by simp⟩) ?_) (λp=>⟨a,by simp⟩) λp=>⟨.normal,a,?_⟩
 .rintro pre i o r j A s rfl;have F:c o+1<=4000000:=by have:=y2 (o++[i]) d N s;simp at this;omega
  refine iP.intro (u:=n) a a a a (g.aQ ?_);refine aR a B ⟨a,a,g.aQ ?_⟩;refine aR a (by simp[a8,show dZ.bytes=8 from a];omega) ?_;have k:=az.aW o i;refine⟨a,a,⟨o++[i],a⟩,jW a ?_⟩;simp only[U.Y,U,dm,gC,ba,a9];and_intros<;>first|exact k|rfl|exact bs.same
 show df q _ _ _ _ _;obtain⟨⟨o,pre,y⟩,t,x⟩:=p;obtain rfl:o=pre:=x;refine b4.bw (g.aQ ?_);refine g.gA (ι:=Unit) 0 (λ_=>ji O d) a (λz e h=>⟨(),b.cT h⟩) λ_=>?_;refine aR a B (g.bW (λk C D b=>⟨⟨o,t⟩,b⟩) (g.aJ [0,2] a ?_ ys));simp
def U4(O)(d)(e:c d<=4000000):
  bm (ι:=AL d) q 186 [ax (xK O)] [jp O d] (λb=>cE 1 (.B (c b.1) 1 0 (c b.1))) (λb=>[jp O d,jo (c b.1) b.1]):=by refine bm.cf func186 rfl rfl rfl λh=>?_;refine aR a B (g.bV (UB O d e) [0] a a a a D a a a bn a bn a λb=>?_);refine aR a B (g.bu b (g.aJ [0,1] a ?_ ys));simp
def ace{d aP}(j:aP.Pairwise (· < ·))(m:∀g,g∈aP↔g∈d)(a:AL d):j3 a.1=aP:=by
 have h:(j3 a.1).Pairwise λb e=>b<=e:=(List.pairwise_mergeSort (λb e o h i=>by grind) (λb e=>by grind) a.1).imp λk=>by grind
 have i:(j3 a.1).Nodup:=(zF _).nodup_iff.2 a.2.1;refine Bj ?_ j λg=>by rw[(zF _).mem_iff,a.2.2,m]
 exact(h.and i).imp λk=>by omega
def Yp(O)(b aP:m Int)(o:c b<=4000000)(p:aP.Pairwise (· < ·))(k:∀e,e∈aP↔e∈b):
  Y q 146 [ax (xK O)] [jp O b] (cE 1 (.B (c aP) 1 0 (c aP))) [jp O b,jo (c aP) aP]:=by
 refine Y.I func146 rfl λs=>?_;refine aR a B (g.a2 (U4 O b o) [0] a bn λd=>?_);have j:=ace p k d;have t:=y2 d.1 b d.2.1 λe r=>(d.2.2 e).1 r;have i:=CQ (q:=q) d.1 w;have h:c d.1=c aP:=by rw[<-j,qU]
 rw[j,h]at i;rw[h];refine aR a B (g.aB i [1] a (aR a B (g.aJ [0,1] a ?_ ys)));simp
def W6(O)(d aP)(h:c d<=4000000)(e:aP.Pairwise (· < ·))(i:∀b,b∈aP↔b∈d):
  Y q 107 [sY O] [jp O d] (az.B aP) [jp O d]:=by
 have j:Y q 107 [sY O] [jp O d] (cE 1 (.B (c aP) 1 0 (c aP))) ([jp O d]++[jo (c aP) aP]):=by refine Y.I func107 rfl λk=>?_;refine g.aN b6 de a'.nil [] 100 a B (g.aB (Wy O) [] a (g.aN b6 de a'.nil [] 100 a B (g.aB (Yp O d aP h e i) [0] a (g.aN b6 de a'.nil [] 100 a B (g.aJ [0,1] a ?_ ys)))));simp
 exact Y.bK j a D a (bC _)
abbrev jO(b:Nat)(a:m Int):ar:=.q 3 1 b (az.fn a)
end
section
variable {q:af S}
abbrev SD:={a:m Int // c a<=5}
def Wv(A)(e:Nat->Int)(u:Bytes e)(h:Nat)(p:h<=500000)(j:A<=1048576):
  bm (ι:=SD) q 47 [aI 0 0] [e7 A e h] (λx=>az.B x.1) (λ_=>[e7 A e (h+5:Nat)]):=by
 refine bm.cf func47 rfl rfl rfl λF=>?_;refine a4 [902] a B (g.bG 3 3 1 a a ?_);refine aR a B (g.aH 2 (λb:Nat×m Int=>1<=b.1/\b.1<=6/\c b.2+1<=b.1) (λb=>[(0,aI 0 0),(3,.n (.R (.x 1 1 (c b.2) (az.fn b.2)))),(4,R b.1)]) (λb=>[e7 A e (h+(b.1-1):Nat),.x 3 1 (c b.2) (az.fn b.2)]) (λb=>6-b.1) (1,[]) a D a D a ⟨by decide,by decide,by decide⟩ ?_);rintro⟨d,i⟩ ⟨r,o,t⟩;simp only at r o t;by_cases E:d<=5
 .refine a4 [7] a bv (g.a2 (gF A e u (h+(d-1)) 2 w j w) [0] a bn ?_);rintro⟨y,z,C⟩;by_cases k:y=0
  .have s:=az.aW i (d:Int);refine a4 [12] a ?_ (g.az (d+1,i++[(d:Int)]) a ?_ ?_ ⟨by omega,by omega,by grind⟩ w)
   .simp only[U,k,a8,show dZ.bytes=8 from a,gm,ba,a9];exact fE
   .exact RA
   exact RA
  refine a4 [-12] a bF (g.az (d+1,i) a D ?_ ⟨by omega,by omega,by exact bv⟩ w);exact bv
 obtain rfl:d=6:=w;refine a4 [-7] a D (g.aA ?_);refine aR a B (g.bu ⟨i,by omega⟩ (g.aJ [0] a ?_ kR));simp
def z1:m bA:=[[122,122],[98,46],[104,101,108,108,111,46,46,46]]
def aeM:bs 3 (λa=>([[.S [122,122]],[.S [98,46]],[.S [104,101,108,108,111,46,46,46]]]:m (m M)).getD a []) (bS.fn z1):=by intro a b;have:a=0∨a=1∨a=2:=w;rcases this with rfl|rfl|rfl<;>rfl
set_option maxRecDepth 20000 in
def WS(A)(b:Nat->Int)(h:Bytes b)(d:Nat)(m:d<=500000)(e:A<=1048576):
  bm (ι:=dq) q 46 [aI 0 0] [e7 A b d] (λo=>ev o) (λ_=>[e7 A b (d+4:Nat)]):=by
 refine bm.bE bb func46 rfl rfl rfl λr=>?_;refine aR a B (g.a2 (gF A b h d 5 w e w) [0] a bn ?_);rintro⟨i,_⟩;refine aR a B (g.a2 (gF A b h (d+1) 5 w e w) [0] a bn ?_);rintro⟨k,_⟩;refine aR a B (g.a2 (gF A b h (d+1+1) 3 w e w) [0] a bn ?_);rintro⟨j,_⟩;refine aR a B (g.bV (Xx A b h (d+1+1+1) w e z1 b').tocI [0] a a a a ?_ a a a bn a bn a ?_)
 .simp only[U.Y,U,ba,a9];exact⟨a,aeM⟩
 rintro -;generalize z1.getD (qO A b (d+1+1+1) (c z1)).toNat []=p;refine aR a B (g.bg (i,k,j,p) [0] ?_ hi);simp
end
structure p1(p:dP):Prop extends n5 p.1 where
 gv:c p.2.1<=4000000
 fJ:c p.2.2<=4000000
def GL{d}(a:e<c d):c (ed (d.getD e (0,[])).2)<=c (hv d):=by have:=GK d (e+1);grind[A']
def ac_(h)(p):hp h p=(h8 h p.1&&(aA (c p.1.2.1)).all (λa=>!(gk (p.1.2.1.getD a (0,[]))).any λb=>!p.2.1.contains b)&&(aA (c p.2.2)).all (nJ p.1.1 p.2.2)):=by rw[hp,aav];cases h8 h p.1<;>simp
def YF(h)(p)(s:p1 p):Y (af.ay S) 58 [R h,gE p] [] (bg (hp h p)) []:=by
 refine Y.I func58 rfl λV=>?_;have j:a' (af.ay S) [(88,xP)]:=.cons E2 .nil;have bD:=a2.l p.1.1;have aa:=bh.l p.1.2.1;have ef:=a3.l p.1.2.2;have a7:=s.ton5;rw[ac_];cases bY:h8 h p.1
 .exact g.aN b6 de j [14] 100 a Se (g.aw a)
 refine g.aN b6 de j [-14] 100 a Se ?_;rw[fX];refine g.hP a a a λo=>?_;refine g.aN b6 de j [] 100 a B (g.aB (I1 o [] p.2.1) [1] a ?_);rw[p_];refine g.aN b6 de j [905] 100 a B (g.freeze 5 2 a a a ?_);refine g.aN b6 de j [] 100 a B (g.aH 3 (λe=>e<=c p.1.2.1/\∀k,k<e->(!(gk (p.1.2.1.getD k (0,[]))).any λi=>!p.2.1.contains i)=l) (λe:Nat=>[(0,R h),(3,aI 0 0),(5,ax (.Q [.val o])),(22,bh.B p.1.2.1),(23,R (c p.1.2.1)),(24,R e)]) (λ_=>[gx p,jp o p.2.1,.N]) (λe=>c p.1.2.1-e) 0 a D a D a ⟨by omega,by omega⟩ ?_);have H:=s.fe;rintro e ⟨u,q⟩;by_cases t:e<c p.1.2.1
 .have b:p.1.2.1.getD (e:Int).toNat bh.E=p.1.2.1.getD e (0,[]):=N;have A:=s.dY _ (ov (O:=(0,[])) t);have Q:=GL t;have I:=s.eC;have L:=lM (T:=λk=>!(gk (p.1.2.1.getD k (0,[]))).any λi=>!p.2.1.contains i) t;have z:=jn (T:=λk=>!(gk (p.1.2.1.getD k (0,[]))).any λi=>!p.2.1.contains i) (e:=e);generalize p.1.2.1.getD e (0,[])=m at *;refine g.aN b6 de j [25] 100 a bK ?_;rw[b];refine g.aB (CL m A.1 w) [] a (g.aN b6 de j [] 100 a B (g.aB (VP (gk m) 92 [.val o] (ji o p.2.1) (λi=>!p.2.1.contains i) λi _=>Xv o p.2.1 i) [1] a ?_));cases G:(gk m).any λi=>!p.2.1.contains i with
  |true=>
   refine g.aN b6 de j [] 100 a B (g.aS (bZ.zero a ?_));exact bF
  |false=>
   refine g.aN b6 de j [] 100 a ?_ (g.az (e+1) a D D ⟨t,z q N⟩ w);exact bF
 obtain rfl:e=c p.1.2.1:=w;rw[gf.2 q,fX];refine g.aN b6 de j [-25] 100 a D (g.aA ?_);refine g.aN b6 de j [] 100 a B ?_;have E:=s.fJ;refine g.aH 3 (λe=>e<=c p.2.2/\∀k,k<e->nJ p.1.1 p.2.2 k=l) (λe:Nat=>[(0,R h),(3,aI 0 0),(34,az.B p.2.2),(35,R (c p.2.2)),(36,R e)]) (λ_=>[gx p,jp o p.2.1,.N]) (λe=>c p.2.2-e) 0 a D a D a ⟨by omega,by omega⟩ ?_;rintro e ⟨u,q⟩;by_cases t:e<c p.2.2
 .have b:p.2.2.getD (e:Int).toNat az.E=p.2.2.getD e 0:=N;have C:p.2.2.getD (e-1) az.E=p.2.2.getD (e-1) 0:=rfl;have y:nJ p.1.1 p.2.2 e=((p.1.1.any λT=>T.1==p.2.2.getD e 0)&&ki (λm=>m) 0 p.2.2 e):=rfl;have F:=qd (aj:=λm:Int=>m) (O:=0) (d:=p.2.2) (e:=e);generalize p.2.2.getD e 0=i at *;generalize p.2.2.getD (e-1) 0=x at *;have hY:a' (af.ay S) [(93,dS [a2.B p.1.1,ax (.fn (.func 94) [] [.Q [.int .i64 i]])] (bg (p.1.1.any λT=>T.1==i)))]:=.cons (d9 (VQ p.1.1 94 [.int .i64 i] (λT=>T.1==i) λT _=>Wp T i)) .nil;refine g.aN b6 de j [37,914] 100 a bK ?_;rw[b];refine g.freeze 9 3 a a a ?_;have fin:p.1.1.any (λT=>T.1==i)=l->ki (λm=>m) 0 p.2.2 e=l->nJ p.1.1 p.2.2 e=l:=λG J=>by grind
  by_cases M:e=0
  .subst M;cases r:p.1.1.any (λT=>T.1==i)with
   |true=>
    refine g.aN b6 de hY [-43,-60] 100 a ?_ (g.az 1 a D D ⟨t,jn q (fin r a)⟩ w);simp[a8,r,c6.B]
   |false=>
    refine g.aN b6 de hY [-43,60] 100 a bF (g.aS (bZ.zero a ?_));exact j8
  by_cases K:x<i
  rotate_left
  .refine g.aN b6 de hY [43,51,60] 100 a ?_ (g.aS (bZ.zero a ?_))
   .simp[-al,C,a8];omega
   exact j8
  cases r:p.1.1.any (λT=>T.1==i)with
  |true=>
   refine g.aN b6 de hY [43,-51,-60] 100 a ?_ (g.az (e+1) a D D ⟨t,jn q (fin r N)⟩ w);exact Pk
  |false=>
   refine g.aN b6 de hY [43,-51,60] 100 a Pk (g.aS (bZ.zero a ?_));exact j8
 obtain rfl:e=c p.2.2:=w;rw[gf.2 q];refine g.aN b6 de j [-37] 100 a D (g.aA ?_);exact g.aN b6 de j [] 100 a B (g.aw a)
abbrev xQ:bI:=ek c7 (AO C0) (λb a=>bg (hp b a)) λ_ a=>[p1 a]
def E3:bL (af.ay S) 58 xQ:=.bl λb d a=>YF b d a
section
variable {q:af S}
inductive SC (ι:Type)
 |cy
 |h5 (bk:ι)
 |iW (bk:ι)
 |done (bk:ι) (aa:X)
abbrev Em{k1}(b:Nat)(a:Nat->Int)(e:Int)(g:Bool):SC (Gl k1)->ar
 |.cy=>match g with
  |false=>e7 b a e
  |true=>e7 b a (e+1)
 |.h5 d|.iW d|.done d _=>e7 b a d.1.2
section
variable {i:Nat->Int}{bz:Int}{k1:Nat}{p:dP}{T:Gl k1->Bool}
end
end
abbrev aeK(a:eE):ar:=.cells 38 (fx a)
def aeQ(p):fD p=(hp p.1 p.2.1&&decide (c p.2.2.2.1=2)&&decide (c p.2.2.2.2=2)&&(aA 2).all (ww p)):=by unfold fD;cases hp p.1 p.2.1<;>cases decide (c p.2.2.2.1=2)<;>cases decide (c p.2.2.2.2=2)<;>simp
def CS(p)(A:p1 p.2.1):Y (af.ay S) 28 [fb p] [] (bg (fD p)) []:=by
 refine Y.I func28 rfl λE=>?_;have e:a' (af.ay S) [(58,xQ)]:=.cons E3 .nil;have C:=a2.l p.2.1.1.1;have j:=bh.l p.2.1.1.2.1;have h:=a3.l p.2.1.1.2.2;have d:=az.l p.2.1.2.1;have aj:=az.l p.2.1.2.2;rw[aeQ];cases bY:hp p.1 p.2.1
 .exact g.aN b6 de e [11,17,22] 100 a (by simp[bY,C,j,h,d,aj,a2.U,bh.U,a3.U,az.U,A]) (g.aw a)
 by_cases o:c p.2.2.2.1=2
 rotate_left
 .exact g.aN b6 de e [-11,17,22] 100 a FX (g.aw a (by simp[nj o]))
 by_cases m:c p.2.2.2.2=2
 rotate_left
 .exact g.aN b6 de e [-11,-17,22] 100 a FX (g.aw a (by simp[nj m]))
 refine g.aN b6 de e [-11,-17,-22] 100 a FX ?_;rw[fa o,fa m,fX,fX,fX];refine g.aH 1 (λb=>b<=2/\∀k,k<b->ww p k=l) (λb:Nat=>[(1,aI 0 0),(24,a3.B p.2.2.2.1),(25,R (c p.2.2.2.1)),(26,R b)]) (λ_=>[aeK p]) (λb=>2-b) 0 a D a D a ⟨by omega,by omega⟩ ?_;rintro b ⟨y,i⟩;by_cases t:b<2
 .have O:p.2.2.2.1.getD b a3.E=qC p b:=rfl;have s:p.2.2.2.2.getD b az.E=rM p b:=rfl;have z:ww p b=(decide (0<=(qC p b).1/\(qC p b).1<=9)&&decide (0<=(qC p b).2)&&decide (0<=rM p b/\rM p b<=2)):=rfl;by_cases q:0<=(qC p b).1
  rotate_left
  .refine g.aN b6 de e [27,34,39,44,52,59] 100 a F1 (g.aS (bZ.zero a ?_));exact j8
  by_cases r:(qC p b).1<=9
  rotate_left
  .refine g.aN b6 de e [27,-34,39,44,52,59] 100 a F1 (g.aS (bZ.zero a ?_));exact j8
  by_cases u:0<=(qC p b).2
  rotate_left
  .refine g.aN b6 de e [27,-34,-39,44,52,59] 100 a F1 (g.aS (bZ.zero a ?_));exact j8
  by_cases x:0<=rM p b
  rotate_left
  .refine g.aN b6 de e [27,-34,-39,-44,52,59] 100 a RV (g.aS (bZ.zero a ?_));exact j8
  by_cases F:rM p b<=2
  rotate_left
  .refine g.aN b6 de e [27,-34,-39,-44,-52,59] 100 a RV (g.aS (bZ.zero a ?_));exact j8
  refine g.aN b6 de e [27,-34,-39,-44,-52,-59] 100 a ?_ (g.az (b+1) a D D ⟨t,jn i N⟩ w);simp[-al,O,s,a8];omega
 obtain rfl:b=2:=w;rw[gf.2 i];refine g.aN b6 de e [-27] 100 a bK (g.aA ?_);exact g.aN b6 de e [] 100 a B (g.aw a)
section
variable {q:af S}[q.bZ]
abbrev d_:=Int×Int×m cN×dq×m Int
abbrev IY(a:d_):m Q:=[.c (.int .i64 a.1),.c (.int .i64 a.2.1),cL bu a.2.2.1,.c (.int .i64 a.2.2.2.1.1),.c (.int .i64 a.2.2.2.1.2.1),.c (.int .i64 a.2.2.2.1.2.2.1),.c (.S a.2.2.2.1.2.2.2),cL az a.2.2.2.2]
abbrev ns(a:d_):y:=.n (.agg (IY a))
abbrev ae':m Q:=[.c (.int .i64 0),.c (.int .i64 0),cG,.c (.int .i64 0),.c (.int .i64 0),.c (.int .i64 0),.c (.S []),cG]
abbrev afa:ar:=.cells 45 ae'
abbrev er:dq:=(0,0,0,[])
structure Sx(h:Nat)(bk:d_×Nat):Prop where
 d':c bk.1.2.2.1<=7
 jh:c bk.1.2.2.2.2<=5
 jv:h<=bk.2
 ja:bk.2<=h+500
set_option maxRecDepth 20000 in
def Vy(A)(b:Nat->Int)(i:Bytes b)(h)(u:h<=40000)(e:A<=1048576):
  bm (ι:={k:d_×Nat // Sx h k}) q 19 [aI 0 0] [e7 A b h] (λk=>ns k.1.1) (λk=>[e7 A b k.1.2]):=by
 refine bm.bE bb func19 rfl rfl rfl λS=>?_;refine aR a B (g.a2 (gF A b i h 9 w e w) [0] a bn ?_);rintro⟨d,E,F⟩;by_cases T:d<=3
 .apply g.cj [(0,aI 0 0),(2,aI 1 0)] [e7 A b (h+1:Nat),afa]
  .intro dy;have:d=0∨d=1∨d=2∨d=3:=w;rcases this with rfl|rfl|rfl|rfl
   .exact a4 [6,906] a D kD
   .exact a4 [-6,7,906] a D kD
   .exact a4 [-6,-7,8,906] a D kD
   exact a4 [-6,-7,-8,9,906] a D kD
  refine aR a B (g.a2 (gF A b i (h+1) 2 w e w) [0] a bn ?_);rintro⟨j,m,o⟩;refine aR a wP (g.a2 (YN A b i (h+1+1) w e) [0] a bn ?_);rintro⟨C,s,K,k1,t,J,y,R⟩;simp only;refine aR a B (g.bg ⟨((1,1+j,C,er,[]),k1),J,by simp,by grind,by grind⟩ [0] ?_ hi);simp
 by_cases N:d=4
 .subst N;refine a4 [-6,-7,-8,-9,17] a D (g.a2 (gF A b i (h+1) 4 w e w) [0] a bn ?_);rintro⟨j,m,o⟩;refine aR a B (g.bg ⟨((2,j,[],er,[]),h+1+1),by simp,by simp,by grind,by grind⟩ [0] ?_ hi);simp
 by_cases O:d=5
 .subst O;refine a4 [-6,-7,-8,-9,-17,22] a D (g.a2 (gF A b i (h+1) 2 w e w) [0] a bn ?_);rintro⟨j,m,o⟩;by_cases r:j=0
  .refine a4 [25] a (by simp[r]) (g.bg ⟨((3,0,[],er,[]),h+1+1),by simp,by simp,by grind,by grind⟩ [0] ?_ hi);simp
  refine a4 [-25] a (by simp[r]) (g.a2 (WS A b i (h+1+1) w e) [0] a bn ?_);intro x;refine aR a B (g.bg ⟨((3,0,[],x,[]),h+1+1+4),by simp,by simp,by grind,by grind⟩ [0] ?_ hi);simp
 by_cases I:d=6
 .subst I;refine a4 [-6,-7,-8,-9,-17,-22,31] a D (g.a2 (Wv A b i (h+1) w e) [0] a bn ?_);rintro⟨db,z⟩;refine aR a B (g.bg ⟨((4,0,[],er,db),h+1+5),by simp,z,by grind,by grind⟩ [0] ?_ hi);simp
 by_cases Q:d=7
 .subst Q;refine a4 [-6,-7,-8,-9,-17,-22,-31,36] a D (g.bg ⟨((5,0,[],er,[]),h+1),by simp,by simp,by grind,by grind⟩ [0] ?_ hi);simp
 obtain rfl:d=8:=w;refine a4 [-6,-7,-8,-9,-17,-22,-31,-36] a D (g.a2 (gF A b i (h+1) 8 w e w) [0] a bn ?_);rintro⟨j,m,o⟩;refine aR a B (g.a2 (gF A b i (h+1+1) 4 w e w) [0] a bn ?_);rintro⟨p,M,nT⟩;refine aR a B (g.bg ⟨((j,p,[],er,[]),h+1+1+1),by simp,by simp,by grind,by grind⟩ [0] ?_ hi);simp
abbrev g1(d:Int)(e:dP)(a:dq)(b:Nat):m Q:=.c (.int .i64 d)::(wl e++[.c (.int .i64 a.1),.c (.int .i64 a.2.1),.c (.int .i64 a.2.2.1),.c (.S a.2.2.2),.O b (.B 2 2 0 2),.O (b+1) (.B 2 1 0 2)])
abbrev lq(db:m (Int×Int))(a:m Int):m ar:=[.q 58 2 2 (a3.fn db),.q 3 1 2 (az.fn a)]
abbrev yM:m (Int×Int):=[(0,0),(0,0)]
abbrev yp:m Int:=[0,0]
omit [q.bZ]in
def JV(h)(bY:ce h=l):Y q 21 [R h] [] (.T [.agg (g1 h hr er 0),.R (.c (.bool l))]) (lq yM yp):=by
 refine Y.bh bb func21 rfl rfl rfl λj=>?_;have b:a' q [(48,rD)]:=.cons tU .nil;refine a_ b [-7,903] a k3 (g.region ?_);refine tH b [] 3 a B (g.gO bb a a a a a a ?_);refine g.gO bb a a a a a a ?_;refine b9 b a B (g.bb [.cells 38 (g1 h hr er 1),.q 58 2 2 (a3.fn yM),.q 3 1 2 (az.fn yp),.cells 38 (g1 h hr er 1)] a ?_ ?_)
 .simp only[U.Y,U,ba,a9];and_intros<;>first|rfl|exact bs.nil|(intro i d;match i,d with|0,_=>rfl|1,_=>rfl)
 refine g.cc () [1,2] ?_ (λk e=>absurd e D);simp
def EH(d:Int)(b:cc)(a:Int)(e:m cN):cc×Bool:=
 if h8 d b=l/\(1<=a/\a<=2)/\dO e=l then(if fC d b e=l then b else eI d b a e,!fC d b e)else(([],[],[]),v)
end
section
variable {q:af S}
def yr:∀a,a<2->([0,1]:m Nat)[a]?=f a:=λa b=>by
 match a,b with
 |0,_=>rfl
 |1,_=>rfl
def eH(a:Int)(e:cc)(d:dq)(b:m (Int×Int)×m Int):m (Int×Int)×m Int:=
 if b.2.getD (a-1).toNat 0=0 then(b.1.set (a-1).toNat (e6 (b.1.getD (a-1).toNat (0,0)) (g_ e d).2.2).1,b.2.set (a-1).toNat (e6 (b.1.getD (a-1).toNat (0,0)) (g_ e d).2.2).2)else b
def ps{bU}{b}{d}{bk}(a:c bk.1=2)(e:c bk.2=2):(eH bU b d bk).1.length=2/\(eH bU b d bk).2.length=2:=by unfold eH;split<;>simp[a,e]
abbrev Fe:ar:=.cells 58 [.c (.int .i64 0),.c (.int .i64 0)]
abbrev y0(a:Int×Int):ar:=.cells 58 [.c (.int .i64 a.1),.c (.int .i64 a.2)]
abbrev afb:m Q:=[.c (.int .i64 0),cG,cG,cG,cG,cG,.c (.int .i64 0),.c (.int .i64 0),.c (.int .i64 0),.c (.S []),cG,cG]
abbrev fN:ar:=.cells 38 afb
def II(b:Int)(e:dP)(d:dq)(db:m (Int×Int))(a:m Int)(g:Int×Int)(_ h i:Bool):m ar:=
 match h,i with
 |false,_=>lq db a++[.cells 38 (g1 b e d 0),fN]
 |true,v=>lq db a++[.cells 38 (g1 b e d 0),fN,Fe]
 |true,l=>lq db a++[.cells 38 (g1 b e d 0),fN,y0 g]
abbrev ae0(i:dP)(g:dq)(a:Int)(h:Int×Int)(d:cc)(b:(Int×Int)×Int)(e:Nat):y:=
 [aI 2 10,cE 0 (.B 2 2 0 2),R a,R (a-1),cE 0 (.bx 2 2 (0+(a-1).toNat) 0),kO h,aI 2 1,aI 2 1,bX i.1,aI 2 6,ev g,bX d,a3.B d.2.2,m0 b,m0 b,kO b.1,R b.2,aI 4 0,.any,R b.2].getD e .any
set_option maxRecDepth 20000 in
def CI(h)(p)(d)(b)(db)(C)(u:oY p.1)(M:1<=b/\b<=2)(N:c db=2)(J:c C=2):
  Y q 52 [.n (.agg (g1 h p d 0)),R b] (lq db C) (.n (.agg (g1 h p d 0))) (lq (eH b p.1 d (db,C)).1 (eH b p.1 d (db,C)).2):=by
 refine Y.bh bb func52 rfl rfl rfl λI=>?_;have Q:=(r9 (q:=q) u d).eO.aM;have aM:=(r9 (q:=q) u d).cP;unfold eH;generalize g_ p.1 d=e at *;have K:(b-1).toNat<2:=w;have A:(0:Nat)+(b-1).toNat<2:=w;have E:db.getD (b-1).toNat (0,0)=db.getD (0+(b-1).toNat) a3.E:=q_;have S:(db.getD (0+(b-1).toNat) a3.E)=(db.getD (0+(b-1).toNat) a3.E):=rfl;rw[E];have F:=X7 (q:=q) (db.getD (0+(b-1).toNat) a3.E) e.2.2 Q;generalize e6 (db.getD (0+(b-1).toNat) a3.E) e.2.2=j at *;have i:a' q [(82,dS [bX p.1,ev d] (bX e)),(81,dS [kO (db.getD (0+(b-1).toNat) a3.E),a3.B e.2.2] (m0 j))]:=.cons (d9 aM) (.cons (d9 F) .nil);have z:a8 .i64 (b-1):=m5;have cx:0<=b-1/\b-1<((2:Nat):Int):=w;have D:2=2/\0+(b-1).toNat<2:=⟨rfl,A⟩;refine bd i [901] a B ?_;refine g.b9 b6 (ae0 p d b (db.getD (0+(b-1).toNat) a3.E) e j) (kS (II h p d db C j.1) 19 17 18) a a a a
  ⟨.aC,
  .aC,
  .aC,
  .cK bb i (cx:=by exact z),
  .cK bb i (cx:=by exact cx),
  .cK bb i (cx:=by exact D),
  .aC,
  .aC,
  .aC,
  .aC,
  .aC,
  .cK bb i (cx:=by exact a),
  .aC,
  .cK bb i (cx:=by exact a),
  .aC,
  .aC,
  .aC,
  bV.dR a a a a a (λx=>by cases x<;>exact dT (bf:=[]) bb i (aq:=f _) a B),
  bV.dS a a a a a (λx=>by cases x<;>exact dT (bf:=[]) bb i (aq:=f _) a B),
  bV.dQ a a a a (λs O=>by cases s<;>cases O<;>exact aT.w),B⟩ ?_
 intro y r;show g q _ _ _ _ _ (II h p d db C j.1 (y 19) (y 17) (y 18));rw[r 19 b',r 17 b',r 18 b'];have t:C.getD (0+(b-1).toNat) az.E=C.getD (b-1).toNat 0:=q_;by_cases o:C.getD (b-1).toNat 0=0
 .rw[bl o];refine bd i [30] a ?_ ?_
  .simp only[U,t,o,a8,gm,ba,a9];omega
  have k:=a3.cV db (0+(b-1).toNat) j.1 2 w;have m:=az.cV C (0+(b-1).toNat) j.2 2 w;rw[cV]at k m;refine g.bb [.q 58 2 2 (a3.fn (db.set (b-1).toNat j.1)),.q 3 1 2 (az.fn (C.set (b-1).toNat j.2)),.cells 38 (g1 h p d 0),.cells 38 (g1 h p d 0),y0 j.1] a ?_ ?_
  .simp only[U.Y,U,cV,ba,a9];and_intros<;>first|exact bs.same|exact k|exact m|rfl
  exact Qn
 rw[bj o];refine bd i [-30] a ?_ ?_
 .simp only[U,t,a8,eW,ea,ba,a9];and_intros<;>first|exact o|omega
 exact Qn
abbrev eR:=dP×dq×m (Int×Int)×m Int
def k2(d:Int)(b:eR)(a:Int)(e:m cN):eR×Bool:=
 if(eH a b.1.1 b.2.1 b.2.2).2.getD (a-1).toNat 0=0/\b.2.1.1=0 then
  (if(fL d b.1 a e).2=l then(((fL d b.1 a e).1,b.2.1,eH a (fL d b.1 a e).1.1 b.2.1 (eH a b.1.1 b.2.1 b.2.2)),l)else((b.1,b.2.1,eH a b.1.1 b.2.1 b.2.2),v))
 else((b.1,b.2.1,eH a b.1.1 b.2.1 b.2.2),v)
def cd(d:Int)(a:eR)(b:d_):eR×Bool:=
 if b.1=1 then(if(1<=b.2.1/\b.2.1<=2)/\dO b.2.2.1=l then k2 d a b.2.1 b.2.2.1 else(a,v))
 else if b.1=2 then(if 1<=b.2.1/\b.2.1<=2 then((a.1,a.2.1,eH b.2.1 a.1.1 a.2.1 a.2.2),l)else(a,v))
 else if b.1=3 then((a.1,b.2.2.2.1,a.2.2),l)
 else if b.1=4 then(if c a.1.2.2=0 then(((jP d a.1.1 b.2.2.2.2).1,a.2),l)else(a,v))
 else if b.1=5 then((h7 a.1,a.2),qx a.1)
 else(a,v)
structure eJ(j:Nat)(b:eR):Prop where
 a:fQ (6000+240*j) b.1
 bm:c b.2.2.1=2
 b3:c b.2.2.2=2
def Ev{p}{bU}{o}(e:fQ j p)(d:(fL h p bU o).2=l):fQ (j+240) (fL h p bU o).1/\(fL h p bU o).1=l9 h p bU o/\hp h p=l/\(1<=bU/\bU<=2)/\dO o=l/\fC h p.1 o=v:=by
 unfold fL at d⊢;split at d
 .rename_i b;rw[bl b];simp only[qG,cm,bw]at b;split at d
  .cases d
  rename_i s;have s:fC h p.1 o=v:=Fv;rw[bj Gi];exact⟨e.cM b.2 b.1.2 s,a,b.1.1,b.1.2,b.2,s⟩
 cases d
def eJ.cM{b}{bU}{o}(t:eJ j b):eJ (j+1) (k2 h b bU o).1:=by
 have bY:=ps (bU:=bU) (b:=b.1.1) (d:=b.2.1) (bk:=b.2.2) t.bm t.b3;unfold k2;split
 .split
  .rename_i i;have a:=ps (bU:=bU) (b:=(fL h b.1 bU o).1.1) (d:=b.2.1) (bk:=eH bU b.1.1 b.2.1 b.2.2) bY.1 bY.2;exact⟨(Ev t.a i).1.mono w,a.1,a.2⟩
  exact FR
 exact FR
def eJ.mono{j A}{b}(a:eJ j b)(d:j<=A):eJ A b:=⟨a.a.mono w,a.bm,a.b3⟩
def eJ.do{b}{ak}(t:eJ j b):eJ (j+1) (cd h b ak).1:=by
 unfold cd;split
 .split
  .exact t.cM
  exact t.mono w
 split
 .split
  .have bY:=ps (bU:=ak.2.1) (b:=b.1.1) (d:=b.2.1) (bk:=b.2.2) t.bm t.b3;exact FR
  exact t.mono w
 split
 .exact⟨t.a.mono w,t.bm,t.b3⟩
 split
 .split
  .exact⟨(fQ.ic t.a.bj).mono w,t.bm,t.b3⟩
  exact t.mono w
 split
 .exact⟨(fQ.step t.a).mono w,t.bm,t.b3⟩
 exact t.mono w
abbrev Cu(b:Int)(a:eR):y:=.n (.agg (g1 b a.1 a.2.1 0))
abbrev E5(d:Int)(a:eR)(b:Bool):y:=.T [.agg (g1 d a.1 a.2.1 0),.R (.c (.bool b))]
abbrev hN(a:eR):m ar:=lq a.2.2.1 a.2.2.2
def X5(h)(b)(bU)(o)(j)(k:eJ j b)(E:j<=1000)(u:1<=bU/\bU<=2):
  Y q 51 [Cu h b,R bU,bu.B o] (hN b) (E5 h (k2 h b bU o).1 (k2 h b bU o).2) (hN (k2 h b bU o).1):=by
 refine Y.bh bb func51 rfl rfl rfl λC=>?_;have x:=CI (q:=q) h b.1 b.2.1 bU b.2.2.1 b.2.2.2 k.a.bj.dF u k.bm k.b3;have z:=YI (q:=q) h b.1 bU o (k.a.cB w);have s:=ps (bU:=bU) (b:=b.1.1) (d:=b.2.1) (bk:=b.2.2) k.bm k.b3;have y:=Ev (h:=h) (bU:=bU) (o:=o) k.a;unfold k2;rw[show((b.2.2.1,b.2.2.2):m (Int×Int)×m Int)=b.2.2 from a]at x;generalize eH bU b.1.1 b.2.1 b.2.2=e at *;have r:e.2.getD (0+(bU-1).toNat) az.E=e.2.getD (bU-1).toNat 0:=q_;refine cA a B (g.aB x [0,1] a ?_);by_cases i:e.2.getD (bU-1).toNat 0=0
 rotate_left
 .rw[bj (λk=>i k.1)];refine bO [19,25] a ?_ ?_
  .simp only[U,r,a8,iC,ea,ba,a9];and_intros<;>first|exact i|omega
  exact oU
 by_cases p:b.2.1.1=0
 rotate_left
 .rw[bj (λk=>p k.2)];refine bO [-19,25] a ?_ ?_
  .simp only[U,r,i,a8,iC,iz,ea,ba,a9];and_intros<;>first|exact p|omega
  exact oU
 rw[bl ⟨i,p⟩];refine bO [-19,-25] a ?_ ?_
 .simp only[U,r,i,p,a8,iz,ba,a9];omega
 refine g.aB z [] a ?_;cases jR:(fL h b.1 bU o).2 with
 |false=>
  rw[bj D];exact bO [38] a uk oU
 |true=>
  rw[bl a];have A:=(y jR).1;generalize(fL h b.1 bU o).1=w2 at *;have t:=CI (q:=q) h w2 b.2.1 bU e.1 e.2 A.bj.dF u s.1 s.2;rw[show((e.1,e.2):m (Int×Int)×m Int)=e from a]at t;exact bO [-38] a uk (g.aB t [0,1] a (cA a B oU))
def tQ(j):∀(e b:m Int)i,(b++e).Pairwise (· < ·)->(if i=l then True else ∀d∈b,d<j)->(i=l->∀d∈e,j<=d/\(j∈b)) ->
  (if(e.foldl (gw j) (b,i)).2=l then(e.foldl (gw j) (b,i)).1 else(e.foldl (gw j) (b,i)).1++[j]).Pairwise (· < ·)
 |[],b,i,t,r,_=>by
  simp[hU]at t;cases i<;>simp at r⊢
  .exact nh.2 ⟨t,by simp,by exact bv⟩
  omega
 |h::e,b,i,t,r,y=>by
  rw[iT];obtain⟨x,p,s⟩:=nh.1 t;obtain⟨w,A⟩:=iR.1 p;have B:∀d∈b,d<h:=λd g=>s d g h iB;have o:((b++[h])++e).Pairwise (· < ·):=wR;have u:(b++e).Pairwise (· < ·):=nh.2 ⟨x,A,λd g q k=>s d g q (mo _ k)⟩;unfold gw;cases i with
  |true=>
   simp[dx];split
   .exact tQ j e b l u D λ_ d g=>⟨by grind,(y a h iB).2⟩
   exact tQ j e (b++[h]) l o D λ_ d g=>⟨by grind,A3 _ (y a h iB).2⟩
  |false=>
   simp[kg,dn]at r⊢;split
   .split
    .rename_i z;subst z;exact tQ h e (b++[h]) l o D λ_ d g=>⟨by grind,by simp⟩
    refine tQ j e (b++[j,h]) l ?_ D λ_ d g=>⟨by grind,by simp⟩
    rw[mq];refine nh.2 ⟨x,iR.2 ⟨λq k=>?_,p⟩,λd g q k=>?_⟩
    .rcases fh.1 k with rfl|k
     .omega
     have:=w q k;omega
    rcases fh.1 k with rfl|k
    .exact r d g
    exact s d g q k
   exact tQ j e (b++[h]) v o (by simp;grind) D
def Z6{d}{j}(t:d.Pairwise (· < ·)):(fe d j).Pairwise (· < ·):=tQ j d [] v wR D D
def Db:∀{d a:m Int},a.Pairwise (· < ·)->(d.foldl fe a).Pairwise (· < ·)
 |[],a,b=>b
 |e::d,a,b=>Db (d:=d) (Z6 b)
def aaw(d):(h4 d).Pairwise (· < ·):=by
 unfold h4;have:∀(d:m ej) b,b.Pairwise (· < ·)->(d.foldl (λa e=>(gJ e.2).foldl fe a) b).Pairwise (· < ·):=λd=>by
  induction d with
  |nil=>simp
  |cons e d g=>exactλb h=>g _ (Db h)
 simp_all
def Zk(d):c (d.flatMap gk)<=c (hv d):=by
 induction d with
 |nil=>simp
 |cons E d a=>
  have:c (gk E)<=c (ed E.2):=R';simp[hv,sC,dm]at a⊢;omega
def rT(b:m Int)(d:Int):Int:=match b.findIdx? (λe=>e==d)with
 |some a=>a
 |none=>-1
def V3(d)(aa):Y q 145 [az.B d,R aa] [] (R (rT d aa)) []:=by
 refine Y.I func145 rfl λk=>?_;have s:=k.B 0 a;refine aR a B (g.aH 0 (λb=>b<=c d/\∀e,e<b->d.getD e 0≠aa) (λb:Nat=>[(0,az.B d),(1,R aa),(7,R (c d)),(8,R b)]) (λ_=>[]) (λb=>c d-b) 0 a D a B a ⟨by omega,by omega⟩ ?_);rintro b ⟨o,p⟩;by_cases j:b<c d
 .have i:d.getD (b:Int).toNat az.E=d.getD b 0:=rfl;by_cases r:d.getD b 0=aa
  .have:rT d aa=b:=by
    have:d.findIdx? (λh=>h==aa)=f b:=by rw[uN];exact⟨j,by grind,λe m=>by grind⟩
    simp[rT,this]
   rw[this];refine a4 [9,16] a ?_ (g.aS (bZ.zero a));simp only[U,i,bw,gR,ba,a9];and_intros<;>first|omega|omega
  refine a4 [9,-16] a ?_ (g.az (b+1) a ?_ B ⟨j,λe m=>?_⟩ w)
  .simp only[U,i,a8,bw,eW,ba,a9];and_intros<;>first|grind|omega
  .simp
  grind
 have:rT d aa=-1:=by have:d.findIdx? (λh=>h==aa)=n:=wO;simp[rT,this]
 rw[this];exact Rp
abbrev BR:bI:=ek (eS az) c7 (λa b=>bg (a.contains b)) λ_ _=>[]
def Nq:bL q 106 BR:=.bl λb d _=>by refine Y.I func106 rfl λh=>?_;have e:a' q [(145,ek (eS az) c7 (λb d=>R (rT b d)) λ_ _=>[])]:=.cons (.bl λb d _=>V3 b d) .nil;refine b9 e a OB (g.aw a ?_);simp[U,az.l,a9];unfold rT;grind
def VG(d)(b):Y q 105 [i1 d,ax (.Q [.B v 1 (c b) (az.fn b)])] [] (bg (!b.contains d.1)) []:=by refine Y.I func105 rfl λh=>?_;have e:a' q [(106,BR)]:=.cons Nq .nil;refine b9 e a OB (g.aw a ?_);simp only[az.l];simp
abbrev G1(e:cc)(b:m ej)(d:Q)(a:m Int)(h:X)(g:m Int):m ar:=[j2 e,.N,.cells 33 lC,.N,.N,.cells 33 [cL a2 e.1,cL bh b,cL a3 e.2.2,d,.x 6 1 (c a) (az.fn a)],.x 3 1 (c a) (az.fn a),jp h g]
def UM(h)(b)(i)(m:dJ b)(s:n5 b):Y (af.ay S) 62 [R h,bX b,az.B i] [] (j4 (jP h b i).1 (jP h b i).2) []:=by
 refine Y.bE func62 rfl rfl rfl λy=>?_;have k:a' (af.ay S) [(88,xP)]:=.cons E2 .nil;have M:=m.a0;have V:=m.a1;unfold jP;cases q:h8 h b with
 |false=>
  refine g.aN b6 de k [17] 200 a ?_ ?_
  .simp only[U,a2.l,a2.U,bh.l,bh.U,a3.l,a3.U,q,s,ba,a9,hT]
  refine g.freeze 6 2 a a a ?_;refine g.cb de [] a ?_ a a a eN;simp
 |true=>
 rw[bl a];refine g.aN b6 de k [-17] 200 a ?_ ?_
 .simp only[U,a2.l,a2.U,bh.l,bh.U,a3.l,a3.U,q,s,ba,a9,fB]
 refine g.aB (pf b m.a0 m.bn m.a1 m.bt m.aM) [] a (g.aN b6 de k [904] 200 a B (g.freeze 5 1 a a a ?_));refine g.aN b6 de k [] 200 a B (g.a2 (Jd b.2.1 m.a1 105 [.B v 1 (c i) (az.fn i)] (λj=>!i.contains j.1) λj _=>VG j i) [4] a bn ?_);rintro⟨F,C⟩;simp only[Bool.not_not]at C⊢;have A:c (b.2.1.filter λj=>i.contains j.1)<=c b.2.1:=kI _ _;have I:∀j∈b.2.1.filter (λj=>i.contains j.1),j∈b.2.1:=λj r=>(jm.1 r).1;have K:c (hv (b.2.1.filter λj=>i.contains j.1))<=c (hv b.2.1):=GJ b.2.1 λj=>i.contains j.1;generalize b.2.1.filter (λj=>i.contains j.1)=d at *;refine g.aN b6 de k [905] 200 a B (g.bL 4 a a a (by simp;exact A) (by simp;exact⟨B,A⟩) (g.bL 3 a a a D (by simp;exact B) (g.cn 5 4 3 1 (az.fn []) a a ?_)));refine g.bb [j2 b,.N,.cells 33 lC,.N,.N,.cells 33 [cL a2 b.1,cL bh d,cL a3 b.2.2,cG,.x 6 1 0 (az.fn [])],.x 3 1 0 (az.fn [])] a ?_ ?_
 .simp only[U.Y,U,ba,a9];and_intros<;>first|exact bs.same|exactλe p=>C e p|rfl|simp
 refine g.aN b6 de k [] 200 a B (g.hP a a a λu=>?_);refine g.aN b6 de k [] 200 a B ?_;refine g.aH 8 (λe=>e<=c d) (λe:Nat=>[(4,aI 0 0),(6,aI 2 0),(8,aI 5 0),(9,sY u),(32,bh.B d),(33,R (c d)),(34,R e)])
  (λe=>G1 b d cG [] u ((d.take e).flatMap gk)) (λe=>c d-e) 0 a D a D a w ?_
 intro e p;by_cases o:e<c d
 .have x:d.getD e bh.E=d.getD e (0,[]):=rfl;have r:=s.dY _ (I _ (ov (O:=(0,[])) o));have T:=GL o;have J:=s.eC;have z:(d.take (e+1)).flatMap gk=(d.take e).flatMap gk++gk (d.getD e (0,[])):=by rw[iq o (0,[])];simp
  generalize d.getD e (0,[])=j at *;refine g.aN b6 de k [35] 200 a bK ?_;simp only[cW,x];refine g.aB (CL j r.1 w) [] a (g.aN b6 de k [] 200 a B (g.aB (I1 u ((d.take e).flatMap gk) (gk j)) [7] a ?_));rw[<-z];refine g.aN b6 de k [] 200 a ?_ (g.az (e+1) a D D o w);exact j7
 obtain rfl:e=c d:=w;rw[c8];have W:=Zk d;have J:=s.eC;refine g.aN b6 de k [-35] 200 a D (g.aA ?_);refine g.aN b6 de k [] 200 a B (g.aB (W6 u (d.flatMap gk) (h4 d) w (aaw d) λN=>by rw[tr];simp[yW]) [7] a (g.aN b6 de k [] 200 a B ?_));refine g.aH 8 (λe=>e<=c b.1) (λe:Nat=>[(4,aI 0 0),(6,aI 2 0),(8,aI 5 0),(47,a2.B b.1),(48,R (c b.1)),(49,R e)])
  (λe=>G1 b d (cL az (h4 d)) ((b.1.take e).map (·.1)) u (d.flatMap gk)) (λe=>c b.1-e) 0 a D a D a w ?_
 intro e p;have Q:c ((b.1.take e).map (·.1))=e:=bK;by_cases o:e<c b.1
 .have x:b.1.getD e a2.E=b.1.getD e (0,[]):=rfl;have z:=map_take (aj:=λt:cb=>t.1) o (0,[]);generalize(b.1.take e).map (λt:cb=>t.1)=E at *;generalize b.1.getD e (0,[])=t at *;have r:=az.aW E t.1;refine g.aN b6 de k [50] 200 a ?_ (g.az (e+1) a D ?_ o w)
  .simp[-al,x,o,a8,show dZ.bytes=8 from a];omega
  rw[z];simp only[U.Y,U,cW,x,dm,gC,ba,a9];and_intros<;>first|exact bs.same|exact r|rfl|omega
 obtain rfl:e=c b.1:=w;rw[c8];refine g.aN b6 de k [-50] 200 a D (g.aA ?_);refine g.aN b6 de k [] 200 a B (g.freeze 8 5 a a a ?_);refine g.freeze 6 2 a a a ?_;refine g.cb de [] a ?_ a a a eN;simp[bh.l]
def Vr(h)(b)(d)(j)(e:eJ j b)(u:j<=1000):
  Y q 22 [Cu h b,ns d] (hN b) (E5 h (cd h b d).1 (cd h b d).2) (hN (cd h b d).1):=by
 refine Y.bh bb func22 rfl rfl rfl λy=>?_;have m:=e.a.cB w;have x:a' q [(49,kN),(50,sS),(53,Hm)]:=.cons ly (.cons t50 (.cons adv .nil));unfold cd;by_cases C:d.1=1
 .rw[bl C];by_cases s:1<=d.2.1/\d.2.1<=2
  rotate_left
  .rw[bj (λe=>s e.1)];refine bd x [13,-16,-21] a ?_ ?_
   .simp only[U,C,gm,ba,a9];grind
   exact oU
  cases i:dO d.2.2.1 with
  |false=>
   rw[bj D];exact bd x [13,16,-21] a Q4 oU
  |true=>
   rw[bl ⟨s,rfl⟩];have p:=X5 (q:=q) h b d.2.1 d.2.2.1 j e u s;exact bd x [13,16,21] a Q4 (g.aB p [0,1] a FN)
 rw[bj C];by_cases s:d.1=2
 .rw[bl s];by_cases i:1<=d.2.1/\d.2.1<=2
  rotate_left
  .rw[bj i];refine bd x [-13,31,-34] a ?_ ?_
   .simp only[U,s,gm,ba,a9];grind
   exact oU
  rw[bl i];have t:=CI (q:=q) h b.1 b.2.1 d.2.1 b.2.2.1 b.2.2.2 e.a.bj.dF i e.bm e.b3;refine bd x [-13,31,34] a ?_ ?_
  .simp only[U,s,i,lJ,and_self,gm,ba,a9];decide
  exact g.aB t [0,1] a FN
 rw[bj s];by_cases i:d.1=3
 .rw[bl i];refine bd x [-13,-31,40] a ?_ ?_
  .simp only[U,i,gm,ba,a9];decide
  exact oU
 rw[bj i];by_cases o:d.1=4
 .rw[bl o];by_cases k:c b.1.2.2=0
  .rw[bl k];have r:(c b.1.2.2:Int)=0:=w;refine bd x [-13,-31,-40,46,51] a ?_ ?_
   .simp only[U,o,r,m.bj,m.cm,a2.l,a2.U,bh.l,bh.U,a3.l,a3.U,az.l,az.U,gm,ba,a9];decide
   refine g.cc () [0,1] ?_ yr;exact Gf
  rw[bj k];refine bd x [-13,-31,-40,46,-51] a ?_ ?_
  .simp only[U,o,gm,eW,ea,ba,a9];and_intros<;>first|decide|omega
  exact oU
 rw[bj o];by_cases k:d.1=5
 .rw[bl k];have p:=Ys (q:=q) b.1 m.bj m.cy m.de;refine bd x [-13,-31,-40,-46,67] a ?_ ?_
  .simp only[U,k,gm,ba,a9];decide
  exact g.aB p [] a FN
 rw[bj k];refine bd x [-13,-31,-40,-46,-67] a ?_ ?_
 .simp only[U,eW,ea,ba,a9];grind
 exact oU
abbrev tl(a:dq):m Q:=[.c (.int .i64 a.1),.c (.int .i64 a.2.1),.c (.int .i64 a.2.2.1),.c (.S a.2.2.2)]
abbrev TZ(db:m (Int×Int))(a:m Int):m ar:=[.q 58 2 (c db) (a3.fn db),.q 3 1 (c a) (az.fn a)]
abbrev N_(a:eE)(d b:Nat):m Q:=.c (.int .i64 a.1)::([cL a2 a.2.1.1.1,cL bh a.2.1.1.2.1,cL a3 a.2.1.1.2.2,cL az a.2.1.2.1,.x d 1 (c a.2.1.2.2) (az.fn a.2.1.2.2)]++tl a.2.2.1++[.O b (.B (c a.2.2.2.1) 2 0 (c a.2.2.2.1)),.O (b+1) (.B (c a.2.2.2.2) 1 0 (c a.2.2.2.2))])
abbrev m4(a:eE):ar:=.cells 38 (fx a)
abbrev i'(a:dP):ar:=.x 3 1 (c a.2.2) (az.fn a.2.2)
def IC(a:eE)(d e g h:Bool):m ar:=
 match d,e,g,h with
 |true,l,l,l=>[m4 a,.cells 38 (.c (.int .i64 a.1)::([cL a2 a.2.1.1.1,cL bh a.2.1.1.2.1,cL a3 a.2.1.1.2.2,cL az a.2.1.2.1,.x 2 1 (c a.2.1.2.2) (az.fn a.2.1.2.2)]++tl a.2.2.1++[.O 3 (.B (0+c a.2.2.2.1) 2 0 (0+c a.2.2.2.1)),.O 4 (.B (0+c a.2.2.2.2) 1 0 (0+c a.2.2.2.2))])),i' a.2.1,
   .q 58 2 (0+c a.2.2.2.1) (cj 0 (λb=>([]:m (m M)).getD b []) (a3.fn a.2.2.2.1)),.q 3 1 (0+c a.2.2.2.2) (cj 0 (λb=>([]:m (m M)).getD b []) (az.fn a.2.2.2.2))]
 |true,l,l,v=>[m4 a,fN,i' a.2.1,.q 58 2 (0+c a.2.2.2.1) (cj 0 (λb=>([]:m (m M)).getD b []) (a3.fn a.2.2.2.1)),.q 3 1 (0+c a.2.2.2.2) (cj 0 (λb=>([]:m (m M)).getD b []) (az.fn a.2.2.2.2))]
 |true,l,v,_=>[m4 a,fN,i' a.2.1,.q 58 2 (0+c a.2.2.2.1) (cj 0 (λb=>([]:m (m M)).getD b []) (a3.fn a.2.2.2.1))]
 |true,v,_,_=>[m4 a,fN,i' a.2.1]
 |false,_,_,_=>[m4 a,fN]
abbrev Lo(b:Nat):y:=ax (.B l b 0 λa=>([]:m (m M)).getD a [])
abbrev EQ(a:dP)(b:Nat):m Q:=[cL a2 a.1.1,cL bh a.1.2.1,cL a3 a.1.2.2,cL az a.2.1,.x b 1 (c a.2.2) (az.fn a.2.2)]
abbrev aeU(a:eE)(b:Nat):y:=
 [aI 0 0,R a.1,aI 0 1,gE a.2.1,.n (.agg (EQ a.2.1 2)),aI 0 6,ev a.2.2.1,Lo 2,aI 0 10,a3.B a.2.2.2.1,cE 3 (.B (0+c a.2.2.2.1) 2 0 (0+c a.2.2.2.1)),Lo 1,aI 0 11,az.B a.2.2.2.2,cE 4 (.B (0+c a.2.2.2.2) 1 0 (0+c a.2.2.2.2)),
  .n (.agg (.c (.int .i64 a.1)::(EQ a.2.1 2++tl a.2.2.1++[.O 3 (.B (0+c a.2.2.2.1) 2 0 (0+c a.2.2.2.1)),.O 4 (.B (0+c a.2.2.2.2) 1 0 (0+c a.2.2.2.2))]))),.any].getD b .any
set_option maxRecDepth 20000 in
def Vd(p)(s:uz p.2.1)(h:c p.2.2.2.1<=4000000)(O:c p.2.2.2.2<=4000000):Y q 23 [fb p] [] (.n (.agg (N_ p 0 1))) ([i' p.2.1]++TZ p.2.2.2.1 p.2.2.2.2):=by
 refine Y.bh bb func23 rfl rfl rfl λj=>?_;have x:a' q [(55,la [gE p.2.1] [] (.n (.agg (EQ p.2.1 0))) [i' p.2.1])]:=.cons (mb (I_ p.2.1 s.bj s.cy s.de)) .nil;have e:(0+c p.2.2.2.1)*yJ.bytes<=140737488355328:=by rw[show yJ.bytes=16 from a];omega
 have d:(0+c p.2.2.2.2)*dZ.bytes<=140737488355328:=by rw[show dZ.bytes=8 from a];omega
 refine bd x [901] a B ?_;refine g.b9 b6 (aeU p) (mD (IC p) 4 10 14 16) a a a a
  ⟨.aU,
  .aU,
  .aU,
  .aU,
  bV.eb a a a a a a (dT (bf:=[]) bb x (aq:=f _) a ⟨rfl,rfl⟩),
  .aU,
  .aU,
  .aU,
  .aU,
  .aU,
  bV.eT a a a a a a (dT (bf:=[3000013]) bb x (aq:=f _) a e),
  .aU,
  .aU,
  .aU,
  bV.eU a a a a a a (dT (bf:=[3000017]) bb x (aq:=f _) a d),
  .aU,
  bV.eV a a a a a a (dT (bf:=[]) bb x (aq:=f _) a B),B⟩ ?_
 intro y i;show g q _ _ _ _ _ (IC p (y 4) (y 10) (y 14) (y 16));rw[i 4 b',i 10 b',i 14 b',i 16 b'];refine tH x [] 1 a B (g.bb [m4 p,.cells 38 (N_ p 2 3),i' p.2.1,.q 58 2 (c p.2.2.2.1) (a3.fn p.2.2.2.1),.q 3 1 (c p.2.2.2.2) (az.fn p.2.2.2.2)] a ?_ ?_)
 .simp[o9]
 refine g.bg () [2,3,4] ?_ (λk b=>absurd b D);simp
def Vb(p)(h:uz p.2.1)(b:c p.2.2.2.1<=4000000)(g:c p.2.2.2.2<=4000000):Y q 23 [fb p] [] (fb p) []:=by have d:=Y.bK (aX:=[i' p.2.1,.q 58 2 (c p.2.2.2.1) (a3.fn p.2.2.2.1)]) (Vd (q:=q) p h b g) a D a D;have e:=Y.bK (aX:=[i' p.2.1]) d a D a D;refine e.b2 a ?_ a;simp[ik]
end
section
variable {q:af S}
def JH(A)(d)(e:c d<=4000000):Y q 100 [kO A,a3.B d] [] (m0 (e6 A d)) []:=by refine Y.bh bb func100 rfl rfl rfl λi=>?_;have h:a' q [(15,dS [kO A,a3.B d] (m0 (e6 A d)))]:=.cons (d9 (CP A d e)) .nil;refine b9 h a (by simp[a3.l];rfl) ?_;refine g.cc () [] ?_ (λj b=>absurd b D);simp
abbrev s4(a:d_):ar:=.cells 45 (IY a)
abbrev pN(a:Int)(d:dP)(b:dq):ar:=.cells 38 (g1 a d b 6)
abbrev acd(a:Int×Int):y:=ax (.val (.func (.func 100) #[.agg [.int .i64 a.1,.int .i64 a.2].toArray] #[]))
abbrev py(b a:an×X)(cD:eE)(d:d_):m ar:=gy b a++[.cells 38 (fx cD),s4 d,fN]
abbrev Oe(h:Nat)(i:dP)(e:dq)(g:Int×Int)(b:cc)(a:(Int×Int)×Int)(d:Nat):y:=
 [acd g,aI 8 0,aI 8 0,aI 8 1,aI 8 1,bX i.1,aI 8 0,aI 8 0,aI 8 6,ev e,bX b,a3.B b.2.2,m0 a,m0 a,kO a.1,R a.2,aI h 0,.any,R a.2].getD d .any
def x2(a:m ar)(b:Int×Int)(_ d e:Bool):m ar:=
 match d,e with
 |false,_=>a
 |true,v=>a++[Fe]
 |true,l=>a++[y0 b]
abbrev qq(b:m Int):={a:Nat->m M // bs 2 a (az.fn b)}
abbrev ob(d b:an×X)(cD:eE)(e:d_)(h:Int)(j:dP)(i:dq)(db:m (Int×Int))(a:Nat->m M)(g:d_):m ar:=py d b cD e++[.q 58 2 2 (a3.fn db),.q 3 1 2 a,pN h j i]++[s4 g]
set_option maxRecDepth 20000 in
def I9(r j)(cD)(e)(A)(h)(p)(d)(b)(db)(k)(C:oY p.1)(J:1<=b/\b<=2)(N:c db=2)(Q:c k=2):
  bm (ι:=qq (eH b p.1 d (db,k)).2) q 60 [aI 8 0,R b] (ob r j cD e h p d db (az.fn k) A) (λ_=>.T []) (λE=>ob r j cD e h p d (eH b p.1 d (db,k)).1 E.1 A++[.N]):=by
 refine bm.bN func60 rfl rfl rfl (g.aQ ?_);have F:=(r9 (q:=q) C d).eO.aM;have aM:=Dw (q:=q) C d;unfold eH;generalize g_ p.1 d=m at *;have K:(b-1).toNat<2:=w;have S:(0:Nat)+(b-1).toNat<2:=w;have I:db.getD (b-1).toNat (0,0)=db.getD (0+(b-1).toNat) a3.E:=q_;rw[I];have D:=JH (q:=q) (db.getD (0+(b-1).toNat) a3.E) m.2.2 F;generalize e6 (db.getD (0+(b-1).toNat) a3.E) m.2.2=o at *;have i:a' q [(68,dS [bX p.1,ev d] (bX m))]:=.cons (d9 aM) .nil;have z:k.getD (0+(b-1).toNat) az.E=k.getD (b-1).toNat 0:=q_;by_cases t:k.getD (b-1).toNat 0=0
 rotate_left
 .rw[bj t];refine g.fg 0 1 ?_;refine g.cN 10 a bn ?_;refine bd i [15] a ?_ ?_
  .simp only[U,z,a8,iC,ea,ba,a9];and_intros<;>first|exact t|omega
  exact PL
 rw[bl t];refine bd i [-15] a ?_ ?_
 .simp only[U,z,t,a8,iz,ba,a9];omega
 refine g.cD _ _ a a (ei.hn a a a) λM=>?_;refine bd i [902] a B ?_;refine g.b9 b6 (Oe 10 p d (db.getD (0+(b-1).toNat) a3.E) m o) (kS (x2 (ob r j cD e h p d db (az.fn k) A) o.1) 18 16 17) a a a a
  ⟨.aC,
  .aC,
  .aC,
  .aC,
  .aC,
  .aC,
  .aC,
  .aC,
  .aC,
  .aC,
  .cK bb i (cx:=by exact a),
  .aC,
  bV.bJ a a a (λx s O=>aT.gU (λ_ _ _ _=>jf a) a a M.2 a D a a a),
  .aC,
  .aC,
  .aC,
  bV.dR a a a a a (λx=>by cases x<;>exact dT (bf:=[]) bb i (aq:=f _) a B),
  bV.dS a a a a a (λx=>by cases x<;>exact dT (bf:=[]) bb i (aq:=f _) a B),
  bV.dQ a a a a (λs O=>by cases s<;>cases O<;>exact aT.w),B⟩ ?_
 intro y u;show g q _ _ _ _ _ (x2 (ob r j cD e h p d db (az.fn k) A) o.1 (y 18) (y 16) (y 17));rw[u 18 b',u 16 b',u 17 b'];refine bd i [904] a ub (g.cN 10 a bn ?_);have dL:=a3.cV db (0+(b-1).toNat) o.1 2 w;have fc:=az.cV k (0+(b-1).toNat) o.2 2 w;rw[cV]at dL fc;refine g.bb (ob r j cD e h p d (db.set (b-1).toNat o.1) (az.fn k) A++[.N]) a Qg ?_;exact Q2
abbrev u1(g e:an×X)(cD:eE)(b:d_)(i:Int)(k:dP)(j:dq)(db:m (Int×Int))(a:Nat->m M)(h:d_)(d:dP):m ar:=py g e cD b++[.q 58 2 2 (a3.fn db),.q 3 1 2 a,pN i k j]++[s4 h,.N,gx d]
set_option maxRecDepth 20000 in
def U5(r j)(cD)(e)(A)(t)(h)(p)(d)(b)(db)(k)(D:oY p.1)(K:1<=b/\b<=2)(S:c db=2)(J:c k=2):
  bm (ι:=qq (eH b p.1 d (db,k)).2) q 60 [aI 8 0,R b] (u1 r j cD e h p d db (az.fn k) A t) (λ_=>.T []) (λF=>u1 r j cD e h p d (eH b p.1 d (db,k)).1 F.1 A t++[.N]):=by
 refine bm.bN func60 rfl rfl rfl (g.aQ ?_);have I:=(r9 (q:=q) D d).eO.aM;have aM:=Dw (q:=q) D d;unfold eH;generalize g_ p.1 d=m at *;have N:(b-1).toNat<2:=w;have T:(0:Nat)+(b-1).toNat<2:=w;have Q:db.getD (b-1).toNat (0,0)=db.getD (0+(b-1).toNat) a3.E:=q_;rw[Q];have M:=JH (q:=q) (db.getD (0+(b-1).toNat) a3.E) m.2.2 I;generalize e6 (db.getD (0+(b-1).toNat) a3.E) m.2.2=o at *;have i:a' q [(68,dS [bX p.1,ev d] (bX m))]:=.cons (d9 aM) .nil;have C:k.getD (0+(b-1).toNat) az.E=k.getD (b-1).toNat 0:=q_;by_cases u:k.getD (b-1).toNat 0=0
 rotate_left
 .rw[bj u];refine g.fg 0 1 ?_;refine g.cN 12 a bn ?_;refine bd i [15] a ?_ ?_
  .simp only[U,C,a8,iC,ea,ba,a9];and_intros<;>first|exact u|omega
  exact PL
 rw[bl u];refine bd i [-15] a ?_ ?_
 .simp only[U,C,u,a8,iz,ba,a9];omega
 refine g.cD _ _ a a (ei.hn a a a) λE=>?_;refine bd i [902] a B ?_;refine g.b9 b6 (Oe 12 p d (db.getD (0+(b-1).toNat) a3.E) m o) (kS (x2 (u1 r j cD e h p d db (az.fn k) A t) o.1) 18 16 17) a a a a
  ⟨.aC,
  .aC,
  .aC,
  .aC,
  .aC,
  .aC,
  .aC,
  .aC,
  .aC,
  .aC,
  .cK bb i (cx:=by exact a),
  .aC,
  bV.bJ a a a (λx s O=>aT.gU (λ_ _ _ _=>jf a) a a E.2 a M a a a),
  .aC,
  .aC,
  .aC,
  bV.dR a a a a a (λx=>by cases x<;>exact dT (bf:=[]) bb i (aq:=f _) a B),
  bV.dS a a a a a (λx=>by cases x<;>exact dT (bf:=[]) bb i (aq:=f _) a B),
  bV.dQ a a a a (λs O=>by cases s<;>cases O<;>exact aT.w),B⟩ ?_
 intro y z;show g q _ _ _ _ _ (x2 (u1 r j cD e h p d db (az.fn k) A t) o.1 (y 18) (y 16) (y 17));rw[z 18 b',z 16 b',z 17 b'];refine bd i [904] a ub (g.cN 12 a bn ?_);have dL:=a3.cV db (0+(b-1).toNat) o.1 2 w;have fc:=az.cV k (0+(b-1).toNat) o.2 2 w;rw[cV]at dL fc;refine g.bb (u1 r j cD e h p d (db.set (b-1).toNat o.1) (az.fn k) A t++[.N]) a Qg ?_;exact Q2
end
section
variable {q:af S}
def WN(T)(b)(C:c T.2<=4000000):Y q 149 [fR T,az.B b] [] (fR (hO T b)) []:=by
 refine Y.bh bb func149 rfl rfl rfl λo=>?_;have i:a' q [(106,BR)]:=.cons Nq .nil;refine bd i [902] a B (g.cn 2 1 121 2 (bH.fn []) a a ?_);refine b9 i a B ?_;refine g.aH 4 (λe=>e<=c T.2) (λe:Nat=>[(1,az.B b),(4,aI 1 0),(5,aI 2 0),(12,bH.B T.2),(13,R (c T.2)),(14,R e)])
  (λe=>KU T ((T.2.take e).filter λd=>b.contains d.1)) (λe=>c T.2-e) 0 a D a D a w ?_
 intro e j;have m:=C5 T.2 (λd=>b.contains d.1) j;by_cases t:e<c T.2
 .have O:T.2.getD e bH.E=ec T e:=rfl;have s:(T.2.take (e+1)).filter (λd=>b.contains d.1)=if b.contains (ec T e).1=l then(T.2.take e).filter (λd=>b.contains d.1)++[ec T e]else(T.2.take e).filter (λd=>b.contains d.1):=C6 t (0,[]);generalize(T.2.take e).filter (λd=>b.contains d.1)=k at *;generalize ec T e=d at *;cases aj:b.contains d.1 with
  |true=>
   rw[bl aj]at s;have C:=bH.aW k d;refine bd i [15,21] a QI (g.az (e+1) a D ?_ t w);exact Qd
  |false=>
   rw[bj du]at s;refine bd i [15,-21] a Qz (g.az (e+1) a D ?_ t w);simp_all
 exact Qf
abbrev H'(a:dP)(b d:Bool):m ar:=
 match b,d with
 |false,_=>[gx a,.cells 33 lC]
 |true,v=>[gx a,.cells 33 lC,.q 86 2 (c a.1.1) (a2.fn a.1.1),.q 90 2 (c a.1.2.1) (bh.fn a.1.2.1)]
 |true,l=>[gx a,.cells 33 [.O 2 (.B (c a.1.1) 2 0 (c a.1.1)),.O 3 (.B (c a.1.2.1) 2 0 (c a.1.2.1)),cL a3 a.1.2.2,cL az (az.ad (c a.2.1) (az.fn a.2.1)),cL az (az.ad (c a.2.2) (az.fn a.2.2))],.q 86 2 (c a.1.1) (a2.fn a.1.1),.q 90 2 (c a.1.2.1) (bh.fn a.1.2.1)]
abbrev aeT(a:dP)(b:Nat):y:=
 [aI 0 0,bX a.1,.n (.agg [.O 2 (.B (c a.1.1) 2 0 (c a.1.1)),.O 3 (.B (c a.1.2.1) 2 0 (c a.1.2.1)),cL a3 a.1.2.2]),aI 0 3,az.B a.2.1,az.B (az.ad (c a.2.1) (az.fn a.2.1)),aI 0 4,az.B a.2.2,az.B (az.ad (c a.2.2) (az.fn a.2.2)),
  .n (.agg [.O 2 (.B (c a.1.1) 2 0 (c a.1.1)),.O 3 (.B (c a.1.2.1) 2 0 (c a.1.2.1)),cL a3 a.1.2.2,cL az (az.ad (c a.2.1) (az.fn a.2.1)),cL az (az.ad (c a.2.2) (az.fn a.2.2))]),.any].getD b .any
def JP(p)(i:dJ p.1)(e:c p.2.1<=4000000)(k:c p.2.2<=4000000):Y q 64 [gE p] [] (.n (.agg [.O 0 (.B (c p.1.1) 2 0 (c p.1.1)),cL bh p.1.2.1,cL a3 p.1.2.2,cL az p.2.1,cL az p.2.2])) [.q 86 2 (c p.1.1) (a2.fn p.1.1)]:=by
 refine Y.bh bb func64 rfl rfl rfl λo=>?_
 have x:a' q [(103,la [bX p.1] [] (.n (.agg [.O 0 (.B (c p.1.1) 2 0 (c p.1.1)),.O 1 (.B (c p.1.2.1) 2 0 (c p.1.2.1)),.c (.B v 2 (c p.1.2.2) (a3.fn p.1.2.2))])) [.q 86 2 (c p.1.1) (a2.fn p.1.1),.q 90 2 (c p.1.2.1) (bh.fn p.1.2.1)]),
   (66,dc (eS az) (λb=>az.B b) λb=>[c b<=4000000])]:=.cons (mb (pf p.1 i.a0 i.bn i.a1 i.bt i.aM)) (.cons (.a9 λb j=>CC b j) .nil)
 refine bd x [901] a B ?_;refine g.b9 b6 (aeT p) (mC (H' p) 2 10) a a a a
  ⟨.ba,.ba,bV.eM a a (dT (bf:=[]) bb x (aq:=f _) a D),.ba,.ba,.c8 bb x (cx:=by exact⟨az.U _,by rw[az.l];exact e⟩),.ba,.ba,.c8 bb x (cx:=by exact⟨az.U _,by rw[az.l];exact k⟩),.ba,
   bV.eN a a (dT (bf:=[]) bb x (aq:=f _) a B),B⟩ ?_
 intro y d;show g q _ _ _ _ _ (H' p (y 2) (y 10));rw[d 2 b',d 10 b'];refine tH x [] 1 a B (g.bL 3 a a a D D (g.bb [gx p,.cells 33 [.O 2 (.B (c p.1.1) 2 0 (c p.1.1)),cL bh p.1.2.1,cL a3 p.1.2.2,cL az p.2.1,cL az p.2.2],.q 86 2 (c p.1.1) (a2.fn p.1.1),.N] a ?_ ?_))
 .simp[az.l,ik]
 refine g.bg () [2] ?_ (λm h=>absurd h D);simp
abbrev qe(a:m cb):ar:=.q 86 2 (c a) (a2.fn a)
abbrev x0(b a:Nat):y:=cE 0 (.B b 2 0 a)
def V8(d)(A)(E:A<=c d)(I:c d<=4000000)(m)(ai)(i:cb->Bool)(y:∀r,r∈d.take A->Y q m [fR r,ax (.Q ai)] [] (bg (i r)) []):
  Y q 133 [x0 (c d) A,ax (.fn (.func m) [] [.Q ai])] [qe d] (R (gX i (d.take A))) [qe d]:=by
 refine Y.I func133 rfl λF=>?_;refine aR a B ?_;have C:c (d.take A)=A:=bK;have k:∀e,e<A->(d.take A).getD e (0,[])=d.getD e (0,[]):=λe p=>by simp[iA,p]
 refine g.aH 1 (λb=>b<=A/\∀e,e<b->i ((d.take A).getD e (0,[]))=v) (λb:Nat=>[(0,x0 (c d) A),(1,ax (.fn (.func m) [] [.Q ai])),(7,R A),(8,R b)]) (λ_=>[qe d]) (λb=>A-b) 0 a D a D a ⟨by omega,by omega⟩ ?_;rintro b ⟨u,j⟩;by_cases h:b<A
 .have z:d.getD b (0,[])∈d.take A:=by rw[<-k b h];grind
  have x:d.getD ((0+(b:Int).toNat:Nat)) a2.E=d.getD b (0,[]):=nX;refine a4 [9] a bv ?_;rw[x];refine g.aB (y _ z) [] a ?_;cases s:i (d.getD b (0,[]))with
  |true=>
   refine a4 [16] a D (g.aS (bZ.mk [0] a ?_ a a a ig));simp[td (o:=d.take A) (O:=(0,[])) w (by rw[k b h];exact s) j]
  |false=>
   refine a4 [-16] a bF (g.az (b+1) a D D ⟨h,λe p=>?_⟩ w);by_cases t:e=b
   .rw[t,k b h];exact s
   exact j e w
 refine a4 [-9] a bK (g.aA ?_);refine aR a B (g.aJ [0] a ?_ ig);simp[te (o:=d.take A) (O:=(0,[])) (λe p=>j e w)]
def ol(a:m cb)(b d:Nat):m cb:=(a.take b).eraseIdx d++(0,[])::a.drop b
def T5{d}(b:A<=c d)(a:e<A):c (ol d A e)=c d:=by unfold ol;rw[dm,Gz bK];simp;omega
def Vo(d)(A e)(O:A<=c d)(x:e<A)(Q:c d<=4000000):
  Y q 150 [x0 (c d) A,R e,R ((e:Int)+1)] [qe d] (x0 (c d) (A-1)) [.q 86 2 (c d) (a2.fn (ol d A e))]:=by
 refine Y.I func150 rfl λS=>?_;refine bO [-16,906] a Fp ?_;have z:bW A (f (e:Int))-bW 0 n+(bW A n-bW 0 (f ((e:Int)+1)))=A-1:=Fp;rw[z];refine g.region ?_;refine gv [] 4 a B (g.aL (a1.hQ bb a a a a a a a a a w w w) a a ?_);refine g.aL (a1.eX bb a a a a a a w) a a ?_;refine bO [907] a B (g.gN 0 (a2.fn (ol d A e)) a (λ_ _=>rfl) (λN idx o s r M=>?_) ?_)
 .have J:bW A (f (e:Int))-bW 0 n=e:=wS;have I:bW 0 (f ((e:Int)+1))=e+1:=bF;have C:bW A n=A:=rfl;simp only[cW];rw[J,I,C];have y:(ol d A e).getD idx (0,[])=if idx<e then d.getD idx (0,[])else if idx<A-1 then d.getD (idx+1) (0,[])else if idx<A then(0,[])else d.getD idx (0,[]):=by
   unfold ol;have u:c ((d.take A).eraseIdx e)=A-1:=Ov;simp only[al];by_cases m:idx<A-1
   .rw[kb w,List.getElem?_eraseIdx];by_cases h:idx<e
    .rw[bl h,bl h,iA,bl w]
    rw[bj h,bj h,bl m,iA,bl w]
   rw[ht w,u];by_cases F:idx=A-1
   .subst F;rw[bj w,bj w,bl w];simp
   obtain⟨j,rfl⟩:∃j,idx=A+j:=⟨idx-A,by omega⟩
   rw[bj w,bj w,bj w,show A+j-(A-1)=j+1 by omega];simp
  have b:(a2.a8 ((ol d A e).getD idx (0,[])))[s]?=f r:=M;rw[y]at b;by_cases m:idx=A-1
  .subst m;rw[bj w,bj w,bl w]at b;have D:nV (0+(A-1)) (0+(A-1)+(A-(A-1))) nD.zero (qJ e (0+(e+1)) (A-(e+1)) (a2.fn d)) (A-1)=nD.zero:=bl w;rw[D]
   match s,b with
   |0,b=>exact⟨_,rfl,λK i=>by cases b;exact i⟩
   |1,b=>exact⟨_,rfl,λK i=>by cases b;exact KR (E:=.B l 0 0 λ_=>[]) rfl ⟨rfl,rfl⟩ i⟩
  refine⟨r,?_,λ_ i=>i⟩;rw[<-b];congr 1;unfold nV qJ;rw[bj w];have k:∀t,a2.fn d t=a2.a8 (d.getD t (0,[])):=λ_=>rfl;by_cases h:idx<e
  .rw[bj w,bl h,k]
  rw[bj h];by_cases p:idx<A-1
  .rw[bl w,bl p,k,show 0+(e+1)+(idx-e)=idx+1 by omega]
  rw[bj w,bj p,bj w,k]
 exact Qx
end
def kA(a:dP):Nat->dP
 |0=>a
 |b+1=>h7 (kA a b)
def M7{p}:∀{u:Nat},u<=c p.2.2->(kA p u).1.2=p.1.2/\(kA p u).2.1=p.2.1/\(kA p u).2.2=p.2.2.drop u/\(kA p u).1.1=(p.2.2.take u).foldl (λd b=>fo b p.2.1 d) p.1.1
 |0,_=>⟨rfl,rfl,rfl,rfl⟩
 |u+1,m=>by
  obtain⟨j,i,k,e⟩:=M7 (p:=p) (u:=u) w;have h:p.2.2.drop u=p.2.2.getD u 0::p.2.2.drop (u+1):=by rw[SO w];simp[bJ (show u<c p.2.2 by omega)]
  have g:kA p (u+1)=((fo (p.2.2.getD u 0) p.2.1 (kA p u).1.1,(kA p u).1.2),(kA p u).2.1,p.2.2.drop (u+1)):=by rw[show kA p (u+1)=h7 (kA p u)from a];unfold h7;simp_all
  rw[g,iq w 0,uI,<-e];simp_all
def jI.hT{h}{p}(b:jI h p):∀a,jI h (kA p a)
 |0=>b
 |a+1=>(jI.hT b a).step
def Mc{cy}{bN}:∀{Z:m cb}{e:Nat},(Z.Pairwise λa b=>a.1<b.1)->(∀a∈Z,a.2≠[])->e<c Z->(Z.getD e (0,[])).1=bN ->
  gX (λa:cb=>a.1==bN) Z=e/\fo bN cy Z=if(hO (Z.getD e (0,[])) cy).2.length=0 then Z.eraseIdx e else Z.set e (hO (Z.getD e (0,[])) cy)
 |a::Z,0,i,h,_,d=>by
  obtain⟨k,q⟩:=iR.1 i;simp only[List.getD_cons_zero]at d⊢;have j:Z.map (ja bN cy)=Z:=by rw[qb (g:=id) λb g=>by have:=k b g;exact bj w,List.map_id]
  refine⟨by simp[gX,List.findIdx?_cons,d],?_⟩;unfold fo;rw[mm,j,show ja bN cy a=hO a cy from bl d,sF,sz.2 λb g=>by simpa using h b (mo _ g)];split<;>split<;>simp_all
 |a::Z,e+1,i,h,o,d=>by
  obtain⟨k,q⟩:=iR.1 i;simp only[List.getD_cons_succ,fs]at d o⊢;obtain⟨k1,t⟩:=Mc (cy:=cy) (e:=e) q (λb g=>h b (mo _ g)) w d;have s:Z.getD e (0,[])∈Z:=N;have r:a.1≠bN:=by have:=k _ s;omega
  have x:=h a iB;refine⟨?_,?_⟩
  .unfold gX at k1⊢;rw[List.findIdx?_cons];have:(a.1==bN)=v:=bv;rw[this];cases p:Z.findIdx? λa=>a.1==bN with
   |none=>rw[p]at k1;exact bF
   |some u=>rw[p]at k1;exact bv
  have j:fo bN cy (a::Z)=a::fo bN cy Z:=by unfold fo;rw[mm,show ja bN cy a=a from bj r,sF,bl bv]
  rw[j,t];split<;>simp
def kw(a:m Int)(d:m cb)(e b:Nat):m cb×Nat:=
 if(hO (d.getD b (0,[])) a).2.length=0 then(ol d e b,e-1)else(d.set b (hO (d.getD b (0,[])) a),e)
def abo{cy}{bN}{d}(j:A<=c d)(a:e<A)(i:(d.take A).Pairwise λb p=>b.1<p.1)(m:∀b∈d.take A,b.2≠[])(o:(d.getD e (0,[])).1=bN):
  gX (λb:cb=>b.1==bN) (d.take A)=e/\(kw cy d A e).1.length=c d/\(kw cy d A e).2<=A/\(kw cy d A e).1.take (kw cy d A e).2=fo bN cy (d.take A):=by
 have h:(d.take A).getD e (0,[])=d.getD e (0,[]):=by simp[iA,a]
 obtain⟨k1,g⟩:=Mc (cy:=cy) (bN:=bN) (Z:=d.take A) (e:=e) i m du (h▸o);rw[h]at g;rw[g];unfold kw;split
 .refine⟨k1,T5 j a,by omega,?_⟩;unfold ol;have k:c ((d.take A).eraseIdx e)=A-1:=Ov;simp only;exact List.take_left' k
 exact⟨k1,by simp,bC _,by rw[A7]⟩
section
variable {q:af S}
def Wq(b)(j):Y q 148 [fR b,ax (.Q [.int .i64 j])] [] (bg (b.1==j)) []:=by refine Y.I func148 rfl λd=>?_;exact aR a B (g.aw a)
abbrev lT(b:m cb)(a:Nat):cb:=b.getD (0+(a:Int).toNat) a2.E
abbrev Mb(d:m cb)(b:Nat)(a:m Int):ar:=.cells 86 [.c (.int .i64 (lT d b).1),.c (lw (hO (lT d b) a))]
end
structure wY(p:dP)(Lc u:Nat)(d:m cb)(A:Nat):Prop where
 fA:u<=c p.2.2
 len:c d=Lc
 gj:A<=Lc
 c6:d.take A=(kA p u).1.1
 cB:∀T∈d,c T.2<=4000000
def wY.next{p}{y}{d}(o:jI h p)(e:wY p y u d A)(z:u<c p.2.2):
  ∃g,g<A/\gX (λj:cb=>j.1==p.2.2.getD u 0) (d.take A)=g/\wY p y (u+1) (kw p.2.1 d A g).1 (kw p.2.1 d A g).2:=by
 have k:=o.hT u;obtain⟨D,m,x,J⟩:=M7 (p:=p) (u:=u) e.fA;have t:p.2.2.drop u=p.2.2.getD u 0::p.2.2.drop (u+1):=du;obtain⟨j,b,s⟩:=k.gp (p.2.2.getD u 0) (by rw[x,t];simp);rw[<-e.c6]at b;obtain⟨g,q,C⟩:=ha b;rw[List.length_take]at q;have i:g<A:=w;have F:(d.getD g (0,[])).1=p.2.2.getD u 0:=by rw[<-s,<-C];simp[bJ (show g<c d by omega)]
 have B:∀j∈d.take A,j.2≠[]:=λj b=>by rw[e.c6]at b;have:=(k.cr j b).len.1;grind
 obtain⟨k1,a7,E,I⟩:=abo (cy:=p.2.1) (by rw[e.len];exact e.gj) i (by rw[e.c6];exact k.cH) B F;refine⟨g,i,k1,z,by rw[a7,e.len],fY E e.gj,?_,λj b=>?_⟩
 .rw[I,e.c6];rw[show kA p (u+1)=h7 (kA p u)from a];unfold h7;rw[x,t,m]
 unfold kw at b;split at b
 .unfold ol at b;simp only[fG,fh]at b;rcases b with b|b|b
  .exact e.cB j (g4 (List.mem_of_mem_eraseIdx b))
  .exact bF
  exact e.cB j (p4 b)
 rcases AV b with b|b
 .exact e.cB j b
 rw[b];have r:d.getD g (0,[])∈d:=N;exact fY (kI _ _) (e.cB _ r)
end R1
end Go.AM
