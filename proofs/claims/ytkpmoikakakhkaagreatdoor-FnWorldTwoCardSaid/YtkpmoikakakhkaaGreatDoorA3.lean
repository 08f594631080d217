/- Part 3. No condition. -/
import Derived.Test.YtkpmoikakakhkaaGreatDoorA2
import Derived.Laws.Externs
import Derived.Conc.Beside
import Derived.Conc.CrowdRun
import Derived.Conc.WgGenN2
import Derived.Conc.WgGenN3
import Derived.Conc.LeavingOf
import Derived.Below
import Derived.ProofKit
import Derived.OpenShut
import Derived.OpenVars
import Derived.LaidMore
import Derived.Lay
import Derived.SevenTiedAt
import Derived.Lib.Bytealg
set_option linter.all false
set_option maxHeartbeats 8000000
open Go.Proofs
open Go.Proofs.Tryz
open Go.Conc (G)
open List renaming length → c, range → aB, replicate → aU, getD_eq_getElem?_getD → ak, all_eq_true → aX
open Go renaming Value → Y, TypeId → al, Event → aO, undef → J, World → ar, Frame → aG, FuncId → a0, execOp → ab, Operand → ae, Program → aE, Goroutine → ai, stepG → ao, Oper → an
open Option renaming some → f, none → n
open Bool renaming true → l, false → v
open Nat renaming beq → ad, ble → ay
open Go.Region renaming wanted → aP
open Go.World renaming cell? → aH
open Go.Instr renaming sliceBounds → aT
open Go.Op renaming bytesLess → aR, equalIn → aL
open Go.Sem renaming events_bind → aD
open Go.Result renaming evThen_ok → aF
open Go.Proofs.Tryz renaming prog → T
open Go.MemAct renaming ofEvent → aK
open Go.Conc renaming stepG_seq → av, stepG_region_end → aC
namespace Go.AM
variable {j A:Nat}{h:Int}{d i e u:Nat}{W:al}{H:Y->(Nat->Option Obj)->Prop}{L:Array Bool}{bB:Mem}{E:Nat}{P:aE}{br:ai->a6->Prop}{s:Code}{C:ai}{r:an}{b:a6}{o:al}{aa:Y}{p:ar}{α:Type}{η:ae->y}{ι:Type}{k:m aq}{I:bJ}{all:m an}{dr:Array al}{cap:m N}{cQ:m y}{k6:Nat->Option Obj}{ah:m aG}{bh:m (Nat×Bool)}{V:Nat->m N}{cP:ae}{gs:Array ai}{aV:m Nat}{cn:m Prop}{off:Nat}{op:BinOp}{aQ:Array an}{Z:m Prop}{bq:m an}{aA:a6}{ty:al}{val:Nat->Nat->Y}{z:m Y}{bi:ar}{ag:Array ae}{ap dh:m aq}{res:ι->y}{aS:ι->m aq}
variable {CT:m (Nat×bI)}{au:m ik}{bd:fw}{ac:m (Nat×cp)}{a4:cp}
section
variable {q:af P}
def g.jE{K:ι->y}{e:ι->m aq}(R:dX q E all r I k K e)(Q:fj E r.dst=l)(T:∀p,g q E bd (.aj all bq::au) .normal (ga r.dst (K p) I) (e p)):g q E bd (.aj all (r::bq)::au) .normal I k:=by
  intro V M t d J j h F idx i a A;cases idx with
  |nil=>exact a.elim
  |cons S idx=>
  refine R V M t d J j h F S idx i a.1 λp X B w x b=>?_;refine T p B _ ?_ x J j h F idx i a.2 λN o C s U u z D=>A N o C s U u z (b.trans D);cases O:r.dst with
  |none=>exact t.mono b d.len
  |some W=>exact(t.mono b d.len).put (k9 Q W O) w
def dX.gb[q.bX]{bm}(aL:bk q bm cQ [] res aS){ae}(aR:oJ all I r=l)(bw:r.op=.call {callee:=.value cP,args:=ag,argTypes:=dr})(V:g1 (bD I cP)=f (bm,cap))(bt:pN k (ag.toList.map (bD I)++e' cap) ae)(bM:lY ae (gn [] cQ)=f Z)(a3:U Z)(aZ:ha 0 cQ=l)(bJ:∀t,yo (res t)=l)(a2:∀t,qF (aS t)=l):dX q E all r I k res (λt=>k++aS t):=by
  intro b x bb aw i a5 ah bN bI idx g aY bq;have ao:=eF bb cP;unfold g1 at V;split at V
  case h_2=>cases V
  case h_1 u7 uT he=>
    cases V;rw[he]at ao;have bF:=b7 ao;generalize R:x.eval cP=bV at bF;cases bF with
    |fn bo J a0 ax bT bn e y bX bB=>
      have aO:bo=[]:=jC a0;subst aO;have bQ:b4 k b J (e' cap):=qc (λt s bs=>⟨bn t,y t M,bB t s bs⟩) ax;have G:b4 k b (ag.toList.map x.eval++J) (ag.toList.map (bD I)++e' cap):=(m6 (eF bb) ag.toList).append bQ;generalize bH:ag.toList.map x.eval++J=z at G;obtain⟨⟨fn,aN,az,bR⟩,T⟩:=aL;have aD:∀aE,(ab x.eval r).run P aE=.ok (.enter bm z.toArray) aE:=λaE=>by grind[mM]
      have av:∀aE,(ab x.eval r).events P aE #[]=#[]:=λaE=>(mM bw aN az bR R aE).2;refine .next a λm a4=>?_;have W:=q.bH a4;have u:=aw.rely W;have aG:=bb.rely W aw;have bL:b4 k m z (ag.toList.map (bD I)++e' cap):=G.mono W.aU.ext aw.len;obtain⟨Q,au,bG,a8,bx,a9,bW,bz⟩:=bt m z u bL;let O:a6:={m with t:=[],D:=au,own:=λi=>m.own i∨∃L∈m.t,i∈L.ak}
      have aW:bc [] O:=by
        refine⟨a9,a,by simp,by grind,by grind,λi g=>⟨?_,by grind⟩⟩;rcases g with g|⟨d,Y,g⟩
        · exact(u.own i g).1
        · exact u.lt d Y i g
      have aP:e2 m O:=by refine⟨rfl,a8,λi g r=>bx i (λaJ=>by grind) r,a9,λi g=>?_⟩;grind
      have bZ:b4 [] O z cQ:=by have bf:=s5 bM a3 bz;exact(b4.sub (aV:=[]) (k:=k) (ap:=[]) (b:={m with D:=au}) (ly:=[]) rfl rfl bf aZ).mono (k:=[]) (b:={m with t:=[],D:=au}) (ap:=[]) (aA:=O) ⟨λ_ _ _ w=>w,λA Q L aJ bp=>by grind⟩ rfl
      refine⟨_,m,_,tw aY (jW aR _ _ _ aG) g (aD m.a),⟨⟨k,k,u,u,.refl _ _⟩,du.seen (by rw[av];exact .nil)⟩,.aP aP (T O z bZ aW bN _ λt bU p bY a1 aC K a_=>?_)⟩;refine uG (ah:=ah) (s:=i.ab x (.inRegion all.toArray (bI::idx)::a5)) K a1 λC bd=>?_;have X:=K.rely bd;have S:=a_.trans bd.aU;have bP:=aC.mono bd.aU.ext K.len
      classical
      let aa:Mem:=λi r=>if Q i then m.D i r else C.D i r;have bA:∀i,(m.own i∨∃L∈m.t,i∈L.ak)->C.own i:=λi g=>by rw[S.own];exact g
      have ai:nR C {C with D:=aa}:=by
        refine⟨a,a,a,λi r p R=>?_,λi r p R=>?_⟩
        · grind
        grind
      refine .b0 af.bX.ok ai ?_;have aj:∀i r p,aa i r=f p->C.D i r=f p:=ai.e6;let B:a6:={C with D:=aa,t:=m.t++C.t,own:=m.own}
      have an:∀i r p,m.D i r=f p->aa i r=f p:=λi r p R=>by
        by_cases o:Q i
        · grind
        · simp[aa,o,dm];exact S.mem i r p (a8 i r p R)
      have al:∀i,i<m.a.heap.size->∀r,aa i r=m.D i r:=λi g r=>by
        by_cases o:Q i
        · grind
        · simp[aa,o,dm]
          rw[S.bz i g M r];grind
      have bO:c C.t=c (aS t):=X.len;have aF:fq k m (k++aS t) B:=by
        refine⟨an,λA Q L aJ bp=>⟨Q,L,?_,?_,.refl _ _⟩⟩
        · grind
        grind
      have aM:m.a.heap.size<=C.a.heap.size:=S.size;have bE:∀A d,(m.t++C.t)[A]?=f d->(A<c m.t/\m.t[A]?=f d)∨(c m.t<=A/\C.t[A-c m.t]?=f d):=λA d w=>by grind
      have aT:bc (k++aS t) B:=by
        refine⟨λi r p R=>X.mem i r p (aj i r p R),by simp[B,u.len,bO],?_,?_,?_,?_⟩
        · intro A Q d aJ Y
          rcases bE A d Y with⟨ar,e⟩|⟨aq,e⟩
          · rw[j3 (by rw[<-u.len];exact ar)]at aJ
            exact(u.box A Q d aJ e).b_ aF u.len λj o=>⟨S.a3 j (.inr ⟨d,b_ e,o⟩),al j (u.lt d (b_ e) j o)⟩
          · rw[hl (by rw[<-u.len];exact aq),<-u.len]at aJ
            have aK:=X.box _ Q d aJ e;rcases K7 (a2 t) Q (b_ aJ)with⟨H,rfl⟩|rfl
            · obtain⟨bl,bg,bh,bj,bS⟩:=aK
              refine⟨bl,bg,bh,bj,λj o r=>?_⟩;grind
            · trivial
        · intro A a7 D F aH aI j N ba
          rcases bE A D aH with⟨ar,e⟩|⟨aq,e⟩<;>rcases bE a7 F aI with⟨bu,y⟩|⟨br,y⟩
          · exact u.a1 A a7 D F e y j N ba
          · exact absurd ba ((X.own j (bA j (.inr ⟨D,b_ e,N⟩))).2 F (b_ y))
          · exact absurd N ((X.own j (bA j (.inr ⟨F,b_ y,ba⟩))).2 D (b_ e))
          · have:=X.a1 _ _ D F e y j N ba;omega
        · intro d Y j o
          rcases fx.1 Y with w|w
          · exact eC (u.lt d w j o) aM
          · exact X.lt d w j o
        · intro j o
          refine⟨eC (u.own j o).1 aM,λd Y=>?_⟩;rcases fx.1 Y with w|w
          · exact(u.own j o).2 d w
          · exact(X.own j (bA j (.inl o))).2 d w
      have aQ:e2 {C with D:=aa} B:=by refine⟨rfl,λ_ _ _ w=>w,λ_ _ _=>rfl,λi r p R=>X.mem i r p (aj i r p R),λj o=>?_⟩;grind
      have a':df k m (k++aS t) B:=by
        refine⟨aM,λj o=>S.a3 j (.inl o),an,λj o _ r=>al j o r,λd Y j o=>?_,aF.box,S.os,S.tape,S.output,a⟩;rcases fx.1 Y with w|w
        · grind
        · rcases S.bR d w j o with e|⟨bK,e,_⟩
          · grind
          grind
      refine .aP aQ ?_;have bC:=qk (i:=i) (x:=x) (h:=a5) all.toArray bI idx p;rw[aY]at bC;simp[nX]at bC;rw[bC];exact bq t p B (YZ (bJ t) bP) aT (W.aU.trans a')
def g.gb[q.bX]{e:Type}{cP}{ag}{dr}{o}{cap}{cQ}{a:e->y}{b:e->m aq}(A:bk q o cQ [] a b){s}(w:oJ all I r=l)(i:r.op=.call {callee:=.value cP,args:=ag,argTypes:=dr})(B:g1 (bD I cP)=f (o,cap))(h:pN k (ag.toList.map (bD I)++e' cap) s){Z}(p:lY s (gn [] cQ)=f Z)(u:U Z)(x:ha 0 cQ=l)(t:∀d,yo (a d)=l)(z:∀d,qF (b d)=l)(C:fj E r.dst=l)(j:∀d,g q E bd (.aj all bq::au) .normal (ga r.dst (a d) I) (k++b d)):g q E bd (.aj all (r::bq)::au) .normal I k:=.jE (dX.gb A w i B h p u x t z) C j
def g.iy[q.bX]{m}(y:bk q m cQ [] res aS)(A i){o}{h}(t:oJ all I r=l)(d:r.op=.call {callee:=.value cP,args:=ag,argTypes:=dr})(B:g1 (bD I cP)=f (m,cap))(z:(ag.toList.map (bD I)++e' cap)[i]?=f (cL o))(b:Aq k A o h j V)(p:lY ((ag.toList.map (bD I)++e' cap).set i (ax (.B v h j V))) (gn [] cQ)=f Z)(u:U Z)(w:ha 0 cQ=l)(s:∀a,yo (res a)=l)(x:∀a,qF (aS a)=l)(C:fj E r.dst=l)(e:∀a,g q E bd (.aj all bq::au) .normal (ga r.dst (res a) I) (k++aS a)):g q E bd (.aj all (r::bq)::au) .normal I k:=
  g.gb y t d B ((pN.refl _ _).step i A z b) p u w s x C e
end
section
variable {q:af P}
theorem dX.ev{z:ι->y}{a:ι->m aq}(M:r.guard=n)(D:eg P E r I k z a):dX q E all r I k z a:=by intro T A C b Q S B O R s o p j;refine rk o p (i6 M) λJ e=>?_;have g:=b.rely e;obtain⟨w,N,d,x,h,i,K,t,u,F⟩:=D J A (C.rely e b) g;exact⟨N,d,x,h,i,⟨⟨k,a w,g,t,u⟩,F⟩,j w x d K t (e.aU.trans (u.tooV g))⟩
def dX.eW{D}(K:bk q D cQ dh res aS)(aV)(ah:r.guard=n)(e:r.op=.call {callee:=.value cP,args:=ag,argTypes:=dr})(h:g1 (bD I cP)=f (D,cap))(Y:∀g z,b4 k g z (ag.toList.map (bD I)++e' cap)->b4 k g z (gn aV cQ))(al:ha (c aV) cQ=l)(an:dx aV k=f dh)(Q:ew dh=l)(ai:∀a,ew (aS a)=l)(w:fb aV=l)(ao:∀a,ay (c aV) (c (aS a))=l):
  dX q E all r I k (λa=>fc (aV++gV (c k) (c (aS a)-c aV)) (res a)) (λa=>da aV (aS a) k):=by
 intro g S J p ar ab U aq au y o s m;have N:=eF J cP;unfold g1 at h;split at h
 case h_2=>cases h
 case h_1 u7 uT he=>
  cases h;rw[he]at N;have C:=b7 N;generalize R:S.eval cP=X at C;cases C with
  |fn W b u d V i Z j af x=>
   have aj:=jC u;subst aj;have aa:b4 k g b (e' cap):=qc (λa T t=>⟨i a,j a M,x a T t⟩) d;have ae:=Y g _ ((m6 (eF J) ag.toList).append aa);obtain⟨fn,O,F,B⟩:=K.1;exact A2 o s (i6 ah) p (λA=>(mM e O F B R A).1) (λA=>(mM e O F B R A).2) K ae al an Q ai w (λa=>fs (ao a)) m
def dX.d'{e}(s:bk q e cQ dh res aS)(aV)(h:r.guard=n)(d:r.op=.call {callee:=.value cP,args:=ag,argTypes:=dr})(u:g1 (bD I cP)=f (e,cap))(g:k5 (ag.toList.map (bD I)++e' cap)=gn aV cQ)(j:ha (c aV) cQ=l)(m:dx aV k=f dh)(t:ew dh=l)(i:∀a,ew (aS a)=l)(b:fb aV=l)(o:∀a,ay (c aV) (c (aS a))=l):
  dX q E all r I k (λa=>fc (aV++gV (c k) (c (aS a)-c aV)) (res a)) (λa=>da aV (aS a) k):=.eW s aV h d u (λ_ _ p=>g▸uS p) j m t i b o
def dX.cb{e}(t:bk q e cQ dh res aS)(aV)(i:r.guard=n)(d:r.op=.call {callee:=.value cP,args:=ag,argTypes:=dr})(u:g1 (bD I cP)=f (e,cap))(g:lY (ag.toList.map (bD I)++e' cap) (gn aV cQ)=f Z)(h:U Z)(m:ha (c aV) cQ=l)(o:dx aV k=f dh)(w:ew dh=l)(j:∀a,ew (aS a)=l)(b:fb aV=l)(s:∀a,ay (c aV) (c (aS a))=l):
  dX q E all r I k (λa=>fc (aV++gV (c k) (c (aS a)-c aV)) (res a)) (λa=>da aV (aS a) k):=.eW t aV i d u (λ_ _ p=>s5 g h p) m o w j b s
def eg.fz{F aa:ae}(J:jY P r F aa W a4){aH h}{U}{d:Nat->m N}(Q:a4.size=h)(ag:bD I F=ax (.B l aH 0 V))(az:bD I aa=ax (.B U h A d))(j:0<A)(i:A*a4.bytes<=140737488355328)(aN:∀C,C<A->∀ai∈d C,np ai=l):
  eg P E r I k (ι:={D:fp×m Y // eo h A d D.2}) (λD=>cL (cZ D.1.1 A)) (λD=>k++[.K (cr W h D.1.1 A D.1.2)]):=by
 intro b aA O g;obtain⟨a3,t2,C,aW,au,e,aF,G,y⟩:=J.op;have K:=eF O F;rw[ag]at K;have Z:=Rd.fQ (h:=aH) (gk:=a4.size) (.inr a) (b7 K);have t:=eF O aa;rw[az]at t;have t:=b7 t;obtain⟨a2,aI,z,S,a1,aK,aw,aV,aO⟩:=Z.bZ;have aM:=aw a;subst aM;rw[S]at Z;have aD:Rd b.D (aA.eval aa) (.B U a4.size A d):=M;obtain⟨s,ab,X,q,aC,aT,aR,aS⟩:=vS (P:=P) (ty:=r.type) e aF G y J.elem g Z aD w M J.bytes;have aL:=u4 (P:=P) (ty:=r.type) e aF G y J.elem g Z aD w M J.bytes;have al:cg 0 V d=d:=by funext C;simp[cg]
 rw[Q,cX,al]at q;rw[Q]at aR;rw[cX]at aC aS;have aE:eo h A d s:=⟨q.len,q.bF,λC e aY ai u=>by
  obtain⟨aZ,af,aG⟩:=q.rd C e aY ai u
  grind[ve]⟩
 have R:∀F∈s,dQ F=l:=λF ag=>by
  obtain⟨x,av,rfl⟩:=g4 ag;have aq:0<h:=M;have aQ:=q.len;have e:x / h<A:=si M;have L:x / h*h+x % h=x:=ur x h;have u:x % h<c (d (x / h)):=by rw[q.bF _ e];exact pY _ aq
  obtain⟨aZ,af,aG⟩:=aE.b2 _ e _ _ (bH u);rw[L,bH av]at af;cases af;exact(aG b.D).cell
 let o:ar:=b.a.drew.alloc (.cells (s++ab).toArray W);have aJ:ey (k++[.K (cr W h (.row b.a.heap.size X) A s)]) {b with a:=o,t:=b.t++[⟨.nilFunc,[b.a.heap.size]⟩]} (.K (cr W h (.row b.a.heap.size X) A s)) ⟨.nilFunc,[b.a.heap.size]⟩:=by
  refine⟨λB=>if B=b.a.heap.size then f (.cells (s++ab).toArray W (0,0))else n,⟨a,R,q.len,aC,aT,ab,aR,a⟩,λB r T=>?_,λB=>?_,λB T r=>?_⟩
  .by_cases aj:B=b.a.heap.size
   .subst aj;simp only[dv]at T;cases T;exact lT b.a.drew _
   grind
  .by_cases aj:B=b.a.heap.size<;>simp[aj]
  simp at T;subst T;cases j:b.D b.a.heap.size r with
  |none=>rfl
  |some a0=>have:=g.block j;omega
 have aP:o.heap.size=b.a.heap.size+1:=NN;have H:bc k {b with a:=o}/\cN k b k {b with a:=o}:=
  g.cW w (λah i=>iV b.a.drew _ i) (λah i r=>rfl) (λah i r a0 j=>by have:=g.block j;omega) a a a
 obtain⟨an,ao⟩:=H.1.bY H.2 rfl g aJ (λah i=>by grind);refine⟨⟨(.row b.a.heap.size X,s),aE⟩,.value (.slice (f ⟨b.a.heap.size,0,n⟩) A X),_,_,?_,.inl a,Rd.val a,an,ao,?_⟩
 .rw[lb au,S];simp[aS];rfl
 grind[lb,iS]
def g.fz{s t}{W}{a4}(C:jY P r s t W a4){y h A}{o}{d a:Nat->m N}(z:a4.size=h)(D:bD I s=ax (.B l y 0 d))(w:bD I t=ax (.B o h A a))(i:0<A)(e:A*a4.bytes<=140737488355328)(u:∀p,p<A->∀x∈a p,np x=l)(B:r.guard=n)(F:fj E r.dst=l)(j:∀b:{b:fp×m Y // eo h A a b.2},g q E bd (.aj all bq::au) .normal (ga r.dst (cL (cZ b.1.1 A)) I) (k++[.K (cr W h b.1.1 A b.1.2)])):g q E bd (.aj all (r::bq)::au) .normal I k:=
 g.cD _ _ B F (eg.fz C z D w i e u) j
def g.fg(W)(h)(i:g q E bd (.code s::au) .normal I (k++[.K (cr W h (.nil n) 0 [])])):g q E bd (.code s::au) .normal I k:=by refine g.aP (λj p b a=>?_) i;obtain⟨m,d⟩:=a.bY (bS:=.K (cr W h (.nil n) 0 [])) (L:=⟨.nilFunc,[]⟩) (.refl _ _) rfl a ⟨λ_=>n,⟨rfl,by simp,by simp,rfl,rfl⟩,by simp,by simp,by simp⟩ D;exact⟨{j with t:=j.t++[⟨.nilFunc,[]⟩]},rfl,⟨b.size,b.defers.imp λ_ e=>e.mono d.ext,λo=>(b.aL o).mono d.ext a.len⟩,m,d⟩
end
def F0(h:Y)(e g:Nat)(a:Nat->m N)(d b:N):Prop:=b=d∨(d=.val h/\b=.B v e g a)
def bc.ft{aS fe}{h}{bO}{ag}(q:bc (aS++[.K (cr W h bO j ag)]) b)(aw:eo h j V ag){s}{eP}{A p}{C lO:Nat->m N}(y:aS[s]?=f (.q eP A p C))(aV:fe=aS.set s (.q eP A p lO))(az:kh (c fe) fe=l)(ab:∀k,k<p->c (lO k)=c (C k))(Z:∀k,k<p->∀(u:Nat) (K:N),(lO k)[u]?=f K->∃x,(C k)[u]?=f x/\F0 (cZ bO j) h j V x K):
  ∃r:a6,bc fe r/\e2 b r/\(∀aj O,bx (aS++[.K (cr W h bO j ag)]) b aj O->hO (c fe) O=l->bx fe r aj O)/\∀{o:m aq} {w:a6},df o w (aS++[.K (cr W h bO j ag)]) b->o.length<=c fe->df o w fe r:=by
 have G:=(cO.1 y).1;have aJ:(aS++[aq.K (cr W h bO j ag)])[c aS]?=f (.K (cr W h bO j ag)):=D
 obtain⟨L,cj,ar,av,an,S,aI,aK⟩:=cr.fF aJ V (λk g=>⟨aw.ea k g,λaT u x aW t aH=>by
  obtain⟨aY,aO,aP⟩:=aw.b2 k g u x t
  grind⟩) b q
 obtain⟨E,F⟩:=q.b7 (cj:=cj) (bi:=b.a) (eb:=.M) (cv:=⟨L.v,[]⟩) aJ ar rfl (bC _) (λ_ _ _=>rfl) (λi _ e ae=>an i e ae) av S D rfl rfl rfl B;have R:(aS++[aq.K (cr W h bO j ag)]).set (c aS) .M=aS++[.M]:=D;rw[R]at E F;have ax:(aS++[aq.M])[s]?=f (.q eP A p C):=M;have aQ:=E.len;have Q:=bH (l:=b.t.set (c aS) ⟨L.v,[]⟩) (i:=s) M;generalize(b.t.set (c aS) ⟨L.v,[]⟩)[s]'_=sc at Q;have H:=E.box s _ sc ax Q;have af:fM (.q eP A p C) sc (.q eP A p lO) sc:=⟨λ_=>rfl,bC _⟩
 have aR:(b.t.set (c aS) ⟨L.v,[]⟩).set s sc=b.t.set (c aS) ⟨L.v,[]⟩:=mY;obtain⟨ao,I⟩:=E.b7 (cj:=cj) (bi:=b.a) (eb:=.q eP A p lO) (cv:=sc) ax Q af (bC _) (λ_ _ _=>rfl) (λ_ _ _ _=>rfl) (λ_ _ _ aF=>aF) S
  (λi e=>⟨.inl e,E.lt sc (b_ Q) i e⟩) a a a (by
   rcases H with⟨dK,e4⟩|⟨i,T,z,al,dK,e4,jK,U,X,au,Y⟩
   .exact .inl ⟨dK,e4⟩
   .refine .inr ⟨i,T,z,al,dK,e4,jK,U,X,⟨au.len,λk g=>by rw[ab k g];exact au.bF k g,λk g u K t=>?_⟩,Y⟩;obtain⟨x,aE,aA⟩:=Z k g u K t;obtain⟨aN,ah,ai⟩:=au.rd k g u x aE;refine⟨aN,ah,?_⟩;rcases aA with rfl|⟨rfl,rfl⟩
    .exact ai
    grind[Rd.bc])
 have aD:(aS++[aq.M]).set s (.q eP A p lO)=fe++[.M]:=M;rw[aD]at ao I;have J:=F.trans I;refine⟨_,ao.drop (bq:=[.M]) az,⟨a,av,λi e ae=>an i (e L (b_ ar)) ae,S,λi e=>?_⟩,λaj O aL aa=>(aL.mono J.ext q.len).drop (bq:=[.M]) aa,λ{o w} aM af=>(aM.trans (J.tooV q)).drop (bq:=[.M]) af⟩;rcases e with e|⟨cv,aC,e⟩
 .exact .inl e
 have aG:=gY aC;grind
def bk.ft{P:aE}{d:Type}{I:af P}{K}{args}{k}{b:d->y}{aS fe:d->m aq}{W h j}{bO:d->fp}{ag:d->m Y}{o:Nat->m N}(M:bk I K args k b (λa=>aS a++[.K (cr W h (bO a) j (ag a))]))(ab:∀a,eo h j o (ag a))(Q){eP}{R q:Nat}{r:d->Nat->m N}{lO:Nat->m N}(ae:∀a,(aS a)[Q]?=f (.q eP R q (r a)))(X:∀a,fe a=(aS a).set Q (.q eP R q lO))(aa:∀a,kh (c (fe a)) (fe a)=l)(V:∀a,hO (c (fe a)) (b a)=l)(Z:∀a,c k<=c (fe a))(aj:∀a g,g<q->c (lO g)=c (r a g))(al:∀a g,g<q->∀(O:Nat) (S:N),(lO g)[O]?=f S->∃J,(r a g)[O]?=f J/\F0 (cZ (bO a) j) h j o J S):bk I K args k b fe:=by refine⟨M.1,λah z D B U w A=>M.2 ah z D B U w λa x T ai C e p F=>?_⟩;obtain⟨E,s,i,t,u⟩:=p.ft (ab a) (ae a) (X a) (aa a) (aj a) (al a);exact .aP i (A a x T E (C.mono i.mem) (t T _ e (V a)) s (u F (Z a)))
def SL(aY:b2 P ac){parts}(t:r.op=.buildSlice o j parts){h}{V}(g:rO ac η o j parts.toList=f (h,V)){e}(u:bZ ac o=f e)(ag:e.desc=.slice W){ρ:ae->Y}(N:∀au,bx k b (ρ au) (η au)):
  ∃s:m Y,eX b.D h j (λe=>V.getD e []) s/\j<=16777216/\0<h/\(ab ρ r).run P b.a=.ok (.value (.slice (f ⟨b.a.heap.size,0,n⟩) j j)) (b.newRow W s).a/\(ab ρ r).events P b.a #[]=#[]:=by
 unfold rO at g;simp[u,ag]at g
 .skip
  cases A:bZ ac W with
  |none=>grind
  |some d=>
   simp[A]at g;cases C:ad d.size 0 with
   |true=>grind
   |false=>
    simp[C]at g;cases G:ay (j*d.size) 16777216 with
    |false=>grind
    |true=>
     simp[G]at g;cases aa:pq η parts.toList with
     |none=>grind
     |some T=>
      simp[aa]at g;cases ar:rB (λh=>f (h*d.size,d.size)) T (aU (j*d.size) R.any)with
      |none=>grind
      |some F=>
       simp[ar]at g;cases H:h3 F with
       |none=>grind
       |some aF=>
        simp[H]at g;cases af:rr d.size j aF with
        |none=>grind
        |some aj=>
         simp only[af,e3,lF]at g;obtain⟨rfl,rfl⟩:=g;have aL:d.size≠0:=λaC=>by rw[aC]at C;cases C
         have aD:=fs G;obtain⟨aq,q,NG,aH,aI,a,ah,aJ,aK⟩:=(aY W d A).cX;have ao:q.cells.size=d.size:=by have:=eD List.length ah;grind
         have an:∀i∈q.cells.toList,dQ i=l:=by intro i L;have ai:k2 i∈q.cells.toList.map k2:=hn.2 ⟨i,L,rfl⟩;rw[ah]at ai;obtain⟨aN,_,J⟩:=hn.1 ai;exact(Rd.fl (bB:=b.D) J.symm).cell
         have y:∀aE,(∀i∈(aB aE).map (λx=>q.cells[x % q.cells.size]!),dQ i=l):=by grind[Nat.mod_lt]
         have av:∀z:m Y,(∀i∈z,dQ i=l)->bM k b z (aU (c z) R.any):=by
          intro z;induction z with
          |nil=>intro _;trivial
          |cons i z O=>intro L;exact⟨L i D,O λaG B=>L aG M⟩
         obtain⟨Q,S⟩:=yZ (k:=k) (b:=b) N aa;have aM:bM k b ((Array.range (j*d.size)).map (λx=>q.cells[x % q.cells.size]!)).toList (aU (j*d.size) R.any):=by have:=av _ (y (j*d.size));simpa using this
         obtain⟨s,U,X⟩:=yb (k:=k) (b:=b) (vM:=λh=>f (h*d.size,d.size)) (λh aO K=>K) ar Q S aM;have nK:=rv H X;obtain⟨aA,E⟩:=BQ (bB:=b.D) (z:=s.toList) af (by simpa using nK.cJ) nK.eX;refine⟨s.toList,E,fQ (uo j w) aD,by omega,?_,?_⟩
         rotate_left
         .exact Rn
         have B:=(aY o e u).run_underlying (p:=b.a);rw[ag]at B;have aw:(zeroValue W).run P b.a=.ok q b.a:=N5;have I:Instr.fill (λh=>f (h*d.size,d.size)) ((Array.range (j*d.size)).map (λx=>q.cells[x % q.cells.size]!)) (parts.map λ(e,Z)=>(e,ρ Z)).toList=f s:=by simpa using U
         by_cases az:j*d.size=0
         .have ax:j=0:=by grind[Nat.mul_eq_zero]
          subst ax;have al:Array.range 0=#[]:=rfl;simp[al]at I;simp[ab,t,Instr.buildSlice,B,(aY W d A).ba,al,I,Go.newRow,a6.newRow]
         rw[show ab ρ r=(do pure (.value (<-Instr.buildSlice o j (parts.map λ(e,Z)=>(e,ρ Z))))) by simp[ab,t]];simp only[Instr.buildSlice,cJ,B,c8,(aY W d A).ba,az,dm,aw,show¬j*d.size>2 ^ 24 by omega,su,I,dY];simp[Go.newRow,a6.newRow]
section
variable {q:af P}
def g.gR(aY:b2 P ac){parts}(C:r.op=.buildSlice o j parts){h}{V}{e}(u:bZ ac o=f e)(M:e.desc=.slice W)(s:rO ac (bD I) o j parts.toList=f (h,V))(S:r.guard=n)(U:fj E r.dst=l)(w:g q E bd (.aj all bq::au) .normal (ga r.dst (cC (c k) (.B j h 0 j)) I) (k++[.q W h j (λe=>V.getD e [])])):g q E bd (.aj all (r::bq)::au) .normal I k:=by
 refine g.cD (ι:=Unit) (λ_=>cC (c k) (.B j h 0 j)) (λ_=>k++[.q W h j (λe=>V.getD e [])]) S U (λb A O i=>?_) λ_=>w;obtain⟨p,y,F,D,B,K⟩:=SL (k:=k) (b:=b) (ρ:=A.eval) aY C s u M (λX=>eF O X);have aJ:ey (k++[.q W h j (λe=>V.getD e [])]) {b with a:=(b.newRow W p).a,t:=b.t++[⟨.slice (f ⟨b.a.heap.size,0,n⟩) 0 j,[b.a.heap.size]⟩]} (.q W h j (λe=>V.getD e [])) ⟨.slice (f ⟨b.a.heap.size,0,n⟩) 0 j,[b.a.heap.size]⟩:=by
  refine .inr ⟨b.a.heap.size,j,p,[],a,by rw[h1];exact lT b.a _,by rw[h1];exact y.len,bC _,by omega,y,λr=>?_⟩;cases m:b.D b.a.heap.size r with
  |none=>rfl
  |some T=>have:=i.block m;omega
 have z:bc k {b with a:=(b.newRow W p).a}/\cN k b k {b with a:=(b.newRow W p).a}:=
  i.cW (by simp[a6.newRow]) (λt d=>iV b.a _ d) (λt d r=>rfl) (λt d r T m=>by have:=i.block m;omega) a a a
 obtain⟨R,Q⟩:=z.1.bY z.2 rfl i aJ (λt d=>by simp at d;subst d;exact⟨bC _,by simp[a6.newRow]⟩);refine⟨(),.value (.slice (f ⟨b.a.heap.size,0,n⟩) j j),{b with a:=(b.newRow W p).a,t:=b.t++[⟨.slice (f ⟨b.a.heap.size,0,n⟩) 0 j,[b.a.heap.size]⟩]},_,B,.inl rfl,?_,R,Q,by rw[K];exact .nil⟩;refine⟨.slice (f ⟨b.a.heap.size,0,n⟩) 0 j,⟨_,_,j,j,a,bC _,by simp,by omega,a,λ_=>⟨_,a,by simp⟩⟩,by simp,λY J N x s=>?_⟩;simp at s;obtain⟨_,_,rfl,_⟩:=s;exact⟨bC _,λ_=>⟨_,by show(b.t++[_])[c k]?=_;rw[<-i.len,AD],a⟩⟩
end
def uX(o i j:Nat)(g:Nat->m N):R->R×m Prop
 |.O b (.B h a e d)=>match ad b o with
  |true=>match ad a i with
   |true=>(.c (.B v i d (h_ e g)),[h=j,e+d<=j])
   |false=>(.O b (.B h a e d),[])
  |false=>(.O b (.B h a e d),[])
 |k=>(k,[])
def o5(g e h:Nat)(a:Nat->m N):m R->m R×m Prop
 |[]=>([],[])
 |i::o=>match uX g e h a i with
  |(b,j)=>match o5 g e h a o with
   |(d,k)=>(b::d,gM j k)
def B3(h g i:Nat)(a:Nat->m N):E1->E1×m Prop
 |.Q j=>match uX h g i a j with|(b,e)=>(.Q b,e)
 |.agg d=>match o5 h g i a d with|(k,e)=>(.agg k,e)
def B2(g e h:Nat)(a:Nat->m N):y->y×m Prop
 |.n j=>match B3 g e h a j with|(b,i)=>(.n b,i)
 |d=>(d,[])
def uY(e d g:Nat)(a:Nat->m N):bJ->bJ×m Prop
 |[]=>([],[])
 |(p,i)::o=>match B2 e d g a i with
  |(h,j)=>match uY e d g a o with
   |(b,k)=>((p,h)::b,gM j k)
def iN(g j k:Nat)(b:Nat->m N):Nat->m aq->m aq×m Prop
 |_,[]=>([],[])
 |i,d::r=>match iN g j k b (i+1) r with
  |(a,h)=>match ad i g with
   |true=>(.M::a,h)
   |false=>match d with
    |.cells o e=>match o5 g j k b e with|(p,q)=>(.cells o p::a,gM q h)
    |d=>(d::a,h)
section
variable {b5:a6}{W h:Nat}
structure l_(k:m aq)(b:a6)(d h j:Nat)(V:Nat->m N)(ap:m aq)(b5:a6):Prop where
 a3:∀aa x,cA k b aa x->cA ap b5 aa x
 eZ:∀aa gk r A,cA k b aa (.O d (.B j gk r A))->gk=h->r+A<=j->Rd b5.D aa (.B v h A (h_ r V))
def l_.cC(g:l_ k b d h j V ap b5){aa}{x}(m:U (uX d h j V x).2)(i:cA k b aa x):cA ap b5 aa (uX d h j V x).1:=by
 unfold uX at m⊢;split
 .rename_i q C p r A;split
  .rename_i a;split
   .rename_i e;simp[a,e]at m;have a:=dn a;have e:=dn e;subst a;obtain⟨rfl,o⟩:C=j/\r+A<=j:=m;exact g.eZ aa _ _ _ i e o
   exact g.a3 aa _ i
  exact g.a3 aa _ i
 exact g.a3 aa _ i
def l_.gm(i:l_ k b d h j V ap b5):∀{z:m Y}{a:m R},U (o5 d h j V a).2->bM k b z a->bM ap b5 z (o5 d h j V a).1
 |[],[],_,_=>trivial
 |[],_::_,_,e=>e.elim
 |_::_,[],_,e=>e.elim
 |p::z,o::a,g,e=>by simp only[o5]at g⊢;rw[U.X]at g;exact⟨i.cC g.1 e.1,i.gm g.2 e.2⟩
def l_.n(g:l_ k b d h j V ap b5){a}(e:U (B3 d h j V a).2)(i:ez k b aa a):ez ap b5 aa (B3 d h j V a).1:=by
 cases a with
 |Q q=>exact g.cC e i
 |agg o=>obtain⟨z,p,m⟩:=i;exact⟨z,p,g.gm e m⟩
def l_.c'(m:l_ k b d h j V ap b5)(a:c b.t=c k)(i:fq k b ap b5){aa}{O}(g:U (B2 d h j V O).2)(e:bx k b aa O):bx ap b5 aa (B2 d h j V O).1:=by
 cases O with
 |n p=>exact m.n g e
 |S o=>exact e.mono i a
 |any=>trivial
def l_.b3(q:l_ k b d h j V ap b5)(g:c b.t=c k)(p:fq k b ap b5):∀{I:bJ}{o:Nat}{m:Y},U (uY d h j V I).2->bx k b m (look I o)->bx ap b5 m (look (uY d h j V I).1 o)
 |[],_,_,_,_=>trivial
 |(r,s)::t,o,m,i,a=>by
  simp only[uY]at i⊢;rw[U.X]at i;simp[look]at a⊢;cases e:ad r o with
  |true=>rw[e]at a;exact q.c' g p i.1 a
  |false=>rw[e]at a;exact q.b3 g p i.2 a
theorem B0:∀{k:m aq}{e u:Nat},(iN d h j V e k).1[u]?=match k[u]? with
  |none=>n
  |some a=>f (match ad (e+u) d with|true=>.M|false=>match a with|.cells i b=>.cells i (o5 d h j V b).1|a=>a)
 |[],e,u=>by simp[iN]
 |a::g,e,0=>by simp[iN,j6,mg];grind
 |a::g,e,u+1=>by have o:=B0 (k:=g) (e:=e+1) (u:=u);have p:e+1+u=e+(u+1):=w;rw[p]at o;simp[iN,nZ];grind
def H1:∀{k:m aq}{e u:Nat}{g:al}{a:m R},U (iN d h j V e k).2->k[u]?=f (.cells g a)->e+u≠d->U (o5 d h j V a).2
 |[],e,u,_,_,_,b,_=>by grind
 |p::o,e,0,g,a,i,b,q=>by simp at b;subst b;simp[iN]at i;grind[Nat.eq_of_beq_eq_true,U.X]
 |p::o,e,u+1,g,a,i,b,q=>by simp at b;refine H1 (k:=o) (e:=e+1) (u:=u) ?_ b w;simp[iN]at i;grind[U.X]
theorem B1:∀{k:m aq}{e:Nat},(iN d h j V e k).1.length=c k
 |[],_=>rfl
 |g::a,e=>by simp[iN];have b:=B1 (k:=a) (e:=e+1);grind
def bc.bN(r:bc k b)(aJ:k[d]?=f (.q W h j V))(aq:U (iN d h j V 0 k).2):
  ∃p:a6,p.a=b.a/\bc (iN d h j V 0 k).1 p/\cN k b (iN d h j V 0 k).1 p/\l_ k b d h j V (iN d h j V 0 k).1 p:=by
 have y:d<c k:=(cO.1 aJ).1;have af:b.t[d]?=f (b.t[d]'(by rw[r.len];exact y)):=bH _;generalize b.t[d]'M=L at af;have a0:=r.box _ _ L aJ af;obtain⟨cj,av,aw,ax,az⟩:∃cj:Mem,(∀m e q,b.D m e=f q->cj m e=f q)/\(∀m,m∉L.ak->∀e,cj m e=b.D m e)/\(∀m e q,cj m e=f q->b.a.cell? ⟨m,e,n⟩=f q) /\
   (∀q o e I,cA k b q (.O d (.B j o e I))->o=h->e+I<=j->Rd cj q (.B v h I (h_ e V))):=by
  rcases a0 with⟨rfl,rfl⟩|⟨m,al,z,a9,rfl,hw,aV,aW,aT,aL,a5⟩
  .refine⟨b.D,λ_ _ _ S=>S,λ_ _ _=>rfl,r.mem,λq o e I K s aF=>?_⟩;obtain⟨au,⟨aP,aj,Z,al,X,t,u,G,aI,aM⟩,_,aN⟩:=K;grind[Rd.dJ]
  let cj:Mem:=λA e=>if A=m then z[e]? else b.D A e;have aO:∀A e q,b.D A e=f q->cj A e=f q:=λA e q X=>by grind
  refine⟨cj,aO,λA aS e=>M,λA e q X=>?_,λq o e I K s aF=>?_⟩
  .by_cases s:A=m
   .subst s;simp[cj,dv]at X;simp[aH,hw];grind
   simp[cj,s,dm]at X;exact r.mem A e q X
  subst s;obtain⟨au,⟨aP,aj,Z,a4,X,t,u,G,aI,aM⟩,_,aN⟩:=K;obtain⟨cv,E,aG⟩:=(aN _ _ _ _ aJ).2 rfl;rw[af]at E;cases E;rw[aI]at aG;cases aG;rw[X];have ag:∀i,i<I->∀F Q,(h_ e V i)[F]?=f Q->∃aC,z[(e+i)*o+F]?=f aC/\Rd b.D aC Q:=λi g F Q x=>by rw[yP]at x;exact aL.rd (e+i) w F Q x
  refine .B m (e*o) (λi F=>(z[(e+i)*o+F]?).getD J) t w D (λi g=>by rw[yP];exact aL.bF _ w) (λa7=>M) (λi g F Q x=>M) (λi g F Q x=>?_);obtain⟨aC,aD,aE⟩:=ag i g F Q x;rw[aD];exact aE.mono aO
 obtain⟨N,aA⟩:=r.b7 (cj:=cj) (bi:=b.a) (eb:=.M) (cv:=⟨L.v,[]⟩) aJ af B (bC _) (λ_ _ _=>rfl) (λm _ T e=>aw m T e) av ax D rfl rfl rfl B;let p:a6:=⟨b.t.set d ⟨L.v,[]⟩,cj,b.a,b.own⟩
 have ag:∀i O,k[i]?=f O->i≠d->(iN d h j V 0 k).1[i]?=f (match O with|.cells W aa=>.cells W (o5 d h j V aa).1|m=>m):=λi O g aY=>by grind[B0,Nat.eq_of_beq_eq_true]
 have aK:(iN d h j V 0 k).1[d]?=f .M:=by
  rw[B0,aJ];have:ad (0+d) d=l:=by rw[cX];exact sv d
  grind
 have rY:cN (k.set d .M) p (iN d h j V 0 k).1 p:=by
  refine⟨bC _,λ_ _ _=>rfl,λ_ _ _ S=>S,λ_ _ _ _=>rfl,λcv E m T=>.inr ⟨cv,E,T⟩,λi O cv g E=>?_,a,a,a,a⟩;by_cases s:i=d
  .subst s;rw[io y]at g;cases g;exact⟨.M,cv,aK,E,a⟩
  rw[kA (λS=>s S.symm)]at g;refine⟨_,cv,ag i O g s,E,?_⟩;cases O<;>first|exact fM.refl _ _|rfl
 have ae:=aA.trans rY;have ab:l_ k b d h j V (iN d h j V 0 k).1 p:=⟨λq aP K=>K.mono ae.ext r.len,λq o e I K s aF=>az q o e I K s aF⟩
 refine⟨p,a,⟨N.mem,by rw[B1,<-r.len];grind,λi O cv g E=>?_,N.a1,N.lt,N.own⟩,ae,ab⟩;by_cases s:i=d
 .subst s;rw[aK]at g;cases g;trivial
 have R:i<c k:=by grind[B1]
 have ah:=bH R;have a2:b.t[i]?=f cv:=M;have a3:=r.box i _ cv ah a2;have Y:=N.box i _ cv (by rw[kA (λS=>s S.symm)];exact ah) E;have C:=ag i _ ah s;rw[g]at C;have C:=w0 C;generalize aR:k[i]=ai at *;cases ai with
 |cells eP aa=>
  subst C;obtain⟨m,z,t,u,G,aM⟩:=a3;obtain⟨A,aZ,H,aQ,_,a1⟩:=Y;rw[t]at H;cases H;exact⟨m,z,t,u,ab.gm (H1 aq ah w) G,a1⟩
 |x=>subst C;exact Y
 |K=>subst C;exact Y
 |M=>subst C;trivial
 |loop a' a_ K=>
  subst C;obtain⟨ar,tmps,fn,an,t,u,G,aM,ao⟩:=Y;exact⟨ar,tmps,fn,an,t,u,G,λa8=>(aM a8).mono rY.ext N.len,ao⟩
 |bl=>subst C;exact Y
 |q=>subst C;exact Y
end
section
variable {q:af P}{dD:bJ}
def g.bN(d){W h j}{a:Nat->m N}{Z cR}(t:c_ d k=f (.q W h j a))(B:uY d h j a I=(dD,Z))(y:iN d h j a 0 k=(ap,cR))(C:U Z)(D:U cR)(u:g q E bd (.code s::au) .normal dD ap):g q E bd (.code s::au) .normal I k:=by refine g.aP (λF A p e=>?_) u;obtain⟨w,r,b,i,x⟩:=e.bN (et t) M;rw[y]at b i x;refine⟨w,r,⟨p.size,p.defers.imp λ_ z=>z.mono i.ext,λo=>?_⟩,b,i⟩;have:=x.b3 e.len i.ext (I:=I) (o:=o) M (p.aL o);grind
end
def bc.e0{aS}{h}{bO}{ag}(i:bc (aS++[.K (cr W h bO j ag)]) b)(t:eo h j V ag)(I:kh (c aS) aS=l):
  ∃g:a6,bc aS g/\e2 b g/\Rd g.D (cZ bO j) (.B v h j V)/\∀{e:m aq} {k:a6},df e k (aS++[.K (cr W h bO j ag)]) b->e.length<=c aS->df e k aS g:=by
 have aJ:(aS++[aq.K (cr W h bO j ag)])[c aS]?=f (.K (cr W h bO j ag)):=D
 obtain⟨L,cj,A,z,w,x,T,Q⟩:=cr.fF aJ V (λu o=>⟨t.ea u o,λS O E U r N=>by
  obtain⟨X,Y,R⟩:=t.b2 u o O E r
  grind⟩) b i
 obtain⟨y,p⟩:=i.b7 (cj:=cj) (bi:=b.a) (eb:=.M) (cv:=⟨L.v,[]⟩) aJ A rfl (bC _) (λ_ _ _=>rfl) (λq _ d s=>w q d s) z x D rfl rfl rfl B;have C:(aS++[aq.K (cr W h bO j ag)]).set (c aS) .M=aS++[.M]:=D;rw[C]at y p;refine⟨_,y.drop (bq:=[.M]) I,⟨a,z,λq d s=>w q (d L (b_ A)) s,x,λq d=>?_⟩,Q,λ{e k} K J=>(K.trans (p.tooV i)).drop (bq:=[.M]) J⟩;rcases d with d|⟨cv,F,d⟩
 .exact .inl d
 have M:=gY F;grind
def bk.e0{P:aE}{b:Type}{C:af P}{D}{args}{k}{aS:b->m aq}{W h}{j:b->Nat}{d:b->fp}{o:b->m Y}{V:b->Nat->m N}(E:bk C D args k (λa=>cL (cZ (d a) (j a))) (λa=>aS a++[.K (cr W h (d a) (j a) (o a))]))(K:∀a,eo h (j a) (V a) (o a))(M:∀a,kh (c (aS a)) (aS a)=l)(J:∀a,c k<=c (aS a)):bk C D args k (λa=>ax (.B v h (j a) (V a))) aS:=by refine⟨E.1,λQ z y w I s u=>E.2 Q z y w I s λa t F R x e i B=>?_⟩;obtain⟨A,p,g,q,r⟩:=i.e0 (K a) (M a);have O:F=cZ (d a) (j a):=Rd.bc e;exact .aP g (u a t F A (x.mono g.mem) (by rw[O];exact q) p (r B (J a)))
section
variable {q:af P}
def iE.cH{y}{bh}{res}{bq:ι->m aq}(p:iE q y bh k res λa=>aS a++bq a)(g:∀a,c (aS a)=c k)(I:∀a (j:Nat)(w:aq),(aS a)[j]?=f w->Aj (c (aS a)) k j w):iE q y bh k res aS:=by
 intro K z j D e h;obtain⟨fn,tmps,B,x,r,s,E⟩:=p K z j D e h;refine⟨fn,tmps,B,x,r,s,λA C o t=>E A C o λa i b u=>?_⟩;have J:e2 i (i.cut (c (aS a))):=⟨rfl,λ_ _ _ p=>p,λ_ _ _=>rfl,b.mem,λx d=>d.imp id λ⟨L,F,d⟩=>⟨L,gY F,d⟩⟩
 exact .aP J (t a _ (e.gV (g a).symm (I a) b) (u.drop (Nat.le_of_eq (g a).symm)))
end
section
variable {q:af P}
def g.e3(o d){ah}{gN}(h:look I o=aI d 0)(a:c_ d k=f (.cells W ah))(e:h3 ah=f gN)(b:g q E bd (.aj all bq::au) .normal ((o,ax (.R gN))::I) (da.cu d .M k)):g q E bd (.aj all bq::au) .normal I k:=by grind[mO,g.g_,b0.freeze]
def iB.cons{a}{o}{b}(j:look I o=b)(g:iB I a):iB I ((o,b)::a):=by
 intro i k m h d;simp only[look];cases e:ad o h with
 |false=>exact g _ _ _ _ d
 |true=>
  exact tZ
end
section
variable {q:af P}
def Su{i:aG}{h}{x}{bq}{T}(F:i.kind≠.early)(w:aQ[e]?=f r)(K:aP r (yielded aQ x.tmps)=l)(p:bc k b)(U:∀d,bc k d->(ab x.eval r).run P d.a=.ok (.enter T z.toArray) d.a/\du d ((ab x.eval r).events P d.a #[]))(aM:bk q T cQ dh res aS)(ar:b4 k b z (gn aV cQ))(al:ha (c aV) cQ=l)(A:dx aV k=f dh)(J:ew dh=l)(Y:∀g,ew (aS g)=l)(u:fb aV=l)(t:∀g,c aV<=c (aS g))(D:∀g y aA,bx (da aV (aS g) k) aA y (fc (aV++gV (c k) (c (aS g)-c aV)) (res g))->bc (da aV (aS g) k) aA->df k b (da aV (aS g) k) aA->cf q br (G (i.ab (x.put r.dst y) (.inRegion aQ bq::h)) ah) aA):
  cf q br (G (i.ab x (.inRegion aQ (e::bq)::h)) ah) b:=by obtain⟨_,aw⟩:=aM;refine .next a λd an=>?_;have C:=q.bH an;have j:=p.rely C;obtain⟨m,Q⟩:=vW (kL:=d.t) A j.len;obtain⟨H,o⟩:=j.sub A Q J u;have aq:b4 k d z (gn aV cQ):=ar.mono C.aU.ext p.len;have X:b4 dh {d with t:=m,own:=ox d m} z cQ:=(aq.sub (b:=d) A Q al).mono (k:=dh) (b:={d with t:=m}) (ap:=dh) (aA:={d with t:=m,own:=ox d m}) ⟨λ_ _ _ D=>D,λaz V L aJ E=>⟨V,L,aJ,E,.refl _ _⟩⟩ H.len;refine⟨_,d,_,tw w K F (U d j).1,⟨⟨k,k,j,j,.refl _ _⟩,du.seen (U d j).2⟩,.aP o (aw _ z X H br _ λg ao y au I W M ag=>?_)⟩;refine uG (ah:=ah) (s:=i.ab x (.inRegion aQ (e::bq)::h)) M I λav S=>?_;have N:=M.rely S;have R:=ag.trans S.aU;obtain⟨O,ae,Z,aj,aa,af,ai,ax⟩:=frame j A Q u (Y g) N R (t g) (W.mono S.aU.ext M.len);refine .aP (e2.cO j N R ae af ai ax) ?_;have B:=qk (i:=i) (x:=x) (h:=h) aQ e bq y;rw[w]at B;simp[nX]at B;rw[B];exact D g y O Z aj (C.aU.trans aa)
def ed.cell(aY:b2 P ac){d o C}{W}{aa}{e}(r:c_ d k=f (.K (ed C W aa)))(g:bZ ac o=f e)(O:dQ aa=l)(u:hh e [.c (.val aa)]=f (.Q (.c (.val aa)))){b}(bP:bc k b):
  (loadVar o ⟨C,0,n⟩).run P b.a=.ok aa b.a/\du b ((loadVar o ⟨C,0,n⟩).events P b.a #[]):=by
 have aJ:=et r;have A:d<c b.t:=hY;have p:=bH A;generalize b.t[d]=L at p;obtain⟨y,⟨E,q,Q⟩,I,J,R⟩:=bP.box d _ L aJ p;have t:=I C _ q;have N:=(J C).2 M
 have F:bM k b [aa] [.c (.val aa)]:=⟨Rd.val O,B⟩;obtain⟨w,D,x⟩:=ts (b:=b) (k:=k) (P:=P) (aY o e g) (i:=C) (off:=0) (z:=[aa]) (ah:=[.c (.val aa)]) (aw:=.Q (.c (.val aa))) (λs S h=>by
  simp[aH,t]
  grind) F u
 have K:w=aa:=Rd.bc x;subst K;refine⟨D,λm a=>?_⟩;obtain⟨s,h,rfl⟩:=o8 (aY o e g) (j:=1) (λs h=>⟨w,by simp[aH,t];grind⟩) (by have:=r4 u;grind) m a;exact qh (b_ p) N
def aZ.eE(aY:b2 P ac){o C}(d){F}{e}(K:oJ all I r=l)(s:r.op=.load o F)(N:bD I F=ax (.val (.pointer (f ⟨C,0,n⟩))))(p:c_ d k=f (.K (ed C W aa)))(m:bZ ac o=f e)(z:dQ aa=l)(M:hh e [.c (.val aa)]=f (.Q (.c (.val aa)))):
  aZ q E all r I k (ax (.val aa)) k:=by
 intro U A w j Q S B O T u i t h;refine rk i t (jW K _ _ _ w) λy x=>?_;have b:=j.rely x;have g:=eF w F;rw[N]at g;have g:=Rd.bc (b7 g);obtain⟨D,J⟩:=ed.cell aY p m z M b;have R:ab A.eval r=(do pure (.value (<-loadVar o ⟨C,0,n⟩))):=by simp[ab,s,g,Instr.loadAt,Instr.sureAddr]
 refine⟨.value aa,y,aa,by simp_all,.inl a,⟨⟨k,k,b,b,.refl _ _⟩,?_⟩,h aa y (Rd.val z) b x.aU⟩;simp_all
def NB(o)(a)(b):Builtin.ssaWrapNilChk_ #[o] o #[.pointer (f a),strVal "",strVal b]=pure (.pointer (f a)):=rfl
def nQ(P:aE)(g:m aq)(b:al)(e:Y)(name:String)(h:a0)(i:Y):Prop:=∀a,bc g a->∀d,(Go.method (d+1) b e name).run P a.a=.ok (h,i) a.a/\du a ((Go.method (d+1) b e name).events P a.a #[])
def nQ.ptr{g}{name}{j}{e}{A}{q}(m:P.info? g=f e)(i:e.methods.find? (·.name==name)=f A)(o:A.path=#[])(p:A.func=f (j,l))(r:P.underlying g=f (.pointer q)):nQ P k g aa name j aa:=by
 intro t s u;have h:∀d,(typeInfo g).run P d=.ok e d:=λd=>by simp[typeInfo,m]
 have b:∀d,(underlying g).run P d=.ok (.pointer q) d:=λd=>by simp[underlying,r]
 unfold Go.method;constructor
 .simp only[cJ,h,i,o,p,c8,follow,dY,receiverAt,b];rfl
 have:∀a,((do pure (j,<-receiverAt g (.val aa) l (if A.path.isEmpty then f ((name.splitOn ".").getLastD name)else n))):Sem (a0×Y)).events P t.a a=a:=λa=>by simp[receiverAt,b,Place.get]
 simp[aD,cJ,h,i,o,p,c8,aF,follow,dY,Sem.events_pure,receiverAt,b,events_typeInfo,events_underlying,Place.get];exact .nil
def nQ.deref(aY:b2 P ac){C}{g}{name}{u}{e}{A}{w:cp}(q:P.info? g=f e)(j:e.methods.find? (·.name==name)=f A)(s:A.path=#[])(t:A.func=f (u,v))(D:P.underlying g=f (.pointer o))(r:c_ d k=f (.K (ed C W aa)))(y:bZ ac o=f w)(E:dQ aa=l)(B:hh w [.c (.val aa)]=f (.Q (.c (.val aa)))):nQ P k g (.pointer (f ⟨C,0,n⟩)) name u aa:=by
 intro J p F;have h:∀b,(typeInfo g).run P b=.ok e b:=λb=>by simp[typeInfo,q]
 have i:∀b,(underlying g).run P b=.ok (.pointer o) b:=λb=>by simp[underlying,D]
 obtain⟨x,z⟩:=ed.cell aY r y E B p;have I:A.path.isEmpty=l:=M;unfold Go.method;constructor
 .simp only[cJ,h,j,s,t,c8,follow,dY,receiverAt,i,Place.get];simp[NB,asAddr,x]
 intro m a;refine z m ?_;simp[aD,cJ,h,j,s,t,c8,aF,follow,dY,Sem.events_pure,receiverAt,i,events_typeInfo,events_underlying,Place.get]at a;simpa[NB,asAddr,x]using a
def CC{a:ae->Y}{F}{b}{name}(e:r.op=.call {callee:=.invoke F name,args:=b,argTypes:=dr}){i}{d}(k:a F=.iface i d):
  ab a r=callMethod (.iface i d) name (b.toList.map a).toArray:=by
 have g:#[a F]++b.map a=(.iface i d::b.toList.map a).toArray:=M;have h:(Value.iface i d::b.toList.map a).toArray.extract 1 (Value.iface i d::b.toList.map a).toArray.size=(b.toList.map a).toArray:=M;have j:ab a r=invoke (.fn (.method name) #[]) (#[a F]++b.map a):=by simp[ab,e];rfl
 rw[j,g];show callMethod (.iface i d) name ((Value.iface i d::b.toList.map a).toArray.extract 1 (Value.iface i d::b.toList.map a).toArray.size)=_;rw[h]
def g.dq{ao:al}{name}{av}{aA x}(aC:bk q av cQ dh res aS)(aV)(V:nQ P k ao aA name av x)(aD:oJ all I r=l){F}{N:Array ae}(w:r.op=.call {callee:=.invoke F name,args:=N,argTypes:=dr})(aa:bD I F=ax (.cf ao (.val aA)))(Y:dQ x=l)(aP:k5 (ax (.val x)::N.toList.map (bD I))=gn aV cQ)(L:ha (c aV) cQ=l)(aG:dx aV k=f dh)(X:ew dh=l)(G:∀h,ew (aS h)=l)(W:fb aV=l)(aH:∀h,ay (c aV) (c (aS h))=l)(S:fj E r.dst=l)(aO:∀h,g q E bd (.aj all bq::au) .normal (ga r.dst (fc (aV++gV (c k) (c (aS h)-c aV)) (res h)) I) (da aV (aS h) k)):g q E bd (.aj all (r::bq)::au) .normal I k:=by
 intro b C R j aK ab s aI idx t d T;cases idx with
 |nil=>exact d.elim
 |cons a0 idx=>
 have A:=eF R F;rw[aa]at A;have A:=b7 A;generalize aq:C.eval F=aY at A;cases A with
 |@cf _ aW _ O aN=>
  have Z:=Rd.bc O;subst Z;obtain⟨fn,an,aZ,aM⟩:=aC.1;have aw:fn.name≠ "runtime.NumGoroutine":=M;have ar:fn.body≠n:=M;obtain⟨af,aj⟩:∃af,P.types.size+Made.depth=af+1:=⟨P.types.size+Made.depth-1,by exact cS⟩
  have az:∀p,(program:Sem aE).run P p=.ok P p:=λp=>by simp
  have aQ:∀p i,(program:Sem aE).events P p i=i:=λp i=>by simp
  have aL:b4 k b (x::N.toList.map C.eval) (gn aV cQ):=by rw[<-aP];exact uS (k:=k) (b:=b) ⟨Rd.val Y,m6 (eF R) N.toList⟩
  refine Su (aV:=aV) t d.1 (jW aD _ _ _ R) j (z:=x::N.toList.map C.eval) (λah aF=>?_) aC aL L aG X G W (λh=>fs (aH h)) λh aY ag m u o=>?_
  .obtain⟨ac,a⟩:=V ah aF af;constructor
   .rw[CC w aq];simp[callMethod,az,aj,ac,callFunc,an,aw,ar]
   intro J e;refine a J ?_;rw[CC w aq]at e;simpa[callMethod,az,aQ,aj,ac,callFunc,an,aw,ar]using e
  refine aO h ag _ ?_ u aK ab s aI idx t d.2 λH B ai D aR K Q y=>T H B ai D aR K Q (o.trans y);cases aJ:r.dst with
  |none=>exact R.mono o j.len
  |some aT=>exact(R.mono o j.len).put (k9 S aT aJ) m
def a1.dT{F}(g:r.op=.nilCheck F){h}(i:η F=ax (.val (.pointer (f h)))):a1 P r η k (ax (.val (.pointer (f h)))) k:=by refine .aR λm d j b=>?_;have a:=b F;rw[i]at a;have e:=Rd.bc (b7 a);exact⟨d F,by simp[ab,g,e],a,by simp[ab,g,e]⟩
def a1.e8(aY:b2 P ac){F}(ae:r.op=.load o F){cap aj h}{ag}{x:cp}{aw}(a:η F=ax (.val (.pointer (f ⟨i,off,n⟩))))(av:off=e*h+aj)(z:k[d]?=f (.K (cr W h (.row i cap) j ag)))(T:eo h j V ag)(w:bZ ac o=f x)(E:hh x ((f_ aj (V e)).map R.c)=f aw)(S:e<j):a1 P r η k (.n aw) k:=by
 refine .dt λb D bP B=>?_;have N:=B F;rw[a]at N;have N:=Rd.bc (b7 N);have ah:d<c b.t:=hY;have y:=bH ah;generalize b.t[d]=L at y;obtain⟨Z,X,aa,Q,aA⟩:=bP.box d _ L z y;obtain⟨ar,az,ao,au⟩:=cr.lookup X;have H:i∈L.ak:=(Q i).2 M;have ai:=aa i _ ao;let C:Nat->Y:=λg=>ag.getD (e*h+g) J;have aM:∀g q,(f_ aj (V e))[g]?=f q->ag[e*h+(aj+g)]?=f (C (aj+g))/\Rd b.D (C (aj+g)) q:=by intro g q m;rw[ry,pX]at m;obtain⟨s,al,an⟩:=T.b2 e S (aj+g) q m;grind
 have U:=DZ (k:=k) (b:=b) (C:=C) (bh:=f_ aj (V e)) (A:=aj) (λg q m=>(aM g q m).2);have I:∀g s,((aB (c (f_ aj (V e)))).map λg=>C (aj+g))[g]?=f s->b.a.cell? ⟨i,off+g,n⟩=f s:=by
  intro g s m;simp[m']at m;by_cases K:g<c (f_ aj (V e))
  .simp[K]at m;subst m;have af:=(aM g _ (bH K)).1;simp[aH,ai];grind
  grind
 obtain⟨s,O,G⟩:=ts (b:=b) (k:=k) (P:=P) (aY o x w) (i:=i) (off:=off) (aw:=aw) I U E;have t:ab D r=(do pure (.value (<-loadVar o ⟨i,off,n⟩))):=by simp[ab,ae,N,Instr.loadAt,Instr.sureAddr]
 refine⟨s,by rw[t];simp[O],G,λu p=>?_⟩;rw[t]at p;have aq:u∈(loadVar o ⟨i,off,n⟩).events P b.a #[]:=by simpa[O]using p
 obtain⟨g,m,rfl⟩:=o8 (aY o x w) (j:=c (f_ aj (V e))) (λg m=>⟨_,I g (C (aj+g)) M⟩) (by have:=r4 E;grind) u aq;exact qh (b_ y) H
def a1.jT(aY:b2 P ac){y s:ae}(C:r.op=.slice o y n (f s) n){e}(F:bZ ac o=f e)(K:e.desc=.slice W)(M:bZ ac W=f a4){cap}{kd}{A}(R:η y=ax (.val (.slice (f ⟨i,0,n⟩) j cap)))(N:η s=ax (.int kd A))(B:j<=cap)(O:0<=A)(w:A<=j):a1 P r η k (ax (.val (.slice (f ⟨i,0,n⟩) A.toNat cap))) k:=by
 refine .aR λb t E d=>?_;have h:=d y;rw[R]at h;have h:=Rd.bc (b7 h);have m:kC η n=f n:=rfl;have D:kC η (f s)=f (f A):=by simp[kC,N]
 have q:U (jh j n (f A)):=⟨O,w⟩;obtain⟨x,Q,S⟩:=vT (P:=P) (ki:=l) B (j9 d m) (j9 d D) q b.a;have u:=(aY o e F).run_underlying (p:=b.a);rw[K]at u;have z:(aT l j cap n (f (t s)) n).run P b.a=.ok (0,A.toNat,cap) b.a:=x;have J:=u5 (P:=P) (ki:=l) B (j9 d m) (j9 d D) q b.a;have I:∀g,(aT l j cap n (f (t s)) n).events P b.a g=g:=J;refine⟨_,?_,Rd.val a,?_⟩
 .simp[ab,C,h,Instr.sliceAt,u,Instr.slice,z,(aY W a4 M).ba,g0]
 simp[ab,C,h,Instr.sliceAt,u,Instr.slice,z,I]
def LU{b}:∀{z:m Y}{d:m N},c z=c d->∀g:Nat->Y,(∀a,a<c z->z[a]?=f (g a))->(∀a(e:N),d[a]?=f e->Rd b.D (g a) e)->bM k b z (d.map R.c)
 |[],[],_,_,_,_=>trivial
 |[],_::_,h,_,_,_=>by grind
 |_::_,[],h,_,_,_=>by grind
 |q::z,e::d,h,g,j,i=>⟨by have:=j 0 D;cases this;exact i 0 e rfl,LU M (λa=>g (a+1)) (λa o=>by grind) λa p o=>i (a+1) p M⟩
def a1.f'(aY:b2 P ac){F}{m:al}(t:r.op=.typeAssert F m o v){e}(h:bZ ac o=f e)(u:vo e.desc=v){ah}(I:η F=ax (.cE o ah)):a1 P r η k (.n (.agg (ah.map R.c))) k:=by
 refine .aR λd q D j=>?_;have b:=j F;rw[I]at b;replace b:=b7 b;generalize s:q F=K at b;have x:=(aY o e h).run_underlying (p:=d.a);have M:∀w,e.desc≠.interface w:=by intro w A;rw[A]at u;cases u
 cases b with
 |@cE J z ah i B E C=>
  have g:(Instr.typeAssert (.iface o (.agg z.toArray)) m o v).run P d.a=.ok (.agg z.toArray) d.a/\(Instr.typeAssert (.iface o (.agg z.toArray)) m o v).events P d.a #[]=#[]:=by
   constructor
   .unfold Instr.typeAssert;simp only[cJ,x,c8];cases y:e.desc<;>first|simp|simp
   unfold Instr.typeAssert;simp only[x,aD,aF,events_underlying];cases y:e.desc<;>first|simp|simp
  exact⟨.agg z.toArray,by simp[ab,t,s,cJ,g.1,c8,dY],⟨z,a,LU i B E C⟩,by simp[ab,t,s,aD,g.1,g.2,aF,Sem.events_pure]⟩
def g.h0(aY:b2 P ac)(d){o C}{Q S:ae}{b}{e}(ao:r.op=.store o Q S)(u:bZ ac o=f e)(Y:e.size=1)(ai:bD I Q=ax (.val (.pointer (f ⟨C,0,n⟩))))(ah:bD I S=ax (.val b))(U:b.cells=#[b])(aE:dQ b=l)(m:c_ d k=f (.K (ed C W aa)))(ag:r.guard=n)(aj:fj E r.dst=l)(F:g q E bd (.aj all bq::au) .normal (ga r.dst .any I) (k.set d (.K (ed C W b)))):g q E bd (.aj all (r::bq)::au) .normal I k:=by
 refine g.cD (ι:=Unit) (λ_=>.any) (λ_=>k.set d (.K (ed C W b))) ag aj (λi al T bP=>?_) λ_=>F;have w:=eF T Q;rw[ai]at w;have w:=Rd.bc (b7 w);have x:=eF T S;rw[ah]at x;have x:=Rd.bc (b7 x);have m:=et m;have Z:d<c i.t:=hY;have N:=bH Z;generalize i.t[d]=L at N;obtain⟨an,⟨z,A,aq⟩,aw,G,af⟩:=bP.box d _ L m N;have X:C∈L.ak:=(G C).2 M;have y:=aw C _ A;have R:∀O∈[b],O.oneCell'=l:=λO av=>by have:dQ O=l:=M;exact this
 have H:=run_storeCells_at P C 0 W [b] 0 #[aa] i.a y D R;have aA:∀h,h≠C->(i.a.setRow C #[b]).heap[h]?=i.a.heap[h]?:=λh p=>setRow_other i.a C h _ p;have aM:=setRow_heap i.a C #[aa] #[b] W (0,0) y;obtain⟨K,t2⟩:=bP.ca (d:=d) (jZ:=ed C W b) (cv:=L) (bi:=i.a.setRow C #[b]) m N rfl D
  (λh p ar=>aA h M) (λh p=>.inl p)
  ⟨λh=>if h=C then f (.cells #[b] W (0,0))else n,⟨z,by simp,λh p=>by grind⟩,λh r p=>by grind,λh=>by grind⟩ a a a
 have s:ab al.eval r=(do storeVar o ⟨C,0,n⟩ b;pure .skip):=by simp[ab,ao,w,x,Instr.storeAt,Instr.sureAddr]
 have V:(storeCells ⟨C,0,n⟩ [b] 0).run P i.a=.ok () (i.a.setRow C #[b]):=H;refine⟨(),.skip,_,J,?_,.inr ⟨a,a⟩,B,K,t2,?_⟩
 .rw[s];simp[storeVar,(aY o e u).ba,U,Y,V]
 intro t j;rw[s]at j;have az:t∈(storeCells ⟨C,0,n⟩ [b] 0).events P i.a #[]:=by simp[storeVar,aD,(aY o e u).ba,Y,U,aF,events_sizeOf,dZ,hv,dm,cJ,c8,Sem.events_pure]at j;simpa[V]using j
 rcases nj [b] 0 #[aa] i.a #[] y D R t az with aC|⟨aG,_,_,rfl⟩
 .grind
 exact oa (b_ N) X (af C X _)
def g.jF(o d)(C A:Nat){R:Nat}(M:look I o=aI d 0)(j:c_ d k=f (.cells W [.c (.B l R 0 V)]))(B:∀h b,g q E bd (.code s::au) .normal ((o,cL (.pointer (f ⟨h,0,n⟩)))::I) (k.set d (.K (ed h W (cZ (.nil b) 0)))++[.K (cr C A (.nil b) 0 [])])):g q E bd (.code s::au) .normal I k:=by
 refine b3.e2 (ι:=Nat×Option Addr) (dD:=λp=>(o,cL (.pointer (f ⟨p.1,0,n⟩)))::I) (ap:=λp=>k.set d (.K (ed p.1 W (cZ (.nil p.2) 0)))++[aq.K (cr C A (.nil p.2) 0 [])]) (λr ai x bP=>?_) λp=>B p.1 p.2;have j:=et j;have T:d<c r.t:=hY;have w:=bH T;generalize r.t[d]=L at w;obtain⟨h,z,rfl,af,ab,aM⟩:=bP.box d _ L j w
 match z,ab with
 |[Z],⟨O,_⟩=>
  obtain⟨b,u,ae,rfl,_,_,Y,_,_⟩:=(show Rd r.D Z (.B l R 0 V)from O).bZ;have Q:u=0:=Y a;subst Q;obtain⟨N,F⟩:=bP.b7 (cj:=r.D) (bi:=r.a) (eb:=.K (ed h W (cZ (.nil b) 0))) (cv:=⟨.pointer (f ⟨h,0,n⟩),[h]⟩) j w rfl (bC _) (λ_ _ _=>rfl) (λ_ _ _ _=>rfl) (λ_ _ _ S=>S) bP.mem (λm e=>⟨.inl e,bP.lt _ (b_ w) m e⟩) rfl rfl rfl
   ⟨λm=>if m=h then f (.cells #[.slice b 0 0] W (0,0))else n,⟨rfl,by simp[cZ],λm e=>by grind⟩,λm X e=>by grind,λm=>by by_cases y:m=h<;>simp[y],λm e X=>by grind⟩
  obtain⟨H,G⟩:=N.bY (bS:=.K (cr C A (.nil b) 0 [])) (L:=⟨.nilFunc,[]⟩) (.refl _ _) rfl N ⟨λ_=>n,⟨rfl,by simp,by simp,rfl,rfl⟩,by simp,by simp,by simp⟩ D;have t:=F.trans G;refine⟨(h,b),{r with t:=r.t.set d ⟨.pointer (f ⟨h,0,n⟩),[h]⟩++[⟨.nilFunc,[]⟩]},rfl,⟨x.size,x.defers.imp λ_ i=>i.mono t.ext,λK=>?_⟩,H,t⟩;simp only[look];cases e:ad o K with
  |false=>exact(x.aL K).mono t.ext bP.len
  |true=>
   have y:=dn e;subst y;have i:=x.aL o;rw[M]at i;obtain⟨_,ah,ag,J,aa,U⟩:=(i:cA k r _ (.ptr d 0));rw[w]at J;cases J;cases aa;rw[U];exact Rd.val a
theorem aZ.ev{ι:Type}{F}{ap}(p:r.guard=n)(t:eg P E r I k (λ_:ι=>F) λ_=>ap):aZ q E all r I k F ap:=λw m s g o i b j u a e h d=>dX.ev p t w m s g o i b j u a e h λ_=>d
section
variable {F:Nat->y}{b5:Bool->Bool->m aq}{f1 f2:Nat}
abbrev ob(d:Bool->Bool->m aq)(a b:Nat):(Nat->Bool)->m aq:=λy=>d (y a) (y b)
def cc.gz(c5:ad f1 e=v)(dE:ad f2 e=v)(h:∀a b,aZ q E all r (ej all I F e) (b5 a b) (F e) (b5 a b)):cc q E all I F (ob b5 f1 f2) e r:=by intro y _ _;have d:dR e y f1=y f1:=EY;have g:dR e y f2=y f2:=EX;grind
def cc.ds(aY:b2 P ac)(lP:a_ q CT)(t:∀x i,iy ac CT [] all (ej all I F e) (b5 x i) r=f (F e,n,cn):=by intro x i;cases x<;>cases i<;>rfl)(c5:ad f1 e=v:=by rfl)(dE:ad f2 e=v:=by rfl)(cl:U cn:=by simp only[U,a9];omega):cc q E all I F (ob b5 f1 f2) e r:=.gz c5 dE λx i=>aZ.eval aY lP (t x i) cl
def cc.bE(aY:b2 P ac:=by exact bb)(lP:a_ q CT:=by first|assumption|exact a_.nil)(t:∀x i,iy ac CT [] all (ej all I F e) (b5 x i) r=f (F e,n,[]):=by intro x i;cases x<;>cases i<;>rfl)(c5:ad f1 e=v:=by rfl)(dE:ad f2 e=v:=by rfl):cc q E all I F (ob b5 f1 f2) e r:=.ds (cn:=[]) aY lP t c5 dE B
def cc.g9(c5:ad f1 e=v)(dE:ad f2 e=v)(h:hp all f1 e=l)(g:hp all f2 e=l)(i:aZ q E all r (ej all I F e) (b5 v v) (F e) (b5 v v)):cc q E all I F (ob b5 f1 f2) e r:=by intro y _ d;have a:dR e y f1=y f1:=EY;have b:dR e y f2=y f2:=EX;grind
def cc.fK(dE:ad f2 f1=v)(d:hp all f2 f1=l)(g:aZ q E all r (ej all I F f1) (b5 v v) (F f1) (b5 l v)):cc q E all I F (ob b5 f1 f2) f1 r:=by intro y _ e;have a:dR f1 y f1=l:=z6;have b:dR f1 y f2=y f2:=EX;grind
def cc.fL(c5:ad f1 f2=v)(e:hp all f2 f1=l)(g:aZ q E all r (ej all I F f2) (b5 l v) (F f2) (b5 l l)):cc q E all I F (ob b5 f1 f2) f2 r:=by intro y aY d;have a:dR f2 y f1=y f1:=EY;have b:dR f2 y f2=l:=z6;grind
end
end
inductive dF where
 |nil
 |ay (d:dF) (x i:Int) (a':dF)
def eA(j:al):dF->Y->(Nat->Option Obj)->Prop
 |.nil,k,a=>k=.pointer n/\∀i,a i=n
 |.ay q m i r,k,a=>∃h p o e b,k=.pointer (f ⟨h,0,n⟩)/\(a7 .i64 m/\a7 .i64 i)/\eA j q p e/\eA j r o b/\a h=f (.cells #[.int .i64 m,.int .i64 i,p,o] j (0,0))/\e h=n/\b h=n /\
   (∀d g,e d=f g->b d=n/\a d=f g)/\(∀d g,b d=f g->a d=f g)/\∀d g,a d=f g->d=h∨e d=f g∨b d=f g
def eA.cell{o}(a:eA W o aa k6):dQ aa=l:=by
 cases o with
 |nil=>rw[a.1];rfl
 |ay=>obtain⟨_,_,_,_,_,rfl,_⟩:=a;rfl
section
def bc.hJ{ac:Nat->Prop}(o:bc k b)(C:aA.a=b.a)(M:aA.D=b.D)(F:aA.own=b.own)(S:c aA.t=c ap)(X:c k<=c ap)(z:∀a,a<c k->¬ac a->ap[a]?=k[a]?/\aA.t[a]?=b.t[a]?)(T:∀a d,(ac a∨c k<=a)->aA.t[a]?=f d->∀e∈d.ak,∃x L,ac x/\b.t[x]?=f L/\e∈L.ak)(J:∀a h L d,(ac a∨c k<=a)->(ac h∨c k<=h)->aA.t[a]?=f L->aA.t[h]?=f d->∀e∈L.ak,e∈d.ak->a=h)(box:∀a r L,ac a->k[a]?=f r->b.t[a]?=f L->∃t d,ap[a]?=f t/\aA.t[a]?=f d/\fM r L t d)(ok:fq k b ap aA->∀a r L,(ac a∨c k<=a)->ap[a]?=f r->aA.t[a]?=f L->ey ap aA r L):bc ap aA/\cN k b ap aA:=by
 have K:=o.len;have Q:∀(a:Nat) r (L:Loc),k[a]?=f r->b.t[a]?=f L->∃t d,ap[a]?=f t/\aA.t[a]?=f d/\fM r L t d:=λa r L aJ i=>by
  by_cases y:ac a
  .grind
  obtain⟨j,p⟩:=z a (cO.1 aJ).1 y;exact⟨r,L,j.trans aJ,p.trans i,.refl _ _⟩
 have D:fq k b ap aA:=⟨λe N R y=>M▸y,Q⟩
 have u:∀(a:Nat) (d:Loc),aA.t[a]?=f d->(ac a∨c k<=a)∨(a<c k/\¬ac a/\b.t[a]?=f d):=λa d y=>by grind
 have I:∀(a:Nat) (d:Loc),aA.t[a]?=f d->∀e∈d.ak,∃(x:Nat) (L:Loc),b.t[x]?=f L/\e∈L.ak:=λa d y e g=>by grind
 have Y:∀(a h:Nat) (L d:Loc),(ac a∨c k<=a)->¬ac h->aA.t[a]?=f L->b.t[h]?=f d->∀e∈L.ak,e∈d.ak->False:=λa h L d j p i m e g w=>by obtain⟨x,A,B,q,O⟩:=T a L j i e g;exact p (o.a1 x h A d q m e O w▸B)
 refine⟨⟨λe N R y=>?_,S,λa r L aJ i=>?_,λa h L d i m e g w=>?_,λL i e g=>?_,λe g=>?_⟩,⟨?_,?_,D.mem,?_,λd m e g=>?_,Q,?_,?_,?_,F⟩⟩
 .rw[M]at y;rw[C];exact o.mem e N R y
 .rcases u a L i with j|⟨j,p,W⟩
  .grind
  rw[(z a j p).1]at aJ;exact(o.box a r L aJ W).b_ D K λe _=>⟨by rw[C],λN=>by rw[M]⟩
 .rcases u a L i with j|⟨_,j,p⟩<;>rcases u h d m with V|⟨_,V,U⟩
  .grind
  .grind
  .grind
  exact o.a1 a h L d p U e g w
 .obtain⟨a,s,rfl⟩:=g4 i;obtain⟨x,A,B,q⟩:=I a _ (bH s) e g;rw[C];exact o.lt A (b_ B) e q
 .rw[F]at g;refine⟨C▸(o.own e g).1,λL i E=>?_⟩;obtain⟨a,s,rfl⟩:=g4 i;obtain⟨x,A,B,q⟩:=I a _ (bH s) e E;exact(o.own e g).2 A (b_ B) q
 .grind
 .grind
 .grind
 .obtain⟨a,s,rfl⟩:=g4 m;obtain⟨x,A,B,q⟩:=I a _ (bH s) e g;grind
 all_goals rw[C]
def bc.j1(s:bc k b){A h}{L e}{bA}{p}(aJ:k[d]?=f A)(ae:b.t[d]?=f L)(aa:fM A L h e)(Y:c p=bA.length)(sub:∀w∈e::p,∀x∈w.ak,x∈L.ak)(U:(e::p).Pairwise λw F=>∀x∈w.ak,x∉F.ak)(ok:∀m:a6,m.a=b.a->m.D=b.D->m.t=b.t.set d e++p->ey (k.set d h++bA) m h e/\∀(E:Nat) u B,bA[E]?=f u->p[E]?=f B->ey (k.set d h++bA) m u B):
  bc (k.set d h++bA) {b with t:=b.t.set d e++p}/\cN k b (k.set d h++bA) {b with t:=b.t.set d e++p}:=by
 have T:=s.len;have X:d<c k:=(cO.1 aJ).1;have Z:=iG.1 U;have q:∀g o,(g=d∨c k<=g)->(b.t.set d e++p)[g]?=f o->(g=d/\o=e)∨(c k<=g/\p[g-c k]?=f o):=λg o i j=>by grind
 refine bc.hJ (ac:=λg=>g=d) s a a a M D (λg i C=>M) (λg o i j W S=>M) (λg z o V i t j r W S ab=>?_) (λg u o i y j=>?_) (λQ g u o i y j=>?_)
 .rcases q g o i j with⟨c5,rfl⟩|⟨c5,dE⟩<;>rcases q z V t r with⟨R,rfl⟩|⟨R,O⟩
  .omega
  .grind
  .grind
  obtain⟨I,J⟩:=cO.1 dE;obtain⟨K,N⟩:=cO.1 O;exact Fq
 .grind
 grind
def iu:dF->Nat->R
 |.nil,_=>.c .bo
 |.ay ..,a=>.aM a
def hq(a:al):dF->m aq
 |.nil=>[]
 |.ay e b d g=>[.K (eA a (.ay e b d g))]
def mo(a:m Nat):dF->Y->(Nat->Option Obj)->m Loc
 |.nil,_,_=>[]
 |.ay ..,d,b=>[⟨d,a.filter λe=>(b e).isSome⟩]
def jj:dF->Nat->m aq->m aq
 |.nil,_,a=>a
 |.ay ..,b,a=>a.set b .M
def bc.gw(bP:bc k b){lt cy}{q r:Int}(aJ:k[d]?=f (.K (eA W (.ay lt q r cy)))):
  ∃g,g.a=b.a/\(∃j L,b.t[d]?=f L/\L.v=.pointer (f ⟨j,0,n⟩)/\g.t[d]?=f ⟨L.v,[j]⟩)/\bc (k.set d (.cells W [.c (.int .i64 q),.c (.int .i64 r),iu lt (c k),iu cy (c k+c (hq W lt))])++(hq W lt++hq W cy)) g /\
   cN k b (k.set d (.cells W [.c (.int .i64 q),.c (.int .i64 r),iu lt (c k),iu cy (c k+c (hq W lt))])++(hq W lt++hq W cy)) g:=by
 have ar:d<c k:=(cO.1 aJ).1;have Y:d<c b.t:=hY;have F:=bH Y;generalize b.t[d]=L at F;obtain⟨J,⟨j,E,D,i,z,A,⟨Z,y⟩,t,u,aj,af,aM,V,ag,ah⟩,aa,K,ae⟩:=bP.box d _ L aJ F;have aq:=bP.len;have R:j∈L.ak:=(K j).2 M;refine⟨{b with t:=b.t.set d ⟨.pointer (f ⟨j,0,n⟩),[j]⟩++(mo L.ak lt E i++mo L.ak cy D z)},rfl,⟨j,L,F,A,M⟩,bP.j1 aJ F (show _=_ from A.symm) ?_ ?_ ?_ λg X e o=>?_⟩
 .cases lt<;>cases cy<;>rfl
 .intro bB e h C;rcases e9.1 e with rfl|e
  .grind
  rcases fx.1 e with e|e
  .cases lt with
   |nil=>cases e
   |ay=>rw[mo,gJ]at e;grind
  cases cy with
  |nil=>cases e
  |ay=>rw[mo,gJ]at e;grind
 .refine iG.2 ⟨λbB e h C au=>?_,?_⟩
  .rw[gJ]at C;subst C;rcases fx.1 e with e|e
   .cases lt with
    |nil=>cases e
    |ay=>rw[mo,gJ]at e;grind
   cases cy with
   |nil=>cases e
   |ay=>rw[mo,gJ]at e;grind
  cases lt<;>cases cy<;>simp[mo,p1,h1,uw,iG,List.Pairwise.nil,gJ,forall_eq,sn,false_implies,implies_true,a9]
  exact E3
 have H:∀h p,i h=f p->J h=f p:=λh p m=>(V h p m).2;have ab:ey (k.set d (.cells W [.c (.int .i64 q),.c (.int .i64 r),iu lt (c k),iu cy (c k+c (hq W lt))])++(hq W lt++hq W cy)) g (.K (eA W lt)) ⟨E,L.ak.filter λh=>(i h).isSome⟩:=
  ⟨i,t,λh p m=>by grind,λh=>⟨λm=>(jd.1 m).2,λm=>jd.2 ⟨(K h).2 E3,m⟩⟩,λh C p=>by rw[e];grind⟩
 have ai:ey (k.set d (.cells W [.c (.int .i64 q),.c (.int .i64 r),iu lt (c k),iu cy (c k+c (hq W lt))])++(hq W lt++hq W cy)) g (.K (eA W cy)) ⟨D,L.ak.filter λh=>(z h).isSome⟩:=
  ⟨z,u,λh p m=>by grind,λh=>⟨λm=>(jd.1 m).2,λm=>jd.2 ⟨(K h).2 E3,m⟩⟩,λh C p=>by rw[e];grind⟩
 have I:=t.cell;have x:=u.cell;have O:g.a.heap[j]?=f (.cells (List.toArray [.int .i64 q,.int .i64 r,E,D]) W (0,0)):=M;have Q:∀p,g.D j p=n:=λp=>by rw[e];grind
 have S:∀w,(b.t.set d ⟨.pointer (f ⟨j,0,n⟩),[j]⟩++(mo L.ak lt E i++mo L.ak cy D z))[c k+w]?=(mo L.ak lt E i++mo L.ak cy D z)[w]?:=λw=>by grind
 have s:∀w,(k.set d (.cells W [.c (.int .i64 q),.c (.int .i64 r),iu lt (c k),iu cy (c k+c (hq W lt))])++(hq W lt++hq W cy))[c k+w]?=(hq W lt++hq W cy)[w]?:=λw=>by grind
 refine⟨⟨j,_,a,O,⟨Rd.int Z,Rd.int y,?_,?_,B⟩,Q⟩,?_⟩
 .cases lt with
  |nil=>rw[t.1];exact Rd.bo
  |ay=>exact⟨λT aJ=>by have G:=(s 0).symm.trans aJ;cases G;rfl,_,by rw[o];exact S 0,rfl,I⟩
 .cases cy with
  |nil=>rw[u.1];exact Rd.bo
  |ay=>
   cases lt with
   |nil=>exact⟨λT aJ=>by rw[s]at aJ;cases aJ;rfl,_,by rw[o];exact S 0,rfl,x⟩
   |ay=>exact⟨λT aJ=>by rw[s]at aJ;cases aJ;rfl,_,by rw[o];exact S 1,rfl,x⟩
 intro ao al an U N;cases lt<;>cases cy<;>simp only[hq,mo,p1,h1,uw,List.getElem?_nil]at U N
 .cases U
 .grind
 .grind
 grind
def HM(s:bc k b){o}(j:cA k b aa (iu o e))(m:o≠.nil->k[e]?=f (.K (eA W o))):
  ∃h d,eA W o aa h/\(∀g i,h g=f i->b.a.heap[g]?=f i)/\(∀g,g∈d↔(h g).isSome=l)/\(∀g∈d,∀i,b.D g i=n)/\(match o with|.nil=>d=[]|.ay ..=>b.t[e]?=f ⟨aa,d⟩):=by
 cases o with
 |nil=>
  have j:Rd b.D aa .bo:=j;cases j;exact⟨λ_=>n,[],⟨a,λ_=>rfl⟩,by simp,by simp,by simp,a⟩
 |ay=>
  obtain⟨_,L,q,rfl,_⟩:=j;obtain⟨h,r,t,p,u⟩:=s.box e _ L (m nofun) q;exact⟨h,L.ak,r,t,p,u,q⟩
def rM:dF->Nat->Y->m Loc->m Loc
 |.nil,_,_,a=>a
 |.ay ..,b,d,a=>a.set b ⟨d,[]⟩
def bc.cU(s:bc k b){lt cy}{F i}(aJ:k[d]?=f (.cells W [.c (.int .i64 F),.c (.int .i64 i),iu lt e,iu cy u]))(I:lt≠.nil->k[e]?=f (.K (eA W lt)))(J:cy≠.nil->k[u]?=f (.K (eA W cy)))(G:lt≠.nil->cy≠.nil->e≠u):
  ∃q,q.a=b.a/\(∃L,b.t[d]?=f L/\∃U,q.t[d]?=f U/\U.v=L.v)/\bc (jj cy u (jj lt e (k.set d (.K (eA W (.ay lt F i cy)))))) q/\cN k b (jj cy u (jj lt e (k.set d (.K (eA W (.ay lt F i cy)))))) q:=by
 have aT:d<c k:=(cO.1 aJ).1;have aS:=s.len;have N:d<c b.t:=w;have ab:=bH N;generalize b.t[d]=L at ab;obtain⟨p,z,rfl,aI,t,aK⟩:=s.box d _ L aJ ab
 match z,t with
 |[aC,aA,O,Q],⟨ae,af,aM,ax,_⟩=>
 obtain⟨r,B,ah,aD,aE,aF,X⟩:=HM s aM I;obtain⟨T,C,d1,d2,d3,d4,eL⟩:=HM s ax J;have ae:Rd b.D aC (.int .i64 F):=ae;have af:Rd b.D aA (.int .i64 i):=af;cases ae with|int al=>
 cases af with|int an=>
 have aQ:p∉B:=λm=>by
  cases lt with
  |nil=>grind
  |ay=>have:=s.a1 d e _ _ ab X p D m;grind
 have aR:p∉C:=λm=>by
  cases cy with
  |nil=>grind
  |ay=>have:=s.a1 d u _ _ ab eL p D m;grind
 have aO:∀h∈B,h∉C:=λh m az=>by
  cases lt with
  |nil=>grind
  |ay=>
   cases cy with
   |nil=>grind
   |ay=>exact G nofun nofun (s.a1 e u _ _ X eL h m az)
 have y:r p=n:=by cases m:r p with|none=>rfl|some A=>grind
 have aP:T p=n:=by cases m:T p with|none=>rfl|some A=>grind
 have av:∀h A,r h=f A->T h=n:=λh A m=>by
  cases t:T h with
  |none=>rfl
  |some K=>grind
 have ok:∀V q,q.a=b.a->q.D=b.D->ey V q (.K (eA W (.ay lt F i cy))) ⟨.pointer (f ⟨p,0,n⟩),p::(B++C)⟩:=λV q aj ai=>by
  refine⟨λh=>if h=p then f (.cells #[.int .i64 F,.int .i64 i,O,Q] W (0,0))else(r h).or (T h),⟨p,O,Q,r,T,a,⟨al,an⟩,ah,d1,bo a,y,aP,λh A m=>⟨av h A m,M⟩,λh A m=>?_,λh A m=>?_⟩,λh A m=>?_,λh=>?_,λh E A=>?_⟩
  .have:h≠p:=M;dsimp only;rw[bj this,m];cases t:r h with
   |none=>rfl
   |some K=>grind
  .by_cases Z:h=p
   .grind
   dsimp only at m;rw[bj Z]at m;cases t:r h with
   |none=>grind
   |some K=>grind
  .rw[aj];by_cases Z:h=p
   .grind
   dsimp only at m;rw[bj Z]at m;cases t:r h with
   |none=>grind
   |some K=>grind
  .grind
  rw[ai];grind
 refine⟨{b with t:=rM cy u Q (rM lt e O (b.t.set d ⟨.pointer (f ⟨p,0,n⟩),p::(B++C)⟩))},rfl,?_⟩
 classical
 have aW:lt≠.nil->e<c k/\e≠d:=λm=>⟨(cO.1 (I m)).1,λZ=>by grind⟩
 have aL:cy≠.nil->u<c k/\u≠d:=λm=>⟨(cO.1 (J m)).1,λZ=>by grind⟩
 have aq:b.t[d]?=f ⟨.pointer (f ⟨p,0,n⟩),[p]⟩:=ab;let ac:Nat->Prop:=λo=>o=d∨(lt≠.nil/\o=e)∨(cy≠.nil/\o=u);have R:∀o,(jj cy u (jj lt e (k.set d (.K (eA W (.ay lt F i cy))))))[o]?=if o=d then f (.K (eA W (.ay lt F i cy)))else if(lt≠.nil/\o=e)∨(cy≠.nil/\o=u)then f .M else k[o]?:=λo=>by cases lt<;>cases cy<;>simp[jj,n1,wW]<;>grind
 have Y:∀o,(rM cy u Q (rM lt e O (b.t.set d ⟨.pointer (f ⟨p,0,n⟩),p::(B++C)⟩)))[o]?=if o=d then f ⟨.pointer (f ⟨p,0,n⟩),p::(B++C)⟩else if cy≠.nil/\o=u then f ⟨Q,[]⟩else if lt≠.nil/\o=e then f ⟨O,[]⟩else b.t[o]?:=λo=>by cases lt<;>cases cy<;>simp[rM,n1,wW]<;>grind
 have ZF:∀S e d,c (jj S e d)=c d:=λS e d=>by cases S<;>simp[jj]
 have ZG:∀S e ar d,c (rM S e ar d)=c d:=λS e ar d=>by cases S<;>simp[rM]
 have aG:∀h∈B,lt≠.nil/\b.t[e]?=f ⟨O,B⟩:=λh E=>by grind
 have aH:∀h∈C,cy≠.nil/\b.t[u]?=f ⟨Q,C⟩:=λh E=>by grind
 refine⟨⟨_,aq,_,(Y d).trans (bo a),a⟩,bc.hJ (ac:=ac) s a a a M M (λo x aY=>M) (λo ag x j h E=>?_) (λo aN ag aw x ao j aa h E aV=>?_) (λo au ag x g j=>?_) (λ_ o au ag x g j=>?_)⟩
 .rw[Y]at j;split at j
  .cases j;rcases e9.1 E with rfl|E
   .grind
   rcases fx.1 E with E|E
   .grind
   grind
  have:o<c b.t∨c b.t<=o:=dT _ _;grind
 .rw[Y]at j aa;grind
 .rw[R,Y];rcases x with rfl|⟨m,rfl⟩|⟨m,rfl⟩
  .rw[aq]at j;cases j;rw[aJ]at g;cases g;exact⟨_,_,bo a,bo a,a⟩
  .have H:b.t[o]?=f ⟨O,B⟩:=M;rw[I m]at g;rw[H]at j;cases g;cases j;grind[fM]
  have H:b.t[o]?=f ⟨Q,C⟩:=M;rw[J m]at g;rw[H]at j;cases g;cases j;grind[fM]
 rw[R]at g;rw[Y]at j;split at g
 .grind
 split at g
 .cases g;trivial
 grind
def eN:dF->N
 |.nil=>.bo
 |.ay d a b e=>.R [.int .i64 a,.int .i64 b,eN d,eN e]
def eA.rd{W}{bB}:∀{p:dF}{r:Y}{e:Nat->Option Obj},eA W p r e->(∀d z b i,e d=f (.cells z b i)->∀o q,z[o]?=f q->bB d o=f q)->Rd bB r (eN p)
 |.nil,_,_,g,_=>by rw[g.1];exact .bo
 |.ay K t u N,_,e,⟨s,F,E,x,Q,y,⟨C,B⟩,k,m,I,_,_,A,D,_⟩,j=>by
  subst y;have O:=k.rd (bB:=bB) λd z b i g=>j d z b i (A d _ g).2;have M:=m.rd (bB:=bB) λd z b i g=>j d z b i (D d _ g);have R:=j s _ _ _ I;refine Rd.R s 0 (λh=>[Value.int .i64 t,.int .i64 u,F,E].getD h J) (λh w a=>?_) (λh w a=>?_)
  .match h,a with
   |0,_|1,_|2,_|3,_=>grind
  .match h,a with
   |0,a=>cases a;exact Rd.int C
   |1,a=>cases a;exact Rd.int B
   |2,a=>grind
   |3,a=>grind
def bc.gh(h:bc k b){o}(aJ:k[d]?=f (.K (eA W o))):
  ∃j,j.a=b.a/\j.t=b.t/\(∀L,b.t[d]?=f L->Rd j.D L.v (eN o))/\bc (k.set d .M) j/\cN k b (k.set d .M) j:=by
 have N:d<c k:=(cO.1 aJ).1;have M:=h.len;have x:=bH (show d<c b.t by omega);generalize b.t[d]=L at x;obtain⟨w,T,E,K,R⟩:=h.box d _ L aJ x;let i:Mem:=λe g=>match w e with|some (.cells z _ _)=>z[g]?|_=>b.D e g
 have D:∀e,e∉L.ak->∀g,i e g=b.D e g:=λe t g=>by grind
 have O:∀e g u,b.D e g=f u->i e g=f u:=λe g u r=>by grind
 have A:cN k b (k.set d .M) {b with D:=i}:=by
  refine⟨bC _,λ_ _ _=>rfl,O,λe _ F g=>D e (F L (b_ x)) g,λp m e t=>.inr ⟨p,m,t⟩,λy B p q m=>?_,a,a,a,a⟩;by_cases s:d=y
  .subst s;rw[aJ]at q;cases q;exact⟨.M,p,by grind,m,a⟩
  exact⟨B,p,by grind,m,.refl _ _⟩
 refine⟨{b with D:=i},rfl,rfl,λp m=>?_,⟨λe g u r=>?_,by grind,λy B p q m=>?_,h.a1,h.lt,h.own⟩,A⟩
 .rw[x]at m;cases m;exact T.rd λe z C U t g V X=>by grind
 .by_cases t:e∈L.ak
  .have r:i e g=f u:=r;cases I:w e with
   |none=>grind
   |some S=>
    have Q:=E e S I;simp[i,I]at r;split at r
    .rename_i z C U s;cases s;show b.a.cell? _=_;simp[aH,Q,r]
    grind
  exact h.mem e g u ((D e t g).symm.trans r)
 by_cases s:d=y
 .subst s;rw[io N]at q;cases q;trivial
 rw[kA s]at q;exact(h.box y B p q m).b_ A.ext M λe t=>⟨a,λg=>D e (λJ=>s (h.a1 d y L p x m e J t)) g⟩
end
section
variable {q:af P}
def b0.gv{d}{o}{i}(e:b0 E k b I d)(h:c b.t=c k)(a:cN k b ap aA)(p:bx ap aA (d.tmps.getD o J) i):b0 E ap aA ((o,i)::I) d:=
 ⟨e.size,e.defers.imp λ_ g=>g.mono a.ext,λj=>by
  simp only[look];cases m:ad o j with
  |false=>exact(e.aL j).mono a.ext h
  |true=>grind[Nat.eq_of_beq_eq_true]⟩
def g.gw(o d){W}{lt cy}{p i}(B:look I o=.n (.Q (.aM d)))(e:c_ d k=f (.K (eA W (.ay lt p i cy))))(j:g q E bd (.code s::au) .normal ((o,aI d 0)::I) (k.set d (.cells W [.c (.int .i64 p),.c (.int .i64 i),iu lt (c k),iu cy (c k+c (hq W lt))])++(hq W lt++hq W cy))):g q E bd (.code s::au) .normal I k:=by refine g.aP (λN K r b=>?_) j;have w:=r.aL o;rw[B]at w;obtain⟨_,L,C,y,_⟩:=w;obtain⟨m,h,⟨D,J,a,u,z⟩,A,t⟩:=b.gw (et e);rw[C]at a;cases a;have x:d<c k:=(cO.1 (et e)).1;refine⟨m,h,r.gv b.len t ⟨λF aJ=>?_,_,D,z,u,y.trans u⟩,A,t⟩;rw[j3 M,io x]at aJ;cases aJ;rfl
def g.cU(o d e u){W}{lt cy}{a i}(S:look I o=aI d 0)(p:c_ d k=f (.cells W [.c (.int .i64 a),.c (.int .i64 i),iu lt e,iu cy u]))(z:lt≠.nil->c_ e k=f (.K (eA W lt)))(A:cy≠.nil->c_ u k=f (.K (eA W cy)))(O:lt≠.nil->cy≠.nil->e≠u)(C:g q E bd (.code s::au) .normal ((o,.n (.Q (.aM d)))::I) (jj cy u (jj lt e (k.set d (.K (eA W (.ay lt a i cy))))))):g q E bd (.code s::au) .normal I k:=by
 refine g.aP (λaa Z F m=>?_) C;have K:=F.aL o;rw[S]at K;obtain⟨_,L,ae,V,R,af⟩:=K;obtain⟨D,x,⟨N,j,w,T,y⟩,Q,J⟩:=m.cU (et p) (λh=>et (z h)) (λh=>et (A h)) O;rw[V]at j;cases j;have M:d<c k:=(cO.1 (et p)).1;have r:(jj cy u (jj lt e (k.set d (.K (eA W (.ay lt a i cy))))))[d]?=f (.K (eA W (.ay lt a i cy)))∨(jj cy u (jj lt e (k.set d (.K (eA W (.ay lt a i cy))))))[d]?=f .M:=by
  have ab:(k.set d (.K (eA W (.ay lt a i cy))))[d]?=f (.K (eA W (.ay lt a i cy))):=io M;have Y:∀t B b,b[d]?=f (.K (eA W (.ay lt a i cy)))∨b[d]?=f .M->(jj t B b)[d]?=f (.K (eA W (.ay lt a i cy)))∨(jj t B b)[d]?=f .M:=λt B b h=>by
   cases t with
   |nil=>exact h
   |ay=>simp[jj,n1];grind
  grind
 refine⟨D,x,F.gv m.len J ⟨λX aJ=>?_,w,T,?_,?_⟩,Q,J⟩
 .rcases r with r|r<;>(rw[r]at aJ;cases aJ;rfl)
 .grind
 exact hy
def g.gh(o d){W}{r}(w:look I o=.n (.Q (.aM d)))(h:c_ d k=f (.K (eA W r)))(b:g q E bd (.code s::au) .normal ((o,ax (eN r))::I) (da.cu d .M k)):g q E bd (.code s::au) .normal I k:=by rw[mO]at b;refine g.aP (λA z j a=>?_) b;have p:=j.aL o;rw[w]at p;obtain⟨_,L,y,t,_⟩:=p;obtain⟨i,e,_,x,u,m⟩:=a.gh (et h);exact⟨i,e,j.gv a.len m (show Rd _ _ _ from t▸x L y),u,m⟩
end
section
variable {q:af P}{aM:fw}{aw:Exit}
def nS(h:Nat)(aM:fw):fw:=λk j g=>∃d a,(∀e i,b0 h g e j i->bc g e->∃b:a6,b.a=e.a/\b0 h a b d i/\bc a b/\cN g e a b)/\aM k d a
def nS.of(d:aM aw I k):nS E aM aw I k:=⟨I,k,λe g b a=>⟨e,rfl,b,a,.refl _ _⟩,d⟩
def nS.step{d}(w:∀b e,b0 E k b I e->bc k b->∃a:a6,a.a=b.a/\b0 E ap a d e/\bc ap a/\cN k b ap a)(z:nS E aM aw d ap):nS E aM aw I k:=by obtain⟨r,g,o,A⟩:=z;refine⟨r,g,λb e t p=>?_,A⟩;obtain⟨x,h,j,m,q⟩:=w b e t p;obtain⟨u,i,f3,y,s⟩:=o x e j m;exact⟨u,i.trans h,f3,y,q.trans s⟩
theorem nS.freeze(o d){W}{ah}{gN}(i:look I o=aI d 0)(b:c_ d k=f (.cells W ah))(g:h3 ah=f gN)(e:nS E aM aw ((o,ax (.R gN))::I) (da.cu d .M k)):nS E aM aw I k:=by rw[mO]at e;exact .step (λm j h a=>b0.freeze o d i b g h a) e
def de.iV(M:de q E s (nS E aM) I k):de q E s aM I k:=by
 intro T J R u K O o F t d r;refine M T J R u K O o F t d λB U D g b y p a h=>?_;obtain⟨j,m,S,y⟩:=y;obtain⟨e,Q,N,A,z⟩:=S g b p a;have C:=z.tooV a;have i:=r B j m e b y N A (h.trans C);have x:e2 g e:=.of a A Q C;cases B<;>first
  |exact i.elim
  |exact .aP x i
  |exactλpre=>.aP x (i pre)
  |exactλpre w=>.aP x (i pre w)
def de.bb(d)(ap){cR}(p:iX I d=f Z)(F:U Z)(b:jo k ap=f cR)(K:U cR)(M:de q E s aM d ap):de q E s aM I k:=by intro w A J a B u j z t e r;have m:=jN b K;have y:=(m w a).2.1;exact M w A ((J.le (eH p F)).ak m a) (m w a).1 B u j z t e λC D h x i N o b g=>r C D h x i N o b ((y.tooV a).trans g)
def de.jK{o}{Z}{assign body}{g}{o3}{d:ι->m aq}(p:∀e h,b0 E k e I h->bc k e->∃i:m Y,h.eval o=.func (.func g) #[] i.toArray/\b4 k e i o3)(r:bk q g (.n (.Q (.aM (c k)))::o3) (k++[.loop E I {state:=.ready,pending:=n,fn:=0,tmps:=#[],params:=Z,assign:=assign,body:=body,defers:=0}]) res d)(a:∀b,∃gb,(d b)[c k]?=f (.loop E I gb)/\gb.state≠.busy/\∃j,y1 gb.pending=f j/\aM j I ((d b).set (c k) .M++[.bl])):de q E (.rangeFunc o Z assign body) aM I k:=
 de.rangeFunc (gb:=λb=>(a b).choose) p r (λb=>⟨(a b).choose_spec.1,(a b).choose_spec.2.1⟩) λb=>(a b).choose_spec.2.2
def bk.jc{d}{fn}{args}{ap:ι->m aq}(B:P.funcs[d]?=f fn)(x:(fn.name== "runtime.NumGoroutine")=v)(h:fn.body=f s)(u:ay args.length fn.ntmps=l)(y:de q fn.ntmps s (nS fn.ntmps λw o b=>∃j,k0 P fn k.length (res j) (ap j) w o b) (h2 0 args) k):bk q d args k res ap:=
 bk.gu B x h (fs u) λC r d z t A e p i a g=>de.iV y C r d z t A e p i a g
def k0.cells(aY:b2 P ac){fn}{d}{res}(aV)(e:tp ac fn.results.toList aV I res=f Z)(m:U Z)(j:dx aV k=f ap)(i:l3 ap=l)(h:fb aV=l)(g:∀b,b<d->aV[b]?=f b):k0 P fn d res ap .ret I k:=by refine⟨.inl a,aV,?_⟩;unfold tp at e;grind[oQ.e']
end
def x9:R->Option Y
 |.c (.val a)=>f a
 |_=>n
def u6:m R->Option (m Y)
 |[]=>f []
 |a::d=>match x9 a with
  |some e=>match u6 d with
   |some b=>f (e::b)
   |none=>n
  |none=>n
def x_:y->Option Y
 |.n (.Q b)=>x9 b
 |.n (.agg a)=>match u6 a with
  |some d=>f (.agg d.toArray)
  |none=>n
 |_=>n
def sO:m y->Option (m Y)
 |[]=>f []
 |a::d=>match x_ a with
  |some e=>match sO d with
   |some b=>f (e::b)
   |none=>n
  |none=>n
section
variable {q:af P}
def Jw{d}:∀{a:R},cA k b aa a->x9 a=f d->aa=d
 |.c (.val h),g,e=>by cases e;exact Rd.bc g
theorem Jx:∀{e:m R}{z a:m Y},bM k b z e->u6 e=f a->z=a
 |[],[],a,_,g=>by cases g;rfl
 |[],_::_,_,d,_=>d.elim
 |_::_,[],_,d,_=>d.elim
 |j::o,q::z,a,d,g=>by
  simp[u6]at g;cases h:x9 j with
  |none=>grind
  |some r=>
   cases i:u6 o with
   |none=>grind
   |some p=>
    simp[h,i]at g;subst g;rw[Jw d.1 h,Jx d.2 i]
def Yt{g}:∀{d:y},bx k b aa d->x_ d=f g->aa=g
 |.n (.Q i),e,a=>Jw e a
 |.n (.agg h),⟨z,j,e⟩,a=>by simp[x_]at a;grind[Jx]
def CA:∀{e:m y}{z a:m Y},b4 k b z e->sO e=f a->z=a
 |[],[],a,_,g=>by cases g;rfl
 |[],_::_,_,d,_=>d.elim
 |_::_,[],_,d,_=>d.elim
 |j::o,q::z,a,d,g=>by
  simp[sO]at g;cases h:x_ j with
  |none=>grind
  |some r=>
   cases i:sO o with
   |none=>grind
   |some p=>
    simp[h,i]at g;subst g;rw[Yt d.1 h,CA d.2 i]
def hZ(P:aE)(h:Nat)(e:an)(g:bJ)(i:m aq)(d:a0)(args:m Y):Prop:=∀j b,b0 h i j g b->∀a,(ab b.eval e).run P a=(callFunc d args.toArray).run P a/\(ab b.eval e).events P a #[]=(callFunc d args.toArray).events P a #[]
def hZ.ed{a}{args}(e:r.op=.call {callee:=.value (.func a),args:=ag,argTypes:=dr})(i:sO (ag.toList.map (bD I))=f args):hZ P E r I k a args:=by
 intro o b h p;have j:=CA (m6 (eF h) ag.toList) i;have d:ag.map b.eval=args.toArray:=M;have g:b.eval (.func a)=.func (.func a) #[] #[]:=rfl;have m:ab b.eval r=callFunc a args.toArray:=by simp[ab,e,resolve,g,Deferred.ofValue,invoke,d]
 grind
def hZ.invoke{q}{o:ae}{h}{name}{e}{m t}{args}(j:r.op=.call {callee:=.invoke o name,args:=h,argTypes:=dr})(x:bD I o=ax (.val (.iface e m)))(w:sO (h.toList.map (bD I))=f args)(d:∀a,(Go.method (P.types.size+Made.depth) e m name).run P a=.ok (q,t) a/\∀b,(Go.method (P.types.size+Made.depth) e m name).events P a b=b):hZ P E r I k q (t::args):=by
 intro z y s a;have g:=eF s o;rw[x]at g;have g:=Rd.bc (b7 g);have i:=CA (m6 (eF s) h.toList) w;have p:∀a,(program:Sem aE).run P a=.ok P a:=λa=>by simp
 have u:∀a b,(program:Sem aE).events P a b=b:=λa b=>by simp
 rw[CC j g,i];constructor
 .simp[callMethod,p,(d a).1]
 simp[callMethod,p,u,(d a).1,(d a).2]
structure jz(P:aE)(aj:a0)(aw:Array Y->Sem Y):Prop where
 fn:∃fn,P.funcs[aj]?=f fn/\(fn.name== "runtime.NumGoroutine")=v/\fn.body.isNone=l/\Extern.findNext fn=n/\Extern.find fn=f aw
def jz.run{d}{e:Array Y->Sem Y}(q:jz P d e){args}(m:(e args).run P p=.ok aa bi):(callFunc d args).run P p=.ok (.value aa) bi/\∀a,(callFunc d args).events P p a=(e args).events P p (a.push ⟨.mark (.extern d),v,l⟩):=by
 obtain⟨fn,k,o,i,b,j⟩:=q.fn;have g:fn.name≠ "runtime.NumGoroutine":=M;have h:fn.body=n:=ds;constructor
 .rw[run_callFunc_extern k o i b j,m];rfl
 intro a;simp[callFunc,k,g,h,b,j,m]
def eg.ext{B:ι->y}{d:ι->m aq}{s}{q:Array Y->Sem Y}{args}(N:hZ P E r I k s args)(J:jz P s q)(o:∀g,bc k g->∃i b p,(q args.toArray).run P g.a=.ok p b.a/\bx (d i) b p (B i)/\bc (d i) b/\cN k g (d i) b/\∀j,∀e∈(q args.toArray).events P g.a j,e∈j∨h4 g e):eg P E r I k B d:=by
 intro g C F w;obtain⟨t,u⟩:=N g C F g.a;obtain⟨i,b,p,M,x,z,A,O⟩:=o g w;obtain⟨K,D⟩:=J.run M;refine⟨i,.value p,b,p,t.trans K,.inl a,x,z,A,λe h=>?_⟩;rw[u,D]at h;rcases O _ e h with o|o
 .simp at o;subst o;exact .inr ⟨s,a⟩
 grind
def eg.ee{h}{e:Array Y->Sem Y}{args}{F}(m:hZ P E r I k h args)(i:jz P h e)(j:∀d,(e args.toArray).run P d=.ok aa d)(q:∀d a,(e args.toArray).events P d a=a)(o:∀b,bx k b aa F):eg P E r I k (λ_:Unit=>F) λ_=>k:=
 .ext m i λb g=>⟨(),b,aa,j b.a,o b,g,.refl _ _,λa p s=>.inl M⟩
def eg.g1{t}{h:Array Y->Sem Y}{args}{aa:Nat->Y}{F:Nat->y}{bz}(J:hZ P E r I k t args)(z:jz P t h)(C:∀o,(h args.toArray).run P o=.ok (aa o.heap.size) (o.alloc (.cells #[bz] W)))(Q:∀o i,(h args.toArray).events P o i=i)(K:∀p k d,bx k d (aa p) (F p)):
  eg P E r I k F λp=>k++[.K (ed p W bz)]:=
 .ext J z λd g=>by
  have s:cN k d k {d with a:=d.a.alloc (.cells #[bz] W)}:=⟨by simp,λe b _=>iV _ _ b,λ_ _ _ u=>u,λ_ _ _ _=>rfl,λL B e b=>.inr ⟨L,B,b⟩,λN bS L j q=>⟨bS,L,j,q,.refl _ _⟩,rfl,rfl,rfl,rfl⟩
  have O:∀r,d.D d.a.heap.size r=n:=λr=>by
   cases m:d.D d.a.heap.size r with
   |none=>rfl
   |some aa=>exact absurd (g.block m) (w5 _)
  have j:=(g.cW (bi:=d.a.alloc (.cells #[bz] W)) (cj:=d.D) D (λe b=>iV d.a _ b) (λe b r=>rfl) (λe b r aa m=>by have:=g.block m;omega) a a a).1;obtain⟨x,w⟩:=j.bY (bS:=.K (ed d.a.heap.size W bz)) (L:=⟨.pointer (f ⟨d.a.heap.size,0,n⟩),[d.a.heap.size]⟩) s rfl g
   ⟨λe=>if e=d.a.heap.size then f (.cells #[bz] W (0,0))else n,⟨rfl,by simp,λe b=>by grind⟩,λe r b=>by
    by_cases h:e=d.a.heap.size
    .subst h;simp[dv]at b;grind[lT]
    grind,λe=>by by_cases h:e=d.a.heap.size<;>simp[h],λe b r=>by grind⟩
   (λe b=>by simp_all)
  exact⟨d.a.heap.size,_,_,C d.a,K _ _ _,x,w,λi A u=>.inl M⟩
def ed.own{C}(i:c_ d k=f (.K (ed C W aa)))(bP:bc k b):b.a.heap[C]?=f (.cells #[aa] W (0,0))/\b.a.cell? ⟨C,0,n⟩=f aa/\(∀a,h4 b ⟨.cell ⟨C,a,n⟩,v,v⟩)/\∀a,h4 b ⟨.cell ⟨C,a,n⟩,l,v⟩:=by have aJ:=et i;have m:d<c b.t:=hY;have e:=bH m;generalize b.t[d]=L at e;obtain⟨o,⟨s,h,t⟩,q,r,p⟩:=bP.box d _ L aJ e;have j:=q C _ h;have g:=(r C).2 M;exact⟨j,by simp[aH,j],λa=>qh (b_ e) g,λa=>oa (b_ e) g (p C g _)⟩
def ed.ca{d C}{W}{aa bz}(g:c_ d k=f (.K (ed C W aa)))(bP:bc k b):bc (k.set d (.K (ed C W bz))) {b with a:=b.a.setRow C #[bz]}/\cN k b (k.set d (.K (ed C W bz))) {b with a:=b.a.setRow C #[bz]}:=by
 have g:=et g;have r:d<c b.t:=hY;have m:=bH r;generalize b.t[d]=L at m;obtain⟨p,⟨i,j,B⟩,o,t,y⟩:=bP.box d _ L g m;have z:=(t C).2 M;have q:=o C _ j;have s:∀e,e≠C->(b.a.setRow C #[bz]).heap[e]?=b.a.heap[e]?:=λe h=>setRow_other b.a C e _ h;have x:=setRow_heap b.a C #[aa] #[bz] W (0,0) q;have w:b.t.set d L=b.t:=mY;have E:=bP.ca (d:=d) (jZ:=ed C W bz) (cv:=L) (bi:=b.a.setRow C #[bz]) g m a D
  (λe h u=>s e M) (λe h=>.inl h)
  ⟨λe=>if e=C then f (.cells #[bz] W (0,0))else n,⟨i,by simp,λe h=>by grind⟩,λe A h=>by grind,λe=>by grind⟩ a a a
 grind
def eg.g2{m}{i:Array Y->Sem Y}{args}{bz}{F}(d){C}(j:c_ d k=f (.K (ed C W bz)))(w:hZ P E r I k m args)(p:jz P m i)(u:∀h,h.cell? ⟨C,0,n⟩=f bz->(i args.toArray).run P h=.ok aa h/\∀a,∀b∈(i args.toArray).events P h a,b∈a∨b=⟨.cell ⟨C,0,n⟩,v,v⟩)(x:∀g,bx k g aa F):eg P E r I k (λ_:Unit=>F) λ_=>k:=
 .ext w p λg e=>by obtain⟨_,s,y,_⟩:=ed.own j e;obtain⟨q,o⟩:=u g.a s;exact⟨(),g,aa,q,x g,e,.refl _ _,λa b t=>(o a b t).imp id λz=>by grind⟩
def eg.iK{p}{j:Array Y->Sem Y}{args}{bz EO}{F}(q w:Nat){C i}{h}(e:c_ q k=f (.K (ed C W EO)))(s:c_ w k=f (.K (ed i h bz)))(A:hZ P E r I k p args)(u:jz P p j)(y:∀g,g.heap[C]?=f (.cells #[EO] W (0,0))->g.cell? ⟨i,0,n⟩=f bz->(j args.toArray).run P g=.ok aa (g.setRow C #[bz])/\∀b,∀a∈(j args.toArray).events P g b,a∈b∨a=⟨.cell ⟨i,0,n⟩,v,v⟩∨a=⟨.cell ⟨C,0,n⟩,l,v⟩)(B:∀k m,bx k m aa F):eg P E r I k (λ_:Unit=>F) λ_=>k.set q (.K (ed C W bz)):=
 .ext A u λm d=>by obtain⟨t,_,_,D⟩:=ed.own e d;obtain⟨_,z,J,_⟩:=ed.own s d;obtain⟨x,M⟩:=y m.a t z;obtain⟨o,t2⟩:=ed.ca (bz:=bz) e d;refine⟨(),_,aa,x,B _ _,o,t2,λb a K=>?_⟩;grind
def g.c0{N:ι->y}{b:ι->m aq}(S:oJ all I r=l)(ag:fj E r.dst=l)(T:eg P E r I k N b)(U:∀o,g q E bd (.aj all bq::au) .normal (ga r.dst (N o) I) (b o)):g q E bd (.aj all (r::bq)::au) .normal I k:=by
 intro ai Q J j R C u O idx i a B;cases idx with
 |nil=>exact a.elim
 |cons ah idx=>
 refine rk i a.1 (jW S _ _ _ J) λae w=>?_;have h:=j.rely w;have d:=J.rely w j;obtain⟨o,aa,p,ab,A,e,af,K,M,Y⟩:=T ae Q d h;have z:=M.tooV h;refine⟨aa,p,ab,A,e,⟨⟨k,b o,h,K,M⟩,Y⟩,?_⟩;refine U o p _ ?_ K R C u O idx i a.2 λV s D t X x e F=>B V s D t X x e ((w.aU.trans z).trans F);cases W:r.dst with
 |none=>exact d.mono z h.len
 |some Z=>exact(d.mono z h.len).put (k9 ag Z W) af
def g.iL(o){ac}{ah}(y:look I o=ax (.cf ac (.R ah)))(m:∀p:Addr,g q E bd (.code s::au) .normal ((o,cL (.iface ac (.pointer (f p))))::I) k):g q E bd (.code s::au) .normal I k:=by
 refine b3.e2 (ι:=Addr) (dD:=λp=>(o,cL (.iface ac (.pointer (f p))))::I) (ap:=λ_=>k) (λC t e j=>?_) m;have b:=e.aL o;rw[y]at b;have b:=b7 b;generalize x:t.tmps.getD o J=F at b;cases b with
 |@cf _ r _ h z=>
  cases h with
  |R u d D A B=>
   refine⟨⟨u,d,n⟩,C,a,⟨e.size,e.defers,λr=>?_⟩,j,.refl _ _⟩;simp only[look];cases i:ad o r with
   |false=>exact e.aL r
   |true=>
    have w:=dn i;subst w;rw[x];exact Rd.val a
def g.gZ(o){ac}{j}(m:look I o=ax (.cf ac (.val j)))(i:g q E bd (.aj all bq::au) .normal ((o,cL (.iface ac j))::I) k):g q E bd (.aj all bq::au) .normal I k:=by
 refine ff.le i λk u w s b=>?_;simp[look];cases h:ad o s with
 |false=>exact b
 |true=>
  have p:=dn h;subst p;rw[m]at b;have d:=b;cases d with
  |@cf _ t _ e r=>
   obtain rfl:=Rd.bc e;exact Rd.val a
def g.hD(o d)(N:look I o=aI d 0)(i:c_ d k=f (.cells W [.c .bo]))(w:∀b,g q E bd (.code s::au) .normal ((o,cL (.pointer (f ⟨b,0,n⟩)))::I) (k.set d (.K (ed b W (.pointer n))))):g q E bd (.code s::au) .normal I k:=by
 refine b3.e2 (ι:=Nat) (dD:=λb=>(o,cL (.pointer (f ⟨b,0,n⟩)))::I) (ap:=λb=>k.set d (.K (ed b W (.pointer n)))) (λp O t bP=>?_) w;have i:=et i;have C:d<c p.t:=hY;have r:=bH C;generalize p.t[d]=L at r;obtain⟨b,z,rfl,S,K,U⟩:=bP.box d _ L i r
 match z,K with
 |[Q],⟨x,_⟩=>
  have x:=x;cases x;obtain⟨M,m⟩:=bP.b7 (cj:=p.D) (bi:=p.a) (eb:=.K (ed b W (.pointer n))) (cv:=⟨.pointer (f ⟨b,0,n⟩),[b]⟩) i r rfl (bC _) (λ_ _ _=>rfl) (λ_ _ _ _=>rfl) (λ_ _ _ B=>B) bP.mem (λj e=>⟨.inl e,bP.lt _ (b_ r) j e⟩) rfl rfl rfl
   ⟨λj=>if j=b then f (.cells #[.pointer n] W (0,0))else n,⟨rfl,by simp,λj e=>by grind⟩,λj J e=>by grind,λj=>by by_cases u:j=b<;>simp[u],λj e J=>by grind⟩
  refine⟨b,{p with t:=p.t.set d ⟨.pointer (f ⟨b,0,n⟩),[b]⟩},rfl,⟨t.size,t.defers.imp λ_ h=>h.mono m.ext,λA=>?_⟩,M,m⟩;simp only[look];cases e:ad o A with
  |false=>exact(t.aL A).mono m.ext bP.len
  |true=>
   have u:=dn e;subst u;have h:=t.aL o;rw[N]at h;obtain⟨_,T,R,y,F,D⟩:=(h:cA k p _ (.ptr d 0));rw[r]at y;cases y;cases F;rw[D];exact Rd.val a
end
section
variable {q:af P}
def vz:m R->Option (m Y)
 |[]=>f []
 |.c (.int a b)::e=>match vz e with
  |some d=>f (.int a b::d)
  |none=>n
 |_=>n
def KJ:∀{e:m R}{z b:m Y}{q:a6},bM k q z e->vz e=f b->z=b/\∀d h,bM d h b e
 |[],[],b,_,_,g=>by cases g;exact⟨a,λ_ _=>trivial⟩
 |[],_::_,_,_,i,_=>i.elim
 |_::_,[],_,_,i,_=>i.elim
 |.c (.int t u)::w,x::z,b,q,i,g=>by
  simp only[vz]at g;cases o:vz w with
  |none=>rw[o]at g;cases g
  |some y=>
   rw[o]at g;cases g;obtain⟨j,r⟩:=i;obtain⟨rfl,s⟩:=KJ r o;have j:Rd q.D x (.int t u):=j;cases j with
   |int p=>exact⟨rfl,λd h=>⟨Rd.int p,s d h⟩⟩
def eg.hl{b}{m:ae}{ah}{i}(p:r.op=.makeFunc (.func b) #[m] #[])(w:bD I m=.n (.agg ah))(h:vz ah=f i):
  eg P E r I k (λ_:{_u:Unit // ∀a j,bM a j i ah}=>ax (.val (.func (.func b) #[.agg i.toArray] #[]))) λ_=>k:=by
 intro q s t g;have o:=eF t m;rw[w]at o;obtain⟨z,u,d⟩:=o;obtain⟨rfl,e⟩:=KJ d h;refine⟨⟨(),e⟩,.value (.func (.func b) #[.agg z.toArray] #[]),q,_,?_,.inl rfl,Rd.val rfl,g,.refl _ _,?_⟩
 .simp only[ab,p,Instr.makeFunc];simp[u]
 have:(ab s.eval r).events P q.a #[]=#[]:=by simp only[ab,p,Instr.makeFunc];rfl
 rw[this];exact .nil
def L6{e:ae}(cl:r.op=.call {callee:=.value cP,args:=#[e],argTypes:=dr}){b}{fn}(O:P.funcs[b]?=f fn)(h:(fn.name== "runtime.NumGoroutine")=v)(g:fn.body.isNone=v){a:Act}{d}(C:a.eval cP=.func (.func b) #[d] #[])(p):
  (ab a.eval r).run P p=.ok (.enter b [d,a.eval e].toArray) p/\(ab a.eval r).events P p #[]=#[]:=by
 have s:fn.name≠ "runtime.NumGoroutine":=M;have i:fn.body≠n:=M;constructor
 .exact OK
 exact OK
def aZ.gQ{o:ae}(S:∀k C m,b0 E k C I m->aP r (yielded all.toArray m.tmps)=l)(e:r.op=.call {callee:=.value cP,args:=#[o],argTypes:=dr}){J}{ah}{j}{d res}(W:bD I cP=ax (.val (.func (.func J) #[.agg j.toArray] #[])))(Z:∀p b,bM p b j ah)(Y:BN (bD I o)=d)(O:X q J [.n (.agg ah),d] [] res [])(t:ha 0 [.n (.agg ah),d]=l)(u:gn [] [.n (.agg ah),d]=[.n (.agg ah),d])(ab:fc [] res=res):aZ q E all r I k res k:=by
 intro C m s y ag V ai af aj A x z w;have N:=eF s cP;rw[W]at N;have Q:=Rd.bc (b7 N);obtain⟨fn,M,K,F⟩:=O.1;have R:=HJ (eF s o);rw[Y]at R;have U:b4 k C [.agg j.toArray,m.eval o] (gn [] [.n (.agg ah),d]):=by rw[u];exact⟨⟨j,a,Z _ _⟩,R,B⟩
 refine Gx (aV:=[]) (dh:=[]) (aS:=[]) x z (S _ _ _ s) y (λD=>(L6 e M K F Q D).1) (λD=>(L6 e M K F Q D).2) O U t a a a a (bC _) ?_;intro aa b g h i;have T:da [] [] k=k:=by simp[da]
 rw[T]at g h i;refine w aa b ?_ h i;simpa[ab,gV]using g
def dX.cK(ai:∀k h b,b0 E k h I b->aP r (yielded all.toArray b.tmps)=l)(e:r.op=.call {callee:=.value cP,args:=ag,argTypes:=dr}){F}(g:g1 (bD I cP)=f (F,cap))(O:bk q F cQ k res aS)(W:lY (ag.toList.map (bD I)++e' cap) cQ=f Z)(af:U Z):dX q E all r I k res aS:=by
 intro h b y s al aa S aj an A p t o;have N:=eF y cP;unfold g1 at g;split at g
 case h_2=>cases g
 case h_1 u7 uT he=>
  cases g;rw[he]at N;have J:=b7 N;generalize Q:b.eval cP=V at J;cases J with
  |fn j a w d T i X m ae z=>
   have ah:j=[]:=jC w;subst ah;have Y:b4 k h a (e' cap):=qc (λx R u=>⟨i x,m x M,z x R u⟩) d;have ab:b4 k h (ag.toList.map b.eval++a) cQ:=s5 W af ((m6 (eF y) ag.toList).append Y);obtain⟨fn,K,D,C⟩:=O.1;exact Gy p t (ai _ _ _ y) s (λB=>(mM e K D C Q B).1) (λB=>(mM e K D C Q B).2) O ab o
def g.hc(d){p}(aJ:k[d]?=f p)(A:∀L,fM p L .M L)(o:g q E bd (.code s::au) .normal I (k.set d .M)):g q E bd (.code s::au) .normal I k:=by
 refine g.aP (λb D m bP=>?_) o;have r:d<c b.t:=hY;have i:=bH r;generalize b.t[d]=L at i;have x:b.t.set d L=b.t:=by
  apply p4;intro z;by_cases t:d=z
  .subst t;rw[io r,i]
  rw[kA t]
 obtain⟨u,h⟩:=bP.b7 (cj:=b.D) (bi:=b.a) aJ i (A L) (bC _) (λ_ _ _=>rfl) (λ_ _ _ _=>rfl) (λ_ _ _ y=>y) bP.mem (λw e=>⟨.inl e,bP.lt L (b_ i) w e⟩) rfl rfl rfl B;rw[x]at u h;exact⟨b,a,⟨m.size,m.defers.imp λ_ j=>j.mono h.ext,λC=>(m.aL C).mono h.ext bP.len⟩,u,h⟩
def g.cM(d){b}(aJ:c_ d k=f b)(e:∀L,fM b L .M L)(a:g q E bd (.code s::au) .normal I (k.set d .M)):g q E bd (.code s::au) .normal I k:=.hc d (et aJ) e a
def g.eJ{s}:∀d{b:m aq},g q E bd (.code s::au) .normal I (b++aU d .M)->g q E bd (.code s::au) .normal I b
 |0,b,a=>by simpa using a
 |d+1,b,a=>by refine g.fg 0 1 (g.hc (c b) (AD) bn (g.eJ d ?_));rw[List.set_append_right _ _ (bC _)];simpa[List.replicate_succ]using a
end
def Rd.jL{o}{h}(y:Rd bB aa (.B o h j V)):∃m a p b,aa=.slice m j a/\j<=a/\a<=9223372036854775807/\(0<j->m=f ⟨p,b,n⟩)/\(∀d,d<j->c (V d)=h)/\∀d,d<j->∀k e,(V d)[k]?=f e->∃w,bB p (b+d*h+k)=f w/\Rd bB w e:=by
 cases y with
 |@B m _ a _ _ _ p b A x r z s q t u=>exact⟨m,a,p,b,rfl,x,r,q,s,λd g k e i=>⟨_,t d g k e i,u d g k e i⟩⟩
def Rd.hM{o}{cap h}(e:j<=cap)(g:cap<=9223372036854775807)(r:0<j->o=f ⟨i,off,n⟩)(q:∀a,a<j->c (V a)=h)(t:∀a,a<j->∀b d,(V a)[b]?=f d->∃p,bB i (off+a*h+b)=f p/\Rd bB p d):Rd bB (.slice o j cap) (.B v h j V):=by refine .B i off (λa b=>(bB i (off+a*h+b)).getD J) e g (λs=>by cases s) q r (λa k b d m=>M) λa k b d m=>?_;grind
section
variable {q:af P}{O:m ik}
end
section
variable {q:af P}
def eg.hn(aY:b2 P ac){x z:ae}{Q:cp}{U V:IntKind}(t:r.op=.makeSlice o x z)(J:bZ ac o=f Q)(aj:Q.desc=.slice W)(ar:bZ ac W=f a4)(M:bD I x=ax (.int U j))(O:bD I z=ax (.int V j))(au:j*a4.bytes<=140737488355328)(aA:j<=140737488355328):
  eg P E r I k (λ_:Unit=>ax (.B v a4.size j λ_=>a4.zero)) λ_=>k:=by
 intro h A aM F;have q:=eF aM x;rw[M]at q;have q:=b7 q;generalize af:A.eval x=av at q;cases q;have s:=eF aM z;rw[O]at s;have s:=b7 s;generalize ag:A.eval z=aw at s;cases s;have C:=(aY o Q J).eb;rw[aj]at C;obtain⟨e,m,u,ao,X,Z,Y,az,al⟩:=(aY W a4 ar).cX;have G:(e.bytes:Int)*(j:Int)<=281474976710656:=by
  have an:((e.bytes*j:Nat):Int)<=281474976710656:=by rw[X,wZ];omega
  rwa [Int.natCast_mul]at an
 have aa:=run_make (P:=P) (w:=h.a) o W e m C u Z U V j j w (Int.le_refl _) G w;simp only[cY]at aa;have ai:m.cells.size=a4.size:=by have:=eD List.length Y;simp at this;omega
 have R:madeCells m.cells (j*e.size)=Builtin.zeroCells m.cells j:=by rw[ao,<-ai];rfl
 let d:=(madeCells m.cells (j*e.size)).toList;have ah:eX h.D a4.size j (λ_=>a4.zero) d:=by show eX _ _ _ _ (madeCells _ _).toList;rw[R];exact NK Y al
 obtain⟨D,L⟩:=F.newRow W d;refine⟨(),.value (.slice (f ⟨h.a.heap.size,0,n⟩) j j),h.newRow W d,_,?_,.inl a,?_,D,L,?_⟩
 .simp[ab,t,af,ag,aa,d,a6.newRow]
 .exact Rd.er (ah.mono L.mem) (i:=h.a.heap.size) (off:=0) bn (bC _) w (λt=>by cases t) (KT h W d)
 have B:ab A.eval r=(do pure (.value (<-Instr.makeSlice o (.int U j) (.int V j)))):=by simp[ab,t,af,ag]
 rw[B];refine iS ?_;intro B g;have K:∀b,(underlying o).run P b=.ok (.slice W) b:=λb=>by simp[underlying,C]
 have y:∀b,(typeInfo W).run P b=.ok e b:=λb=>by simp[typeInfo,u]
 have N:∀b,(zeroValue W).run P b=.ok m b:=λb=>by simp[zeroValue,typeInfo,u,Z]
 have H:∀b,(sizeOf W).run P b=.ok e.size b:=λb=>by simp[sizeOf,typeInfo,u]
 have aq:IntKind.i64.wrap (j:Int)=j:=by rw[IntKind.wrap_i64];omega
 have S:¬(j:Int)<0:=w;have T:¬(281474976710656<(e.bytes:Int)*j):=w;simp[Instr.makeSlice,K,y,H,asInt,asIntOf,aq,S,T]at g;rw[N]at g;simp only[aF,(dz.newRow (P:=P)) _ _,ite_self]at g;unfold askRoom at g;split at g
 .have:B=⟨.mark .noRoom,v,l⟩:=by simpa using g
  rw[this];exact .inl a
 simp at g
end
section
open Go.Conc
def gw(d:a6):Prop:=∀a b e,d.D a b=f e->d.a.cell? ⟨a,b,n⟩=f e
def jA(a:Nat->Prop):Go.Loc->Prop
  |.cell b=>a b.block
  |.obj d=>a d
  |_=>False
structure gW(s:Nat->Prop)(b:a6):Prop where
  own:∀i,s i->¬b.own i
  t:∀i,s i->∀L∈b.t,i∉L.ak
  D:∀i,s i->∀r,b.D i r=n
  lt:∀i,s i->i<b.a.heap.size
section
variable {s:Nat->Prop}
def gW.step(g:gW s b)(e:cN k b ap aA):gW s aA:=by
  refine⟨λd a=>by rw[e.own];exact g.own d a,λd a L j i=>?_,λd a p=>by rw[e.bz d (g.lt d a) (g.t d a)];exact g.D d a p,λd a=>eC (g.lt d a) e.size⟩;rcases e.bR L j d i with h|⟨o,m,h⟩
  · exact absurd (g.lt d a) (p3.2 h)
  · exact g.t d a o m h
theorem gW.aP(g:gW s b)(j:e2 b aA):gW s aA:=by
  have h:∀d,s d->¬(aA.own d∨∃L∈aA.t,d∈L.ak):=λd a e=>by
    rcases j.blk d e with e|⟨L,i,e⟩
    · exact g.own d a e
    · exact g.t d a L i e
  exact⟨λd a e=>h d a (.inl e),λd a L i e=>h d a (.inr ⟨L,i,e⟩),λd a k=>by rw[j.bz d (g.t d a)];exact g.D d a k,λd a=>by rw[j.a];exact g.lt d a⟩
def gW.b0(e:gW s b)(g:nR b aA):gW s aA:=by
  refine⟨λd a=>by rw[g.own];exact e.own d a,λd a=>by rw[g.t];exact e.t d a,λd a h=>?_,λd a=>by rw[g.a];exact e.lt d a⟩;cases i:aA.D d h with
  |none=>rfl
  |some j=>rw[<-g.e6 d h j i,e.D d a h]
def gW.at(a:gW s b)(d):gW s {b with a:=b.a.at d}:=⟨a.own,a.t,a.D,a.lt⟩
def gw.at(d:gw b)(a):gw {b with a:=b.a.at a}:=d
theorem gw.aP(a:e2 b aA):gw aA:=λe g h d=>by rw[a.a];exact a.cell e g h d
def gw.b0(i:gw b)(d:nR b aA):gw aA:=λa e g h=>by rw[d.a];exact i a e g (d.e6 a e g h)
def gw.lt(e:gw b){r}(d:b.D i r=f aa):i<b.a.heap.size:=by
  have:=e i r aa d;rcases dT i b.a.heap.size with a|a
  · exact a
  · simp[aH,AH a]at this
def cV.at(d:gw b)(a):cV b {b with a:=b.a.at a}:=⟨rfl,rfl,rfl,bC _,λ_ _=>rfl,d,rfl,rfl,rfl⟩
def TO{o}(p:bc k b)(q:gW s b)(g:h4 b o){r}(aJ:b.a.heap.size<=r):EvL (jA s) r o:=by
  obtain⟨t,wr,y⟩:=o;cases t with
  |cell m=>
    obtain⟨i,j,a⟩:=g;simp only at i j a;subst i;have key:¬s m.block/\m.block<b.a.heap.size:=by
      rcases a with a|⟨⟨L,h,a⟩,_⟩|⟨_,A,a⟩
      · exact a.elim
      · exact⟨λe=>q.t _ e L h a,p.lt L h _ a⟩
      · refine⟨λe=>?_,gw.lt p.mem a⟩
        rw[q.D _ e]at a;cases a
    exact evL_cell m wr key.1 (eC key.2 aJ)
  |obj z=>
    obtain⟨i,j⟩:=g;simp only at i j;subst i;obtain⟨L,h,a⟩:=j.resolve_left id;refine⟨λe d u=>?_,by simp,by simp,?_⟩
    · simp[aK,MemAct.touch?]at d
      subst d;exact absurd a (q.t _ u L h)
    · simp[aK,MemAct.low,Loc.low]
      exact eC (p.lt L h _ a) aJ
  |mark x=>
    simp[h4]at g;rcases g with rfl|⟨w,rfl⟩
    · exact⟨λe d=>by simp[aK,MemAct.touch?]at d,by simp,by simp,by simp[aK,MemAct.low]⟩
    · exact⟨λe d=>by simp[aK,MemAct.touch?]at d,by simp,by simp,by simp[aK,MemAct.low]⟩
  |_=>exact g.elim
end
def m5(b:Trace):Prop:=∀a,NoRelease a b
def m5.app{o}(e:m5 o){C}{fn}{pos}{V}(i:∀d∈V,∀a,d.loc≠.mark (.release a)):m5 (o++MemOp.ofEvents C fn pos V):=
  λa=>(e a).app λh b g=>by grind[Go.Conc.mem_ofEvents,Go.ConcR.loc_of_ofEvent]
def TP{a}(h:h4 b a)(g):a.loc≠.mark (.release g):=by intro d;obtain⟨loc,wr,j⟩:=a;simp only at d;subst d;rcases h with e|⟨i,e⟩<;>cases e
def KI{a:aO}(e:a.mute=l)(d):a.loc≠.mark (.release d):=by intro b;obtain⟨loc,wr,g⟩:=a;simp only at b;subst b;simp[Event.mute]at e
def kW(P:aE)(r:ai)(g:a6)(o:ai->a6->Prop):Prop:=
  ∀(k:Nat->Prop) b dB h (s:Nat->Nat),gw g->b[0]?=f r->Leavers P h b s->Past (jA k) g.a.heap.size h->gW k g->m5 h ->
    ∃(m:Nat) (j:Nat->Prop) (i:Array ai) (d:ai) (a:a6) (p:Option (Nat×Nat)) (e:Trace) (q:Nat->Nat),
      runNT P m (crowd b g.a dB) h=(.next (crowd i a.a p),e)/\gw a/\i[0]?=f d/\Leavers P e i q/\Past (jA j) a.a.heap.size e/\gW j a/\m5 e/\o d a
def af.aD(P):af P:={b4:=l,rely:=λb a=>cV b a/\∃d,a={b with a:=b.a.at d},dj:=kW P,bH:=λe=>e.1,dR:=True}
instance (P:aE):(af.aD P).bX:=⟨B⟩
theorem D4{P}:∀b a {e h:Machine} {i g:Trace},runNT P b e i=(.next h,g)->runNT P (b+a) e i=runNT P a h g
  |0,a,e,h,i,g,d=>by simp[runNT]at d;grind
  |b+1,a,e,h,i,g,d=>by
    rw[show b+1+a=(b+a)+1 by omega];simp[runNT]at d⊢;cases k:stepT P e with
    |mk o j=>
      rw[k]at d;cases o with
      |next m=>exact D4 b a d
      |ended p q=>grind
def kW.trans{r:ai->a6->Prop}(B:kW P C b r)(I:∀a d,r a d->kW P a d br):kW P C b br:=by intro x e dB S Q m g i j k o;obtain⟨t,F,w,a,d,z,O,V,D,h,U,N,T,J,E,R⟩:=B x e dB S Q m g i j k o;obtain⟨s,u,y,K,q,A,t2,p,k1,M⟩:=I a d R F w z O V h U N T J E;exact⟨t+s,u,y,K,q,A,t2,p,by grind[D4],M⟩
def kW.jW{ac:ai->a6->Prop}(az:C.status=.running)(S:∀(r:Nat->Prop) d E dB g (i:Nat->Nat),gw b->d[0]?=f C->Leavers P g d i->Past (jA r) b.a.heap.size g->gW r b->m5 g ->
      ∃I G A e,runT P (crowd d (b.a.at E) dB) 0=(.next (crowd I A.a dB),e)/\gw A/\I[0]?=f G/\Leavers P (g++e) I i/\Past (jA r) A.a.heap.size (g++e)/\gW r A/\m5 (g++e)/\ac G A):kW P C b ac:=by
  intro r d dB g i;have key:∀X d E dB g (i:Nat->Nat),Go.ConcN.sumTo d.size i<=X->gw b->d[0]?=f C->Leavers P g d i->Past (jA r) b.a.heap.size g->gW r b->m5 g ->
      ∃(Z:Nat) (W:Nat->Prop) (J:Array ai) (j:ai) (m:a6) (B:Option (Nat×Nat)) (R:Trace) (Y:Nat->Nat),
        runNT P Z (crowd d (b.a.at E) dB) g=(.next (crowd J m.a B),R)/\gw m/\J[0]?=f j/\Leavers P R J Y/\Past (jA W) m.a.heap.size R/\gW W m/\m5 R/\ac j m:=by
    intro X;induction X with
    |zero=>?_
    |succ X ao=>?_
    all_goals
      intro d E dB g i aF x s k t u o;have aq:∀C∈d,awake C:=by
        intro z aA;obtain⟨h,q,rfl⟩:=Array.mem_iff_getElem.1 aA;rcases n0 h with rfl|ae
        · grind[awake_of]
        · exact awake_of ((k.old h _ ae (iF q)).status.elim .inl λz=>.inr (.inr z))
      obtain⟨h,z,d2,B,q,aM,ag⟩:=crowd_pick (P:=P) (w:=b.a.at E) (sl:=dB) aq ⟨0,C,s,az⟩;rw[show(b.a.at E).at d2=b.a.at d2 from a]at ag;rcases n0 h with rfl|ae
      · obtain⟨I,G,A,e,k1,L,av,ab,aw⟩:=S r d d2 B g i x s k t u o
        exact⟨1,r,I,G,A,B,g++e,i,by simp[runNT,ag,k1],L,av,ab,aw⟩
      · have T:=k.old h z ae q
        have ar:(h==0)=v:=M;have H:h<d.size:=(jb.1 q).1;cases aj:i h with
        |zero=>rw[aj]at T;rw[T.1]at aM;cases aM
        |succ F=>
          rw[aj]at T;rcases T with⟨aE,_⟩|⟨_,j,V,y,an,aK⟩
          · grind
          have aI:Go.ConcN.sumTo d.size (Go.ConcN.upd i h F)+(F+1)=Go.ConcN.sumTo d.size i+F:=by have:=Go.ConcN.sumTo_upd i F id H;simpa[aj]using this
          first
          | (exfalso;omega)
          | (have aG:=runT_crowd_go (P:=P) (sl:=B) (i:=h) q (by rw[ar];exact an (b.a.at d2))
             have aJ:((d.map (woken P z j (b.a.at d2))).setIfInBounds h j).size=d.size:=D;obtain⟨Z,W,J,au,m,N,R,Y,k1,L⟩:=ao ((d.map (woken P z j (b.a.at d2))).setIfInBounds h j) d2 B (g++MemOp.ofEvents h z.frame.fn z.frame.place V) (Go.ConcN.upd i h F) M x
              (by grind[woken_run])
              ⟨λU aL K Q=>by
                by_cases ah:h=U
                · grind[Go.ConcN.upd_same,Deaf_own]
                · rw[sw ah,Array.getElem?_map]at Q
                  obtain⟨aH,ax,rfl⟩:=rb.1 Q;have al:=k.old U aH K ax;rw[woken_quitsD al,Go.ConcN.upd_ne i F (oZ ah),Deaf_other g ah _ (λaf O=>by grind[Go.Conc.mem_ofEvents])];exact al,λU K=>by
                rw[Deaf_other g (g':=h) M _ (λaf O=>by grind[Go.Conc.mem_ofEvents])]
                exact k.above U M⟩
              (t.mute w y) u (o.app λaD aa aC=>KI (y aD aa) aC)
             exact⟨Z+1,W,J,au,m,N,R,Y,by simp[runNT,ag,aG];exact k1,L⟩)
  intro x s k t u o;have:=key _ d b.a.drawn dB g i (bC _) x s k t u o
  rwa [show b.a.at b.a.drawn=b.a from a]at this
def _root_.Go.Conc.Leavers.own{d}{o}{m:Nat->Nat}(k:Leavers P o gs m){aQ}(g:∀b∈aQ,b.g=0)(t:0<gs.size):Leavers P (o++aQ) ((gs.map (woken P C d p)).setIfInBounds 0 d) m:=
  ⟨λi u e h=>by
    have q:0≠i:=w;rw[sw q,Array.getElem?_map]at h;obtain⟨s,r,rfl⟩:=rb.1 h;have j:=k.old i s e r;rw[woken_quitsD j,Deaf_other o w _ (λb a=>g b a)];exact j,λi e=>by
    rw[Deaf_other o (g':=0) M _ (λb a=>g b a)]
    exact k.above i M⟩
def cf.aD{P:aE}{O:ai->a6->Prop}{C}{b}(E:cf (af.aD P) O C b):kW P C b O:=by
  induction E with
  |stop E=>intro p k dB u t m g h i j o;exact⟨0,p,k,_,_,dB,u,t,a,m,g,h,i,j,o,E⟩
  |aP d _ r=>
    intro p k dB u t m g h i j o;have:=r p k dB u t (.aP d) g h (by rw[d.a];exact i) (j.aP d) o
    rwa [d.a]at this
  |b0 _ d _ r=>
    intro p k dB u t m g h i j o;have:=r p k dB u t (m.b0 d) g h (by rw[d.a];exact i) (j.b0 d) o
    rwa [d.a]at this
  |dj K _ r=>exact kW.trans K r
  |@step C b ab z W M F I _ r=>
    refine kW.trans (kW.jW (ac:=λw A=>∃y,(af.aD P).rely b y/\w=ab y/\A=z y) M λp k q dB u t m g h i j x=>?_) λw A ⟨y,k1,Z,aa⟩=>by subst Z aa;exact r y k1
    have B:(af.aD P).rely b {b with a:=b.a.at q}:=⟨cV.at m q,q,rfl⟩;obtain⟨⟨ae,T,J,X,s⟩,S⟩:=I _ B;have V:=(jb.1 g).1;have R:gW p {b with a:=b.a.at q}:=j.at q;exact⟨_,_,z {b with a:=b.a.at q},_,runT_crowd_go (P:=P) (sl:=dB) (i:=0) g (show ao P (0==0) C (b.a.at q)=_ from F _ B),X.mem,by grind,
      h.own (λY Q=>by grind[Go.Conc.mem_ofEvents]) V,((i.mono s.size).own λD N=>TO J R (S D N) s.size),R.step s,x.app λD N U=>TP (S D N) U,_,B,rfl,rfl⟩
inductive cq where
 |leaf
 |node (aj:a6->cq)
def cq.lt:cq->cq->Prop
 |_,.leaf=>False
 |d,.node a=>∃b,d=a b∨cq.lt d (a b)
def cq.fo:∀g:cq,Acc cq.lt g
 |.leaf=>⟨_,λ_ b=>b.elim⟩
 |.node d=>⟨_,λ_ ⟨e,a⟩=>a.elim (λa=>a▸cq.fo (d e)) λb=>(cq.fo (d e)).inv b⟩
def cq.dG:Nat->cq
 |0=>.leaf
 |a+1=>.node λ_=>cq.dG a
def cq.gr(j)(b:a6):cq.lt (cq.dG j) (cq.dG (j+1)):=⟨b,.inl a⟩
def wN(e:Nat)(d y:Nat->cq):Prop:=∃a,a<e/\cq.lt (d a) (y a)/\∀b,b≠a->d b=y b
def Nu:∀b,WellFounded (wN b)
 |0=>⟨λ_=>⟨_,λ_ ⟨e,g,_⟩=>absurd g (iH e)⟩⟩
 |b+1=>by
  have m:=Nu b;have key:∀d:cq,∀y:Nat->cq,y b=d->Acc (wN (b+1)) y:=by
   intro d;induction cq.fo d with
   |intro d _ q=>
    intro y;induction m.apply y with
    |intro y _ k=>
     intro r;refine⟨_,λp g=>?_⟩;obtain⟨e,o,j,h⟩:=g;rcases dT e b with i|i
     .exact k p ⟨e,i,j,h⟩ M
     grind
  exact⟨λy=>key _ y a⟩
section
def gI(g:af P)(k:a6->a6->Array aO->Prop)(j:ai->a6->Prop):cq->ai->a6->Prop
 |.leaf,e,d=>j e d
 |.node m,e,d=>j e d∨(∃a,(e2 d a∨(g.dR/\nR d a))/\gI g k j (m d) e a) ∨
   (e.status=.running/\∀h,g.rely d h->∃i a b,ao P g.b4 e h.a=.go i a.a b/\(kx h a b∨k h a b)/\gI g k j (m h) i a)
variable {q:af P}{W:a6->a6->Array aO->Prop}{s:ai->a6->Prop}
def dt(d:af P)(a:a6->a6->Array aO->Prop)(b:ai->a6->Prop)(e:ai)(h:a6):Prop:=∃g,gI d a b g e h
theorem dt.aP(d:e2 b aA)(a:dt q W br C aA):dt q W br C b:=by obtain⟨e,a⟩:=a;exact⟨.node λ_=>e,.inr (.inl ⟨aA,.inl d,a⟩)⟩
def dt.b0(a:q.dR)(e:nR b aA)(d:dt q W br C aA):dt q W br C b:=by obtain⟨g,d⟩:=d;exact⟨.node λ_=>g,.inr (.inl ⟨aA,.inr ⟨a,e⟩,d⟩)⟩
def dt.step(o:C.status=.running)(j:∀e,q.rely b e->∃g a d,ao P q.b4 C e.a=.go g a.a d/\(kx e a d∨W e a d)/\dt q W br g a):dt q W br C b:=by
 classical
 have h:∀e,∃k:cq,q.rely b e->∃g a d,ao P q.b4 C e.a=.go g a.a d/\(kx e a d∨W e a d)/\gI q W br k g a:=by
  intro e;by_cases i:q.rely b e
  .obtain⟨g,a,d,c5,dE,k,m⟩:=j e i;exact⟨k,λ_=>⟨g,a,d,c5,dE,m⟩⟩
  exact⟨.leaf,λj=>absurd j i⟩
 exact⟨.node λe=>Classical.choose (h e),.inr (.inr ⟨o,λe i=>Classical.choose_spec (h e) i⟩)⟩
def dt.bind(d:dt q W br C b)(i:∀C b,br C b->dt q W s C b):dt q W s C b:=by
 obtain⟨j,d⟩:=d;induction j generalizing C b with
 |leaf=>exact i C b d
 |node p g=>
  rcases d with d|⟨k,a,e⟩|⟨h,d⟩
  .grind
  .rcases a with a|⟨gQ,a⟩
   .exact .aP a (g _ e)
   exact .b0 gQ a (g _ e)
  exact .step h λo m=>by grind
def cf.toW(r:∀C b p,¬q.dj C b p)(h:cf q br C b):dt q W br C b:=by
 induction h with
 |stop h=>exact⟨.leaf,h⟩
 |step t u s m i j _ d=>exact .step m λg e=>⟨_,_,_,i g e,.inl (j g e),d g e⟩
 |aP a _ d=>exact .aP a d
 |b0 k a _ d=>exact .b0 k a d
 |dj o _ _=>grind
def gI.bb(m:a6->Prop)(C:∀g b,e2 g b->m g->m b)(A:q.dR->∀g b,nR g b->m g->m b):∀{D:cq}{r:ai}{g:a6},gI q W br D r g->m g ->
  (∃b,m b/\br r b)∨(r.status=.running/\∃b,m b/\∀k,q.rely b k->∃h i d o,ao P q.b4 r k.a=.go h i.a d/\(kx k i d∨W k i d)/\gI q W br o h i/\cq.lt o D)
 |.leaf,_,g,p,j=>.inl ⟨g,j,p⟩
 |.node E,r,g,p,j=>by
  rcases p with p|⟨b,x,y⟩|⟨I,p⟩
  .grind
  .have e:m b:=x.elim (λs=>C g b s j) λs=>A s.1 g b s.2 j;rcases gI.bb m C A y e with B|⟨B,i,F,J⟩
   .grind
   refine .inr ⟨B,i,F,λk z=>?_⟩;obtain⟨h,u,d,o,k1,t,w,K⟩:=J k z;exact⟨h,u,d,o,k1,t,w,g,.inr K⟩
  refine .inr ⟨I,g,j,λk z=>?_⟩;obtain⟨h,u,d,k1,t,w⟩:=p k z;exact⟨h,u,d,E k,k1,t,w,k,.inl a⟩
def dt.goes{dj:ar->ar->Prop}{y:ar->ar->Array aO->Prop}{Stop:ai->ar->Prop}(k:a6->Prop)(u:∀b d,k b->q.rely b d->k d)(p:∀b d,k b->q.rely b d->dj b.a d.a)(A:∀b e,k b->∀j,y b.a j e->j=b.a/\(kx b b e∨W b b e))(w:∀b,k b->q.rely b b)(x:∀h b,k b->Stop h b.a->dt q W br h b):
  ∀r h b,k b->Goes P q.b4 dj y Stop r h b.a->dt q W br h b
 |0,h,b,g,m=>x h b g (m b.a (p b b g (w b g)))
 |r+1,h,b,g,m=>by
  rcases m with m|⟨D,m⟩
  .grind
  refine .step D λd z=>?_;have i:=m d.a (p b d g z);have s:=u b d g z;cases t:ao P q.b4 h d.a with
  |go o j e=>
   rw[t,goes_go]at i;obtain⟨C,E⟩:=i;obtain⟨rfl,B⟩:=A d e s j C;exact⟨o,d,e,a,B,dt.goes k u p A w x r o d s E⟩
  |_=>rw[t]at i;exact i.elim
end
theorem cV.aP(h:cV b {b with a:=p})(g:e2 b aA):cV aA {aA with a:=p}:=by
 refine⟨a,a,a,by rw[g.a];exact h.size,λd e=>by rw[g.a];exact h.a3 d (g.blk d e),λd i j k=>?_,by rw[g.a];exact h.os,by rw[g.a];exact h.tape,by rw[g.a];exact h.output⟩;have o:=g.cell d i j k;by_cases e:∃L∈b.t,d∈L.ak
 .have:=h.a3 d (.inr e);simp only[aH]at o⊢;grind
 have:b.D d i=f j:=by rw[<-g.bz d (λL q m=>e ⟨L,q,m⟩)];exact k
 exact h.mem d i j this
def cV.b0(d:cV b {b with a:=p})(a:nR b aA):cV aA {aA with a:=p}:=
 ⟨rfl,rfl,rfl,by rw[a.a];exact d.size,λe g=>by rw[a.a];exact d.a3 e (by rw[<-a.own,<-a.t];exact g),λe h i j=>d.mem e h i (a.e6 e h i j),by rw[a.a];exact d.os,by rw[a.a];exact d.tape,by rw[a.a];exact d.output⟩
def cV.et(a:gw b):cV b b:=⟨rfl,rfl,rfl,bC _,λ_ _=>rfl,a,rfl,rfl,rfl⟩
def cV.fT(a:cV b {b with a:=p}):cV {b with a:=p} {b with a:=p}:=cV.et a.mem
def cV.trans{b h b5}(a:cV b h)(d:cV h b5):cV b b5:=
 ⟨d.t.trans a.t,d.D.trans a.D,d.own.trans a.own,fQ a.size d.size,λg e=>by rw[d.a3 g (by rw[a.own,a.t];exact e),a.a3 g e],λg j k i=>d.mem g j k (by rw[a.D];exact i),d.os.trans a.os,d.tape.trans a.tape,d.output.trans a.output⟩
end
section
open Go.Conc
open Go.ConcN (fork_knows RelBy)
open Go.ConcR (stA smA)
def h7:Go.Loc->Option Nat
 |.cell a=>f a.block
 |.obj b=>f b
 |_=>n
def Kv{d}(b:d.isMemory=l):∃a,h7 d=f a:=by cases d<;>simp[Go.Loc.isMemory]at b<;>exact⟨_,rfl⟩
def ad1{d:MemAct}{e}{bS}(b:d.touch?=f e)(g:d.low bS)(a:h7 e.loc=f i):i<bS:=by
 cases d with
 |access h=>
  simp[MemAct.touch?]at b;subst b;simp only at a;obtain⟨loc,wr,k⟩:=h;cases loc<;>simp[h7]at a<;>subst a<;>exact g
 |mark j=>
  cases j<;>simp[MemAct.touch?]at b<;>subst b<;>simp[h7]at a<;>subst a<;>exact g
 |_=>exact cS
structure hH where
 bx:Nat->Prop
 bO:Nat
 f:Nat
 af:Nat
 base:Nat
 aI:Nat
def oU(d:hH)(g:Nat->Nat)(e:Touch):Prop:=
 (∃a,e.loc=.cell a/\a.block=d.f/\e.kind≠.plain)∨(∃b,h7 e.loc=f b/\g b=0/\b≠d.f/\b≠d.af/\¬d.bx b/\e.kind=.plain)
def nW(b:hH)(i:Nat->Nat)(j:Mem)(h:Nat)(a:Touch):Prop:=
 (∃e,a.loc=.cell e/\e.block=b.f/\a.kind=.atomic) ∨
 (a.kind=.plain/\((∃g,h7 a.loc=f g/\i g=b.base+h)∨(∃d,a.loc=.cell ⟨b.af,d,n⟩/\b.aI*h<=d/\d<b.aI*h+b.aI)∨(a.write=v/\∃g d k,a.loc=.cell ⟨g,d,n⟩/\j g d=f k)))
structure fF(K:hH)(O:Nat->Nat)(aj:Nat->Mem)(o:Trace)(u bS:Nat):Prop where
 base:1<=K.base
 db:O K.f=0
 da:O K.af=0
 bT:K.af≠K.f
 dV:¬K.bx K.f
 eA:¬K.bx K.af
 ez:∀i,K.bx i->O i=0
 bC:∀F,F<u->∀i r aa,aj F i r=f aa->O i=0/\i≠K.af/\i≠K.f/\¬K.bx i
 bO:K.bO<=o.size
 ek:∀said,¬Race said o
 seen:∀op∈o,op.act.low bS
 old:∀e x,e<K.bO->touchAt o e=f x->x.loc.isMemory=l->Knows o 0 e∨(jA K.bx x.loc/\x.kind=.atomic)
 ec:∀F,F<u->∀e x,e<K.bO->touchAt o e=f x->x.loc.isMemory=l->Knows o (K.base+F) e∨(jA K.bx x.loc/\x.kind=.atomic)
 eH:∀e x i,e<K.bO->touchAt o e=f x->h7 x.loc=f i->O i=0
 new:∀e x,K.bO<=e->touchAt o e=f x->x.loc.isMemory=l->(o.g? e=f 0/\oU K O x)∨(∃F,F<u/\o.g? e=f (K.base+F)/\nW K O (aj F) F x)
 ej:∀F,F<u->∀e x,K.bO<=e->touchAt o e=f x->o.g? e=f 0->x.write=l->∀i r aa,x.loc=.cell ⟨i,r,n⟩->aj F i r=f aa->Knows o (K.base+F) e
 over:∀e C,e<K.bO->o.g? e=f C->C≠0->o.counts e->∃h,o.g? h=f 0/\HappensBefore o e h
section
variable {K:hH}{O eu:Nat->Nat}{aj:Nat->Mem}{o bz:Trace}{bS eb:Nat}
theorem zA{a}{C}(g:touchAt o e=f a)(b:o.g? e=f C):Knows o C e:=by
 obtain⟨h,d,_⟩:=touch_of g;have:h.g=C:=by simpa[Trace.g?,d]using b
 grind[knows_own]
def fF.low(j:fF K O aj o u bS){b}(g:touchAt o e=f b)(a:h7 b.loc=f i):i<bS:=by obtain⟨k,h,d⟩:=touch_of g;exact ad1 d (j.seen k (wU h)) a
def fF.eL(d:fF K O aj o u bS)(e:∀b,b<bS->eu b=O b)(aJ:bS<=eb)(B:K.f<bS)(t:K.af<bS)(C:∀b,K.bx b->b<bS)(D:∀h,h<u->∀b r s,aj h b r=f s->b<bS):fF K eu aj o u eb:=by
 have F:∀k g,touchAt o k=f g->oU K O g->oU K eu g:=λk g m a=>by
  rcases a with a|⟨b,a,i,z⟩
  .exact .inl a
  exact .inr ⟨b,a,by rw[e b (d.low m a)];exact i,z⟩
 have E:∀h k g,touchAt o k=f g->nW K O (aj h) h g->nW K eu (aj h) h g:=λh k g m a=>by
  rcases a with a|⟨y,⟨b,a,i⟩|a⟩
  .exact .inl a
  .exact .inr ⟨y,.inl ⟨b,a,by rw[e b (d.low m a)];exact i⟩⟩
  exact .inr ⟨y,.inr a⟩
 refine⟨d.base,by rw[e _ B];exact d.db,by rw[e _ t];exact d.da,d.bT,d.dV,d.eA,λb j=>by rw[e b (C b j)];exact d.ez b j,λh A b r s x=>by rw[e b (D h A b r s x)];exact d.bC h A b r s x,
  d.bO,d.ek,λw q=>MemAct.low_mono aJ (d.seen w q),d.old,d.ec,λk g b p m j=>by rw[e b (d.low m j)];exact d.eH k g b p m j,λk g p m O=>?_,d.ej,d.over⟩
 rcases d.new k g p m O with⟨a,i⟩|⟨h,a,i,z⟩
 .grind
 grind
def fF.fq(a:fF K O aj o u bS):K.bO<=(o++bz).size:=fQ a.bO D
theorem od(a:e<o.size):(o++bz).g? e=o.g? e:=by simp[Trace.g?,getElem?_append_old a]
def fF.fI(p:fF K O aj o u bS)(bz):∀a h,a<K.bO->(o++bz).g? a=f h->h≠0->(o++bz).counts a->∃g,(o++bz).g? g=f 0/\HappensBefore (o++bz) a g:=by
 intro a h d b e j;have m:=eC d p.bO;rw[od m]at b;obtain⟨g,k,i⟩:=p.over a h d b e ((counts_old m).1 j);have q:g<o.size:=by unfold Trace.g? at k;grind
 exact⟨g,by grind[od],hb_app bz i⟩
def Mq{a:Nat->Prop}{d}(e:jA a d)(b:h7 d=f i):a i:=by cases d<;>simp[h7]at b<;>subst b<;>exact e
def fF.eD(t:fF K O aj o u bS){b}(k:b<u){a i}{said}(aY:oU K O i)(j:nW K O (aj b) b a)(gQ:a.loc=i.loc)(g:a.kind=.plain∨i.kind=.plain∨(said=l/\a.kind=.said/\i.kind=.said))(q:i.kind=.plain->i.write=l->∀C r aa,i.loc=.cell ⟨C,r,n⟩->aj b C r≠f aa)(p:a.write=l∨i.write=l):False:=by
 have m:=t.base;rcases j with⟨e,dK,e4,jK⟩|⟨w,⟨s,dK,e4⟩|⟨r,dK,_⟩|⟨dK,C,r,aa,e4,jK⟩⟩
 .rcases aY with⟨d,f1,f2,f3⟩|⟨s,f1,f2,f3,_⟩
  .grind
  exact QX
 .rcases aY with⟨d,f1,f2,f3⟩|⟨h,f1,f2,f3,_⟩
  .rw[gQ,f1]at dK;exact Ri
  grind
 .rcases aY with⟨d,f1,f2,f3⟩|⟨h,f1,f2,f3,f4,_⟩
  .rw[<-gQ,dK]at f1;cases f1;exact t.bT f2
  exact QX
 obtain⟨A,x,y,z⟩:=t.bC b k C r aa jK;rcases aY with⟨d,f1,f2,f3⟩|⟨h,f1,f2,f3,f4,_,f5⟩
 .grind
 grind
def fF.app0(t:fF K O aj o u bS)(C:∀a∈bz,a.g=0)(B:∀a∈bz,a.act.low bS)(y:∀a∈bz,∀b,a.act.touch?=f b->b.loc.isMemory=l->oU K O b)(T:∀a∈bz,∀b,a.act.touch?=f b->b.kind=.plain->b.write=l->∀j,j<u->∀k s w,b.loc=.cell ⟨k,s,n⟩->aj j k s≠f w):fF K O aj (o++bz) u bS:=by
 have F:∀{d:Nat} {b:Touch},touchAt (o++bz) d=f b->(d<o.size/\touchAt o d=f b)∨(o.size<=d/\(o++bz).g? d=f 0/\∃a∈bz,a.act.touch?=f b):=by
  intro d b h;obtain⟨j,p,W⟩:=touch_of h;rcases getElem?_append_cases p with⟨bp,G⟩|⟨bp,M⟩
  .grind [touchAt_of]
  exact .inr ⟨bp,by simp[Trace.g?,p,C j M],j,M,W⟩
 refine⟨t.base,t.db,t.da,t.bT,t.dV,t.eA,t.ez,t.bC,t.fq,λsaid=>?_,seen_app t.seen B,λd b bp h O=>?_,λj p d b bp h O=>?_,λd b k bp h q=>?_,λd b bp h O=>?_,λj p d b bp h x N k s w I D=>?_,t.fI bz⟩
 .refine noRace_append (t.ek said) C λd b h a g k q e=>?_;have V:k.loc.isMemory=l:=by rw[<-e.1];exact e.2.1
  have aY:=y a g k q V;rcases dT d K.bO with bp|bp
  .rcases t.old d b bp h e.2.1 with bX|⟨au,L⟩
   .exact bX
   exfalso;obtain⟨X,r⟩:=Kv e.2.1;have Q:=Mq au r;rcases aY with⟨z,dK,e4,jK⟩|⟨H,dK,e4,jK,E,bB,S⟩
   .rw[e.1,dK]at r;simp[h7,e3]at r;rw[<-r,e4]at Q;exact t.dV Q
   rw[e.1,dK]at r;grind
  rcases t.new d b bp h e.2.1 with⟨x,_⟩|⟨j,p,x,R⟩
  .grind [zA]
  exact(t.eD p aY R e.1 e.2.2.2 (λm i=>T a g k q m i j p) e.2.2.1).elim
 .have A:touchAt o d=f b:=FI;exact(t.old d b bp A O).imp (·.app bz) id
 .have A:touchAt o d=f b:=FI;exact(t.ec j p d b bp A O).imp (·.app bz) id
 .have A:touchAt o d=f b:=FI;exact t.eH d b k bp A q
 .rcases F h with⟨m,i⟩|⟨_,i,a,g,J⟩
  .rw[od m];exact t.new d b bp i O
  grind
 rcases F h with⟨m,i⟩|⟨_,i,a,g,J⟩
 .rw[od m]at x;exact(t.ej j p d b bp i x N k s w I D).app bz
 exfalso;rcases y a g b J hy with⟨z,dK,e4,jK⟩|⟨H,_,_,_,_,_,S⟩
 .rw[I]at dK;cases dK;exact(t.bC j p k s w D).2.2.1 e4
 grind
def fF.h8(t:fF K O aj o u bS){r}(E:r<u)(U:∀k∈bz,k.g=K.base+r)(S:∀k∈bz,k.act.low bS)(ae:∀k∈bz,∀d,k.act.touch?=f d->d.loc.isMemory=l->nW K O (aj r) r d):fF K O aj (o++bz) u bS:=by
 have W:=t.base;have X:∀{e:Nat} {d:Touch},touchAt (o++bz) e=f d->(e<o.size/\touchAt o e=f d)∨(o.size<=e/\(o++bz).g? e=f (K.base+r)/\∃k∈bz,k.act.touch?=f d):=by
  intro e d j;obtain⟨w,x,aa⟩:=touch_of j;rcases getElem?_append_cases x with⟨bp,ao⟩|⟨bp,N⟩
  .grind [touchAt_of]
  exact .inr ⟨bp,by simp[Trace.g?,x,U w N],w,N,aa⟩
 refine⟨t.base,t.db,t.da,t.bT,t.dV,t.eA,t.ez,t.bC,t.fq,λsaid=>?_,seen_app t.seen S,λe d bp j O=>?_,λw x e d bp j O=>?_,λe d F bp j C=>?_,λe d bp j O=>?_,λw x e d bp j J T F i m R M=>?_,t.fI bz⟩
 .refine noRace_append (t.ek said) U λe d j k z F C h=>?_;have H:F.loc.isMemory=l:=by rw[<-h.1];exact h.2.1
  have aY:=ae k z F C H;obtain⟨ar,s⟩:=Kv h.2.1;rcases dT e K.bO with bp|bp
  .rcases t.ec r E e d bp j h.2.1 with D|⟨af,aq⟩
   .exact D
   exfalso;have B:=Mq af s;rw[h.1]at s;rcases aY with⟨Q,dK,e4,jK⟩|⟨ac,⟨ah,dK,e4⟩|⟨i,dK,_⟩|⟨dK,A,i,m,e4,jK⟩⟩
   .rw[dK]at s;simp[h7,e3]at s;rw[<-s,e4]at B;exact t.dV B
   .rw[dK]at s;simp[e3]at s;rw[<-s]at B;rw[t.ez _ B]at e4;omega
   .rw[dK]at s;simp[h7,e3]at s;rw[<-s]at B;exact t.eA B
   rw[e4]at s;simp[h7,e3]at s;rw[<-s]at B;exact(t.bC r E A i m jK).2.2.2 B
  rcases t.new e d bp j h.2.1 with⟨J,G⟩|⟨w,x,J,L⟩
  ·
   by_cases y:d.write=l/\∃A i m,d.loc=.cell ⟨A,i,n⟩/\aj r A i=f m
   .obtain⟨g,A,i,m,p,br⟩:=y;exact t.ej r E e d bp j J g A i m p br
   exfalso;refine t.eD (said:=said) E G aY h.1.symm ?_ (λ_ Z A i m q M=>y ⟨Z,A,i,m,q,M⟩) h.2.2.1.symm;rcases h.2.2.2 with D|D|⟨g,p,br⟩
   .grind
   .grind
   grind
  by_cases Y:w=r
  .grind [zA]
  exfalso;obtain⟨q,_,T,al⟩:=h;rcases L with⟨Q,dK,e4,jK⟩|⟨ac,⟨g7,dK,e4⟩|⟨i,dK,V,an⟩|⟨dK,A,i,m,e4,jK⟩⟩
  .rcases aY with⟨b,f1,f2,f3⟩|⟨f0,⟨iK,f1,f2⟩|⟨i,f1,_⟩|⟨f1,A,i,m,f2,f3⟩⟩
   .grind
   .rw[<-q,dK]at f1;simp[h7,e3]at f1;rw[<-f1,e4,t.db]at f2;omega
   .rw[<-q,dK]at f1;cases f1;exact t.bT e4
   rw[<-q,dK]at f2;cases f2;exact(t.bC r E A i m f3).2.2.1 e4
  .rcases aY with⟨b,f1,f2,f3⟩|⟨f0,⟨iK,f1,f2⟩|⟨i,f1,_⟩|⟨f1,A,i,m,f2,f3⟩⟩
   .rw[q,f1]at dK;exact Ri
   .grind
   .rw[q,f1]at dK;simp[h7,e3]at dK;rw[<-dK,t.da]at e4;omega
   rw[q,f2]at dK;simp[h7,e3]at dK;rw[<-dK,(t.bC r E A i m f3).1]at e4;omega
  .rcases aY with⟨b,f1,f2,f3⟩|⟨f0,⟨iK,f1,f2⟩|⟨au,f1,P,ab⟩|⟨f1,A,au,m,f2,f3⟩⟩
   .rw[<-q,dK]at f1;cases f1;exact t.bT f2
   .rw[<-q,dK]at f1;simp[h7,e3]at f1;rw[<-f1,t.da]at f2;omega
   .rw[<-q,dK]at f1;cases f1;rcases Nat.lt_or_gt_of_ne Y with g|g
    .have:=wX K.aI (show w+1<=r from g);grind
    have:=wX K.aI (show r+1<=w from g);grind
   rw[<-q,dK]at f2;cases f2;exact(t.bC r E _ _ m f3).2.1 a
  rcases aY with⟨b,f1,f2,f3⟩|⟨f0,⟨iK,f1,f2⟩|⟨au,f1,P,ab⟩|⟨f1,ag,au,ai,f2,f3⟩⟩
  .rw[<-q,e4]at f1;cases f1;exact(t.bC w x A i m jK).2.2.1 f2
  .rw[<-q,e4]at f1;simp[h7,e3]at f1;rw[<-f1,(t.bC w x A i m jK).1]at f2;omega
  .rw[<-q,e4]at f1;cases f1;exact(t.bC w x _ _ m jK).2.1 a
  grind
 .have I:touchAt o e=f d:=FH;exact(t.old e d bp I O).imp (·.app bz) id
 .have I:touchAt o e=f d:=FH;exact(t.ec w x e d bp I O).imp (·.app bz) id
 .have I:touchAt o e=f d:=FH;exact t.eH e d F bp I C
 .rcases X j with⟨g,p⟩|⟨_,p,k,z,aM⟩
  .rw[od g];exact t.new e d bp p O
  grind
 rcases X j with⟨g,p⟩|⟨_,p,_⟩
 .rw[od g]at J;exact(t.ej w x e d bp p J T F i m R M).app bz
 grind
def fF.mute(b:fF K O aj o u bS){C}(z:∀h∈bz,h.g=C)(k:∀h∈bz,h.act.low bS)(t:∀h∈bz,h.act.touch?=n):fF K O aj (o++bz) u bS:=by
 have old:∀{d:Nat} {e:Touch},touchAt (o++bz) d=f e->d<o.size/\touchAt o d=f e:=by intro d e g;obtain⟨E,D,B⟩:=touch_of g;grind[touchAt_of]
 refine⟨b.base,b.db,b.da,b.bT,b.dV,b.eA,b.ez,b.bC,b.fq,λsaid=>noRace_append (b.ek said) z λd e _ h q j i _=>M,seen_app b.seen k,λd e a g O=>(b.old d e a (old g).2 O).imp (·.app bz) id,
  λp m d e a g O=>(b.ec p m d e a (old g).2 O).imp (·.app bz) id,λd e j a g i=>b.eH d e j a (old g).2 i,λd e a g O=>?_,λp m d e a g r w j x A s y=>?_,b.fI bz⟩
 .rw[od (old g).1];exact b.new d e a (old g).2 O
 rw[od (old g).1]at r;exact(b.ej p m d e a (old g).2 r w j x A s y).app bz
def fF.gg(h:fF K O aj o u bS){q r}(R:q.g=0/\q.act=.go (K.base+u))(E:r.g=K.base+u/\r.act=.start)(F:Deaf o 0=0)(z:Deaf o (K.base+u)=0)(V:∀e t x,aj u e t=f x->O e=0/\e≠K.af/\e≠K.f/\¬K.bx e):fF K O aj (o++#[q,r]) (u+1) bS:=by
 have y:∀g∈#[q,r],g.act.touch?=n:=by
  intro g a;simp[List.mem_toArray,e9,sn,or_false]at a;rcases a with rfl|rfl
  .exact hy
  exact hy
 have N:∀g∈#[q,r],g.act.low bS:=by
  intro g a;simp[List.mem_toArray,e9,sn,or_false]at a;rcases a with rfl|rfl
  .exact hy
  exact hy
 have old:∀{i:Nat} {k:Touch},touchAt (o++#[q,r]) i=f k->i<o.size/\touchAt o i=f k:=by intro i k m;obtain⟨p,D,T⟩:=touch_of m;grind[touchAt_of]
 have j:∀p,p<u+1->∀e t x,aj p e t=f x->O e=0/\e≠K.af/\e≠K.f/\¬K.bx e:=λp D e t x A=>by
  rcases dT p u with b|b
  .exact h.bC p b e t x A
  grind
 refine⟨h.base,h.db,h.da,h.bT,h.dV,h.eA,h.ez,j,h.fq,λsaid=>?_,seen_app h.seen N,λi k d m O=>(h.old i k d (old m).2 O).imp (·.app _) id,
  λp D i k d m O=>?_,λi k e d m s=>h.eH i k e d (old m).2 s,λi k d m O=>?_,λp D i k d m B S e t x Q A=>?_,h.fI _⟩
 .have I:o++#[q,r]=(o++#[q])++#[r]:=M;rw[I];refine noRace_append (g:=K.base+u) (noRace_append (g:=0) (h.ek said) (λg a=>by grind) (λi k _ g a e s _=>M)) (λg a=>by grind) (λi k _ g a e s _=>?_);grind
 .rcases dT p u with b|b
  .exact(h.ec p b i k d (old m).2 O).imp (·.app _) id
  obtain rfl:p=u:=w;exact(h.old i k d (old m).2 O).imp (fork_knows R E F z) id
 .rw[od (old m).1];rcases h.new i k d (old m).2 O with b|⟨p,b,J⟩
  .grind
  grind
 rw[od (old m).1]at B;rcases dT p u with b|b
 .exact(h.ej p b i k d (old m).2 B S e t x Q A).app _
 obtain rfl:p=u:=w;exact fork_knows R E F z (zA (old m).2 B)
def fF.jH(h:fF K O aj o u bS)(H:Deaf o 0=0)(z:NoRelease (stA K.f) o){bl}(F:o.act? bl=f (.mark (.acquire (stA K.f))))(C:o.g? bl=f 0)(E:o.heard bl)(J:∀d,d<u->∃j,RelBy (stA K.f) o (K.base+d) j/\j<bl):Past (jA λp=>K.bx p∨p=K.f) bS o:=by
 have B:∀d,d<u->∀a,o.g? a=f (K.base+d)->o.counts a->HappensBefore o a bl:=by
  intro d r a i m;obtain⟨j,s,R⟩:=J d r;have S:HappensBefore o j bl:=.single (.inr ⟨.marked R (.inr s.act) F (λU _ _=>z U),s.heard,E⟩);have L:a<=j:=Nat.le_of_not_lt λA=>s.after a A i m;rcases dT a j with A|G
  .exact .trans (.single (.inl ⟨A,_,i,s.g⟩)) S
  grind
 have V:∀{t:Go.Loc},jA K.bx t->jA (λp=>K.bx p∨p=K.f) t:=λ{t} q=>by cases t<;>first|exact .inl q|exact q
 refine⟨h.ek,λa g k O=>?_,λa T i N m=>?_,H,h.seen⟩
 .rcases dT a K.bO with b|b
  .exact(h.old a g b k O).imp id λ⟨e,w⟩=>⟨V e,w⟩
  rcases h.new a g b k O with⟨e,_⟩|⟨d,r,i,aY⟩
  .grind [zA]
  rcases aY with⟨Q,dK,e4,jK⟩|⟨bB,_⟩
  .exact .inr ⟨by rw[dK];exact .inr e4,jK⟩
  left;have m:o.counts a:=⟨g,k,O,.inl M⟩
  obtain⟨W,I,D⟩:=rb.1 C;exact⟨bl,W,I,D,.inr (B d r a i m)⟩
 rcases dT a K.bO with b|b
 .exact h.over a T b i N m
 obtain⟨g,k,O,x⟩:=m;rcases h.new a g b k O with⟨e,_⟩|⟨d,r,y,aY⟩
 .grind
 exact⟨bl,C,B d r a y ⟨g,k,O,x⟩⟩
def fF.start{K}{o}{bS}{m:Nat->Mem}(d:Past (jA K.bx) bS o)(aY:K.bO=o.size)(h:1<=K.base)(g:K.af≠K.f)(s:¬K.bx K.f)(q:¬K.bx K.af):fF K (λ_=>0) m o 0 bS:=
 ⟨h,rfl,rfl,g,s,q,λ_ _=>rfl,λb a=>absurd a (iH b),by omega,d.clean,d.seen,λe j _ i k=>d.known e j i k,λb a=>absurd a (iH b),λ_ _ _ _ _ _=>rfl,
  λe j r i _=>by
   obtain⟨b,a,_⟩:=touch_of i
   grind,λb a=>absurd a (iH b),λe p _ t g u=>d.over e p t g u⟩
end
end
section
open Go.Conc
open Go.ConcN (WD CTag Mode Vc Ssum pend phi cnt WgLive PayAt Has RW DWs WSit RelBy sumTo upd upd_same upd_ne AtR0 get_map_set get_map_set_same norel_of Deaf_still)
open Go.ConcR (KK WgAt stA smA rd wr mk Payload g_of_ofEvents)
def af.c8(P):af P:={b4:=v,rely:=cV,dj:=λ_ _ _=>False,bH:=id,dR:=True}
def af.aF(P)(d:al)(a:Nat):af P:={b4:=l,rely:=λe b=>cV e b/\(WgLive d a e.a->WgLive d a b.a),dj:=λ_ _ _=>False,bH:=λg=>g.1,dR:=False}
instance (P:aE):(af.c8 P).bX:=⟨B⟩
def eP:a6->a6->Array aO->Prop:=λ_ _ _=>False
def dP(b:Nat):a6->a6->Array aO->Prop:=λg e a=>e=g/\∃d:Addr,d.block=b/\(a=#[mk (.read d)]∨a=#[mk (.write d)])
def pQ:Nat->Go.Loc->Prop:=λ_ _=>False
variable [Payload]
structure R8(N E e6 h:Nat)(z:Nat->Y)(p bi:ar):Prop where
 tape:bi.tape=p.tape
 os:bi.os=p.os
 output:bi.output=p.output
 size:bi.heap.size=p.heap.size
 block:∀i,i≠N->bi.heap[i]?=p.heap[i]?
 bM:PayAt N E bi
 hA:∀r,(r<e6∨e6+h<=r)->bi.cell? ⟨N,r,n⟩=p.cell? ⟨N,r,n⟩
 new:∀e,e<h->bi.cell? ⟨N,e6+e,n⟩=f (z e)
section
variable (P:aE)(ty:al)(K:hH)(E:Nat)(val:Nat->Nat->Y)
def ua(a:Nat)(g:ai)(h:a6):Prop:=
 g.status=.running/\∀w1,cV h {h with a:=w1}->PayAt K.af E w1->WgLive ty K.f w1 ->
  ∃d w2 b,ao P v g w1=.go d w2 b/\R8 K.af E (K.aI*a) K.aI (val a) w1 w2/\(∀i∈b,∃e,i=⟨.cell ⟨K.af,e,n⟩,l,v⟩/\K.aI*a<=e/\e<K.aI*a+K.aI) /\
   ∃j,Goes P v (RW ty K.f K.af E 0 (K.aI*a)) Go.ConcR.DC0 (AtR0 P ty K.f K.af E 0 (K.aI*a+1) (val a 0)) j d w2
end
structure ht(aj:Nat->Nat)(a':Mem)(C:Nat)(b:a6):Prop where
 blk:∀i,(b.own i∨∃L∈b.t,i∈L.ak)->aj i=C/\i<b.a.heap.size
 D:∀i r aa,b.D i r=f aa->(aj i=C∨a' i r=f aa)/\i<b.a.heap.size
structure gv(K:hH)(aj:Nat->Nat)(R:Nat->Mem)(u:Nat)(b:a6):Prop where
 blk:∀i,(b.own i∨∃L∈b.t,i∈L.ak)->aj i=0/\i≠K.af/\i≠K.f/\¬K.bx i/\i<b.a.heap.size
 D:∀i r aa,b.D i r=f aa->aj i=0/\i≠K.af/\i≠K.f/\¬K.bx i/\i<b.a.heap.size
 bC:∀F,F<u->∀i r aa,R F i r=f aa->b.D i r=f aa
structure lB(K:hH)(aj:Nat->Nat)(a':Mem)(bF:Nat)(p bi:ar):Prop where
 size:p.heap.size<=bi.heap.size
 blk:∀i,i<p.heap.size->aj i=K.base+bF->bi.heap[i]?=p.heap[i]?
 cell:∀i r aa,a' i r=f aa->p.cell? ⟨i,r,n⟩=f aa->bi.cell? ⟨i,r,n⟩=f aa
 bM:∀r,K.aI*bF<=r->r<K.aI*bF+K.aI->bi.cell? ⟨K.af,r,n⟩=p.cell? ⟨K.af,r,n⟩
 os:bi.os=p.os
 tape:bi.tape=p.tape
 output:bi.output=p.output
omit [Payload]in
def lB.refl(K)(a:Nat->Nat)(d)(bF)(p):lB K a d bF p p:=⟨bC _,λ_ _ _=>rfl,λ_ _ _ _ b=>b,λ_ _ _=>rfl,rfl,rfl,rfl⟩
omit [Payload]in
def lB.at(K)(b:Nat->Nat)(e)(bF)(p)(a):lB K b e bF p (p.at a):=⟨bC _,λ_ _ _=>rfl,λ_ _ _ _ d=>d,λ_ _ _=>rfl,rfl,rfl,rfl⟩
structure q'(K:hH)(aj:Nat->Nat)(p bi:ar):Prop where
 size:p.heap.size<=bi.heap.size
 blk:∀i,i<p.heap.size->aj i=0->i≠K.af->i≠K.f->bi.heap[i]?=p.heap[i]?
 os:bi.os=p.os
 tape:bi.tape=p.tape
 output:bi.output=p.output
omit [Payload]in
def nd(a:bi.heap[i]?=p.heap[i]?)(r):bi.cell? ⟨i,r,n⟩=p.cell? ⟨i,r,n⟩:=by simp[aH,a]
omit [Payload]in
def cV.eF(e:cV b {b with a:=p})(q:p.heap.size<=bi.heap.size)(k:∀d,(b.own d∨∃L∈b.t,d∈L.ak)->bi.heap[d]?=p.heap[d]?)(a:∀d g h,b.D d g=f h->p.cell? ⟨d,g,n⟩=f h->bi.cell? ⟨d,g,n⟩=f h)(m:bi.os=p.os)(o:bi.tape=p.tape)(r:bi.output=p.output):cV b {b with a:=bi}:=
 ⟨rfl,rfl,rfl,fQ e.size q,λd i=>by show bi.heap[d]?=_;rw[k d i];exact e.a3 d i,λd g h j=>a d g h j (e.mem d g h j),m.trans e.os,o.trans e.tape,r.trans e.output⟩
section
variable {K:hH}{aj eu:Nat->Nat}{R:Nat->Mem}{bF:Nat}
omit [Payload]in
def ht.df(k:ht aj (R bF) (K.base+bF) b)(j:cV b {b with a:=p})(a:lB K aj (R bF) bF p bi):cV b {b with a:=bi}:=by
 have m:=j.size;refine j.eF a.size (λe q=>?_) (λe g o r i=>?_) a.os a.tape a.output
 .obtain⟨d,h⟩:=k.blk e q;exact a.blk e (eC h m) d
 obtain⟨d,h⟩:=k.D e g o r;rcases d with d|d
 .rw[nd (a.blk e (eC h m) d) g];exact i
 exact a.cell e g o d i
omit [Payload]in
def ht.eL{h}{C}(g:ht aj h C b)(q:b.a.heap.size<=p.heap.size)(o:∀a,a<p.heap.size->eu a=aj a):ht eu h C b:=
 ⟨λa i=>let ⟨d,e⟩:=g.blk a i;⟨by grind,e⟩,λa j m k=>let ⟨d,e⟩:=g.D a j m k;⟨by grind,e⟩⟩
omit [Payload]in
def gv.df(j:gv K aj R u b)(i:cV b {b with a:=p})(a:q' K aj p bi):cV b {b with a:=bi}:=by
 have m:=i.size;refine i.eF a.size (λe q=>?_) (λe k s r o=>?_) a.os a.tape a.output
 .obtain⟨d,g,h,H,y⟩:=j.blk e q;exact a.blk e (eC y m) d g h
 obtain⟨d,g,h,H,y⟩:=j.D e k s r;rw[nd (a.blk e (eC y m) d g h) k];exact o
omit [Payload]in
def gv.eL(e:gv K aj R u b)(q:b.a.heap.size<=p.heap.size)(o:∀a,a<p.heap.size->eu a=aj a):gv K eu R u b:=
 ⟨λa i=>let ⟨d,g,h,H,y⟩:=e.blk a i;⟨by grind,g,h,H,y⟩,
  λa j m k=>let ⟨d,g,h,H,y⟩:=e.D a j m k;⟨by grind,g,h,H,y⟩,e.bC⟩
omit [Payload]in
def ht.rely{i}{C}(h:ht aj i C b)(g:b.a.heap.size<=p.heap.size):ht aj i C {b with a:=p}:=
 ⟨λa j=>let ⟨d,e⟩:=h.blk a j;⟨d,eC e g⟩,λa k o m=>let ⟨d,e⟩:=h.D a k o m;⟨d,eC e g⟩⟩
omit [Payload]in
def gv.rely(e:gv K aj R u b)(i:b.a.heap.size<=p.heap.size):gv K aj R u {b with a:=p}:=
 ⟨λa j=>let ⟨d,g,h,H,y⟩:=e.blk a j;⟨d,g,h,H,eC y i⟩,λa k o m=>let ⟨d,g,h,H,y⟩:=e.D a k o m;⟨d,g,h,H,eC y i⟩,e.bC⟩
omit [Payload]in
theorem ht.aP{e}{C}(a:ht aj e C b)(h:e2 b aA):ht aj e C aA:=by
 refine⟨λi s=>by rw[h.a];exact a.blk i (h.blk i s),λi g j bl=>?_⟩;rw[h.a];by_cases s:∃L∈b.t,i∈L.ak
 .obtain⟨d,k⟩:=a.blk i (.inr s);grind
 exact a.D i g j RA
omit [Payload]in
def ht.b0{h}{C}(e:ht aj h C b)(a:nR b aA):ht aj h C aA:=
 ⟨λd j=>by rw[a.a];exact e.blk d (by rw[<-a.own,<-a.t];exact j),λd g i k=>by rw[a.a];exact e.D d g i (a.e6 d g i k)⟩
omit [Payload]in
theorem gv.aP(a:gv K aj R u b)(h:e2 b aA):gv K aj R u aA:=by
 refine⟨λi s=>by rw[h.a];exact a.blk i (h.blk i s),λi d e bl=>?_,λj g i d e bl=>h.mem _ _ _ (a.bC j g i d e bl)⟩;rw[h.a];by_cases s:∃L∈b.t,i∈L.ak
 .exact a.blk i (.inr s)
 exact a.D i d e RA
def lU(d:Nat->Nat)(b e:Nat):Nat->Nat:=λa=>if a<b then d a else e
omit [Payload]in
theorem lf{b:Nat->Nat}{a C}(d:i<a):lU b a C i=b i:=by simp[lU,d]
omit [Payload]in
theorem C4{b:Nat->Nat}{a C}(d:a<=i):lU b a C i=C:=by simp[lU,p3.2 d]
omit [Payload]in
def ht.step{m}{C}(h:ht aj m C b)(G:bc ap aA)(e:cN k b ap aA):ht (lU aj b.a.heap.size C) m C aA:=by
 refine⟨λa d=>?_,λa q s j=>?_⟩
 .rcases d with d|⟨L,W,d⟩
  .rw[e.own]at d;obtain⟨g,r⟩:=h.blk a (.inl d);exact⟨by grind[lf],eC r e.size⟩
  have i:=G.lt L W a d;rcases e.bR L W a d with g|⟨p,o,g⟩
  .grind [C4]
  obtain⟨k1,aM⟩:=h.blk a (.inr ⟨p,o,g⟩);grind[lf]
 have i:=gw.lt G.mem j;rcases dT a b.a.heap.size with g|g
 .rw[lf g];by_cases d:∃L∈b.t,a∈L.ak
  .exact⟨.inl (h.blk a (.inr d)).1,i⟩
  rw[e.bz a g (λL W t=>d ⟨L,W,t⟩)]at j;exact⟨(h.D a q s j).1,i⟩
 grind[C4]
omit [Payload]in
def gv.step(h:gv K aj R u b)(G:bc ap aA)(d:cN k b ap aA)(B:K.f<b.a.heap.size)(z:K.af<b.a.heap.size)(A:∀a,K.bx a->a<b.a.heap.size):gv K (lU aj b.a.heap.size 0) R u aA:=by
 have F:∀a,b.a.heap.size<=a->a<aA.a.heap.size->lU aj b.a.heap.size 0 a=0/\a≠K.af/\a≠K.f/\¬K.bx a/\a<aA.a.heap.size:=λa g m=>
  ⟨C4 g,by omega,by omega,λI=>by grind,m⟩
 refine⟨λa e=>?_,λa j o i=>?_,λD w a j o i=>d.mem _ _ _ (h.bC D w a j o i)⟩
 .rcases e with e|⟨L,W,e⟩
  .rw[d.own]at e;obtain⟨g,m,C,H,y⟩:=h.blk a (.inl e);exact⟨by grind[lf],m,C,H,eC y d.size⟩
  have s:=G.lt L W a e;rcases d.bR L W a e with g|⟨x,t,g⟩
  .grind
  obtain⟨k1,aM,p,r,q⟩:=h.blk a (.inr ⟨x,t,g⟩);grind[lf]
 have s:=gw.lt G.mem i;rcases dT a b.a.heap.size with g|g
 .by_cases e:∃L∈b.t,a∈L.ak
  .obtain⟨k1,aM,p,r,q⟩:=h.blk a (.inr e);grind[lf]
  rw[d.bz a g (λL W E=>e ⟨L,W,E⟩)]at i;obtain⟨k1,aM,p,r,q⟩:=h.D a j o i;grind[lf]
 grind
end
end
section
open Go.Conc
open Go.ConcN (WD CTag Mode Vc Ssum pend phi cnt WgLive PayAt Has RW DWs WSit RelBy sumTo upd upd_same upd_ne AtR0 get_map_set get_map_set_same norel_of Deaf_still)
open Go.ConcR (KK WgAt stA smA rd wr mk Payload g_of_ofEvents)
variable [Payload]
section
variable (P:aE)(ty:al)(K:hH)(E:Nat)(val:Nat->Nat->Y)(d:Nat->Nat)(s:Nat->Mem)
inductive hI (F:Nat):Nat->Nat->cq->Nat->ai->ar->Prop
 |c9 {a':cq} {C:ai} {b:a6} {p:ar}:gI (af.c8 P) eP (ua P ty K E val F) a' C b->cV b {b with a:=p}->ht d (s F) (K.base+F) b->hI F 1 7 a' 0 C p
 |rel {A:Nat} {C:ai} {p:ar}:Goes P v (RW ty K.f K.af E 0 (K.aI*F)) Go.ConcR.DC0 (AtR0 P ty K.f K.af E 0 (K.aI*F+1) (val F 0)) A C p->hI F 0 7 (cq.dG A) 0 C p
 |tail {b9 A O:Nat} {C:ai} {p:ar}:b9<=6->WSit P ty K.f K.af E pQ pQ 0 (K.aI*F+1) (val F 0) b9 A O C p->hI F 0 b9 (cq.dG A) O C p
structure ih(u:Nat)(gs:Array ai)(p:ar)(o:Trace)(y:Nat->WD)(R:Nat->Nat)(au:Nat->cq)(d0:Nat):Prop where
 size:gs.size=K.base+u
 dn:∀e C,0<e->e<K.base->gs[e]?=f C->∃A,au e=cq.dG A/\QuitsD P A (Deaf o e) C
 above:∀e,K.base+u<=e->Deaf o e=0
 c6:∀F,F<u->∃C,gs[K.base+F]?=f C/\hI P ty K E val d s F (R F) (y F).stage (au (K.base+F)) (y F).deaf C p
 bn:fF K d s o u p.heap.size
 dU:m5 o
 dy:Deaf o 0=d0
 dz:∀F,F<u->Deaf o (K.base+F)=(y F).deaf
 rel:∀F,F<u->(y F).stage<=6->∃a',RelBy (stA K.f) o (K.base+F) a'
 dk:∀F,F<u->R F=0->∀e,1<=e->e<K.aI->p.cell? ⟨K.af,K.aI*F+e,n⟩=f (val F e)
 dQ:∀F,F<u->(y F).stage<=6->Has K.af (K.aI*F) (val F 0) p
 bM:PayAt K.af E p
 cY:WgLive ty K.f p
 cj:K.f<p.heap.size
 cx:K.af<p.heap.size
 dm:∀i,K.bx i->i<p.heap.size
 aI:0<K.aI
 dD:∀bF,bF<u->∀i r aa,s bF i r=f aa->i<p.heap.size
end
section
variable {P:aE}{ty:al}{K:hH}{E:Nat}{val:Nat->Nat->Y}{d eu:Nat->Nat}{s:Nat->Mem}{F:Nat}{o:Trace}{y:Nat->WD}{R:Nat->Nat}{au:Nat->cq}{d0:Nat}
def RW.df(i:lB K d (s F) F p bi)(b:WgLive ty K.f bi)(e:PayAt K.af E bi)(h:0<K.aI):RW ty K.f K.af E 0 (K.aI*F+1-1) p bi:=
 ⟨λg a=>absurd a (iH g),λ_=>b,λ_=>e,i.bM _ (bC _) M⟩
def hI.df{o b9 q}{t}{C}(u:hI P ty K E val d s F o b9 t q C p)(m:lB K d (s F) F p bi)(h:WgLive ty K.f bi)(r:PayAt K.af E bi)(g:0<K.aI)(k:∀i,i<p.heap.size->eu i=d i):
  hI P ty K E val eu s F o b9 t q C bi:=by
 cases u with
 |c9 a b e=>exact .c9 a (e.df b m) (e.eL b.size k)
 |rel a=>exact .rel (Goes.rely (λ_ _ _ a b=>a.trans b) a (RW.df m h r g))
 |tail j a=>exact .tail j (a.rely (RW.df m h r g))
omit [Payload]in
def gI.run{i:af P}{h:a6->a6->Array aO->Prop}{e:ai->a6->Prop}(g:∀b d,e b d->b.status=.running):∀{a':cq}{b:ai}{d:a6},gI i h e a' b d->b.status=.running
 |.leaf,_,_,a=>g _ _ a
 |.node j,b,d,a=>by
  rcases a with a|⟨k,_,a⟩|⟨a,_⟩
  .grind
  .exact gI.run g (a':=j d) a
  grind
def hI.status{e b9 g}{h}{C}(b:hI P ty K E val d s F e b9 h g C p):C.status=.running∨C.status=.finished:=by
 cases b with
 |c9 a _ _=>exact .inl (a.run λC i b=>b.1)
 |rel a=>exact .inl (Goes.running (λ_ _ F=>F.1) p (Go.ConcN.RW.refl p) a)
 |tail _ a=>exact a.status
def hI.woken{a b9 b}{h}{C}(g:hI P ty K E val d s F a b9 h b C p)(i e)(bi):woken P i e bi C=C:=by
 unfold Go.Conc.woken;split
 .exact again_running _ g.status
 simp
def ih.at(a:ih P ty K E val d s u gs p o y R au d0)(e):ih P ty K E val d s u gs (p.at e) o y R au d0:=
 ⟨a.size,a.dn,a.above,λg b=>let ⟨C,c5,dE⟩:=a.c6 g b;⟨C,c5,dE.df (.at ..) a.cY a.bM a.aI λ_ _=>rfl⟩,a.bn,a.dU,a.dy,a.dz,a.rel,a.dk,a.dQ,a.bM,a.cY,a.cj,a.cx,a.dm,a.aI,a.dD⟩
def ih.aU(t:ih P ty K E val d s u gs p o y R au d0)(U:F<u){m}{fn}{pos}{V}{z k A}{N}(J:∀q,q<p.heap.size->eu q=d q)(O:p.heap.size<=bi.heap.size)(Y:∀b,b<u->b≠F->lB K d (s b) b p bi)(az:hI P ty K E val eu s F z k N A m bi)(aw:∀g∈V,(aK g).low bi.heap.size)(aA:∀g∈V,∀D,(aK g).touch?=f D->D.loc.isMemory=l->nW K eu (s F) F D)(ai:∀g∈V,∀D,g.loc≠.mark (.release D))(L:deafBehind (y F).deaf V=A)(ax:k<=6->∃Z,RelBy (stA K.f) (o++MemOp.ofEvents (K.base+F) fn pos V) (K.base+F) Z)(ao:z=0->∀e,1<=e->e<K.aI->bi.cell? ⟨K.af,K.aI*F+e,n⟩=f (val F e))(an:k<=6->Has K.af (K.aI*F) (val F 0) bi)(G:PayAt K.af E bi)(ag:WgLive ty K.f bi):
  ih P ty K E val eu s u ((gs.map (woken P C m bi)).setIfInBounds (K.base+F) m) bi (o++MemOp.ofEvents (K.base+F) fn pos V) (upd y F ⟨k,0,A⟩) (upd R F z) (upd au (K.base+F) N) d0:=by
 have I:=t.bn.base;have Q:∀b,b≠F->K.base+F≠K.base+b:=λb i g=>i w;have al:∀e r,0<e->e<K.base->((gs.map (Go.Conc.woken P C m bi)).setIfInBounds (K.base+F) m)[e]?=f r->gs[e]?=f r:=by intro e r bp j h;rw[get_map_set _ _ _ _ w]at h;obtain⟨av,W,rfl⟩:=rb.1 h;obtain⟨af,_,ar⟩:=t.dn e av bp j W;grind[woken_quitsD]
 refine⟨by simp[t.size],λe r bp j h=>?_,λe bp=>?_,λb i=>?_,?_,t.dU.app ai,by rw[Deaf_other o w _ g_of_ofEvents,t.dy],λb i=>?_,λb i B=>?_,λb i S e ah aj=>?_,λb i B=>?_,G,ag,eC t.cj O,eC t.cx O,λq I=>eC (t.dm q I) O,t.aI,λb i q X aa aM=>eC (t.dD b i q X aa aM) O⟩
 .obtain⟨af,ab,ae⟩:=t.dn e r bp j (al e r bp j h);refine⟨af,by rw[upd_ne au _ w];omega,?_⟩;rw[Deaf_other o w _ g_of_ofEvents];omega
 .exact OB
 .by_cases g:b=F
  .subst g;exact⟨m,get_map_set_same _ _ _ (by rw[t.size];omega),by rw[upd_same,upd_same,upd_same];omega⟩
  obtain⟨r,h,H⟩:=t.c6 b i;refine⟨r,by rw[get_map_set _ _ _ _ (Q b g),h,lE,H.woken],?_⟩;rw[upd_ne R _ g,upd_ne y _ g,upd_ne au _ (Q b g).symm];exact H.df (Y b i g) ag G t.aI J
 .refine(t.bn.eL J O t.cj t.cx t.dm λb i q X aa aM=>?_).h8 U (λM x=>by grind[Go.Conc.mem_ofEvents]) (λM x=>?_) (λM x D S a=>?_)
  .exact t.dD b i q X aa aM
  .exact Fh
  grind[Go.Conc.mem_ofEvents]
 .by_cases g:b=F
  .subst g;rw[Deaf_own,t.dz b i,upd_same];omega
  rw[Deaf_other o (Q b g) _ g_of_ofEvents,t.dz b i,upd_ne y _ g]
 .by_cases g:b=F
  .subst g;rw[upd_same]at B;grind
  rw[upd_ne y _ g]at B;obtain⟨Z,T⟩:=t.rel b i B;exact⟨Z,T.appOther g_of_ofEvents (Q b g)⟩
 .by_cases g:b=F
  .subst g;rw[upd_same]at S;grind
  rw[upd_ne R _ g]at S;rw[(Y b i g).bM _ w w];exact t.dk b i S e ah aj
 by_cases g:b=F
 .subst g;rw[upd_same]at B;grind
 rw[upd_ne y _ g]at B;have:=t.dQ b i B;have aq:=t.aI;simp only[Has]at this⊢;rw[(Y b i g).bM _ w w];omega
def ih.hY(t:ih P ty K E val d s u gs p o y R au d0){hr}{fn}{pos}{V}(x:∀k,k<p.heap.size->eu k=d k)(A:p.heap.size<=bi.heap.size)(I:∀b,b<u->lB K d (s b) b p bi)(ae:∀m∈V,(aK m).low bi.heap.size)(a:∀m∈V,∀i,(aK m).touch?=f i->i.loc.isMemory=l->oU K eu i)(af:∀m∈V,∀i,(aK m).touch?=f i->i.kind=.plain->i.write=l->∀Q,Q<u->∀k B J,i.loc=.cell ⟨k,B,n⟩->s Q k B≠f J)(H:∀m∈V,∀i,m.loc≠.mark (.release i))(O:PayAt K.af E bi)(N:WgLive ty K.f bi):
  ih P ty K E val eu s u ((gs.map (woken P C hr bi)).setIfInBounds 0 hr) bi (o++MemOp.ofEvents 0 fn pos V) y R au (deafBehind d0 V):=by
 have r:=t.bn.base;have Y:=t.aI;refine⟨by simp[t.size],λe aM bp z h=>?_,λe bp=>?_,λb g=>?_,?_,t.dU.app H,by rw[Deaf_own,t.dy],λb g=>by rw[Deaf_other o w _ g_of_ofEvents,t.dz b g],λb g D=>?_,λb g F e G S=>?_,λb g D=>?_,O,N,eC t.cj A,eC t.cx A,λk r=>eC (t.dm k r) A,t.aI,λb g k B J X=>eC (t.dD b g k B J X) A⟩
 .rw[get_map_set _ _ _ _ w]at h;obtain⟨ab,U,rfl⟩:=rb.1 h;obtain⟨Z,T,L⟩:=t.dn e ab bp z U;exact⟨Z,T,by rw[woken_quitsD L,Deaf_other o w _ g_of_ofEvents];omega⟩
 .exact OB
 .obtain⟨aM,h,M⟩:=t.c6 b g;exact⟨aM,by rw[get_map_set _ _ _ _ w,h,lE,M.woken],M.df (I b g) N O t.aI x⟩
 .refine(t.bn.eL x A t.cj t.cx t.dm t.dD).app0 (λq j=>by grind[Go.Conc.mem_ofEvents]) (λq j=>Fh) (λq j i F ag=>Fh) (λq j i F=>?_);grind[Go.Conc.mem_ofEvents]
 .obtain⟨aa,W⟩:=t.rel b g D;exact⟨aa,W.appOther g_of_ofEvents w⟩
 .rw[(I b g).bM _ w w];exact t.dk b g F e G S
 have:=t.dQ b g D;simp only[Has]at this⊢;rw[(I b g).bM _ w w];omega
def ih.bs(b:ih P ty K E val d s u gs p o y R au d0)(S:0<e)(N:e<K.base){i}{fn}{pos}{V}(U:∀g∈V,g.mute=l)(I:QuitsD P A (deafBehind (Deaf o e) V) i):
  ih P ty K E val d s u ((gs.map (woken P C i p)).setIfInBounds e i) p (o++MemOp.ofEvents e fn pos V) y R (upd au e (cq.dG A)) d0:=by
 have Q:=b.bn.base;have T:∀g∈V,∀z,g.loc≠.mark (.release z):=λg D z=>KI (U g D) z;refine⟨by simp[b.size],λx B j m a=>?_,λx j=>?_,λt k=>?_,?_,b.dU.app T,by rw[Deaf_other o w _ g_of_ofEvents,b.dy],λt k=>by rw[Deaf_other o w _ g_of_ofEvents,b.dz t k],λt k O=>?_,b.dk,b.dQ,b.bM,b.cY,b.cj,b.cx,b.dm,b.aI,b.dD⟩
 .by_cases g:x=e
  .subst g;rw[get_map_set_same _ _ _ M]at a;cases a;exact⟨A,by rw[upd_same],by grind[Deaf_own]⟩
  rw[get_map_set _ _ _ _ (oZ g)]at a;obtain⟨Y,J,rfl⟩:=rb.1 a;obtain⟨H,G,X⟩:=b.dn x Y j m J;exact⟨H,by rw[upd_ne au _ g];omega,by rw[woken_quitsD X,Deaf_other o (oZ g) _ g_of_ofEvents];omega⟩
 .rw[Deaf_other o w _ g_of_ofEvents];exact b.above x j
 .obtain⟨B,a,r⟩:=b.c6 t k;exact⟨B,by rw[get_map_set _ _ _ _ w,a,lE,r.woken],by rw[upd_ne au _ w];omega⟩
 .exact b.bn.mute (C:=e) (λq h=>by grind[Go.Conc.mem_ofEvents]) (λq h=>by grind[Go.Conc.mem_ofEvents,low_mute]) (λq h=>by grind[Go.Conc.mem_ofEvents,touch_mute])
 obtain⟨W,F⟩:=b.rel t k O;exact⟨W,F.appOther g_of_ofEvents w⟩
def ih.spawn(e:ih P ty K E val d s u gs p o y R au 0){fO rq}{F bF}{J}(aM:F.g=0/\F.act=.go (K.base+u))(G:bF.g=K.base+u/\bF.act=.start)(V:∀i B D,s u i B=f D->d i=0/\i≠K.af/\i≠K.f/\¬K.bx i/\i<p.heap.size)(W:gI (af.c8 P) eP (ua P ty K E val u) J rq b)(N:cV b {b with a:=p})(U:ht d (s u) (K.base+u) b):
  ih P ty K E val d s (u+1) ((gs.setIfInBounds 0 fO).push rq) p (o++#[F,bF]) (upd y u ⟨7,0,0⟩) (upd R u 1) (upd au (K.base+u) J) 0:=by
 have X:=e.bn.base;have L:∀h∈#[F,bF],h=F∨h=bF:=M;have I:∀h∈#[F,bF],h.act≠.mark .disable/\h.act≠.mark .enable:=M;have Y:∀j,0<j->j<K.base+u->((gs.setIfInBounds 0 fO).push rq)[j]?=gs[j]?:=λj k a=>by rw[Array.getElem?_push_lt (by simp[e.size];omega),<-iF,sw w]
 refine⟨by simp[e.size];omega,λj Q k z t=>?_,λj k=>?_,λg C=>?_,e.bn.gg aM G e.dy (e.above _ (bC _)) λi B D S=>let ⟨q,r,bB,H,_⟩:=V i B D S;⟨q,r,bB,H⟩,λO=>(e.dU O).app λh A=>?_,by rw[Deaf_still o 0 _ I,e.dy],λg C=>?_,λg C m=>?_,λg C T=>?_,λg C m=>?_,e.bM,e.cY,e.cj,e.cx,e.dm,e.aI,λg C i B D S=>?_⟩
 .rw[Y j k w]at t;obtain⟨Z,q,r⟩:=e.dn j Q k z t;exact⟨Z,by rw[upd_ne au _ w];exact q,by rw[Deaf_still o _ _ I];exact r⟩
 .rw[Deaf_still o _ _ I];exact e.above j w
 .rcases dT g u with a|x
  .obtain⟨Q,t,aa⟩:=e.c6 g a;exact⟨Q,by grind,by rw[upd_ne y _ w,upd_ne R _ w,upd_ne au _ w];omega⟩
  obtain rfl:g=u:=w;refine⟨rq,?_,by rw[upd_same,upd_same,upd_same];exact .c9 W N U⟩;rw[show K.base+g=(gs.setIfInBounds 0 fO).size by simp[e.size],Array.getElem?_push_size]
 .grind
 .rw[Deaf_still o _ _ I];rcases dT g u with a|x
  .rw[e.dz g a,upd_ne y _ w]
  obtain rfl:g=u:=w;rw[upd_same];exact e.above _ (bC _)
 .rcases dT g u with a|x
  .rw[upd_ne y _ w]at m;obtain⟨J,N⟩:=e.rel g a m;refine⟨J,N.appNot λh A=>?_⟩;grind
  obtain rfl:g=u:=w;rw[upd_same]at m;grind
 .rcases dT g u with a|x
  .rw[upd_ne R _ w]at T;exact e.dk g a T
  obtain rfl:g=u:=w;rw[upd_same]at T;grind
 .rcases dT g u with a|x
  .rw[upd_ne y _ w]at m;exact e.dQ g a m
  obtain rfl:g=u:=w;rw[upd_same]at m;grind
 rcases dT g u with a|x
 .exact e.dD g a i B D S
 grind
end
end
section
open Go.Conc
open Go.ConcN (WD CTag Mode Vc Ssum pend phi cnt WgLive PayAt Has RW DWs WSit RelBy sumTo upd upd_same upd_ne AtR0)
open Go.ConcR (KK WgAt stA smA rd wr mk Payload g_of_ofEvents again_blocked)
variable [Payload]
section
variable (P:aE)(ty:al)(K:hH)(E:Nat)(val:Nat->Nat->Y)(j:Nat)(ac d:ai->a6->Prop)
def Ad(d:ai)(g:a6):Prop:=d.status=.running/\∃a,(∀e,ao P l d e=.go a e #[mk (.acquire (stA K.f))])/\∀b,(af.aF P ty K.f).rely g b->ac a b
def wH(d:ai)(g:a6):Prop:=d.status=.running/\∃a,(∀e,ao P l d e=.go a e #[mk .enable])/\∀b,(af.aF P ty K.f).rely g b->(dt (af.aF P ty K.f) (dP K.f)) (Ad P ty K ac) a b
def Ai(d:ai)(e:a6):Prop:=d.status=.running/\∀a,(af.aF P ty K.f).rely e a->WgAt ty K.f a.a 0 0->∃b,ao P l d a.a=.go b a.a #[rd (stA K.f)]/\(dt (af.aF P ty K.f) (dP K.f)) (wH P ty K ac) b a
def oO(b:ai)(g:a6):Prop:=b.status=.running/\b.offers=n/\∀a,(af.aF P ty K.f).rely g a ->
 ((∃e,WgAt ty K.f a.a e 0)->ao P l b a.a=.go {b with status:=.blocked} a.a #[]) /\
 (WgAt ty K.f a.a 0 1->∃d,ao P l b a.a=.go d (a.a.setCell (smA K.f) (.int .u32 0)) (semEvents (smA K.f))/\(dt (af.aF P ty K.f) (dP K.f)) (Ai P ty K ac) d {a with a:=a.a.setCell (smA K.f) (.int .u32 0)})
def Ah(z:Nat)(g:ai)(h:a6):Prop:=g.status=.running/\∀b,(af.aF P ty K.f).rely h b->∀e:Nat,e<2147483648->WgAt ty K.f b.a (e*KK) 0 ->
 (e=z->∃a,ao P l g b.a=.go a (b.a.setCell (stA K.f) (.int .u64 (e*KK+1))) #[rd (stA K.f),wr (stA K.f)]/\(dt (af.aF P ty K.f) (dP K.f)) (oO P ty K ac) a {b with a:=b.a.setCell (stA K.f) (.int .u64 (e*KK+1))}) /\
 (e≠z->∃a,ao P l g b.a=.go a b.a #[rd (stA K.f)]/\d a b)
def q5(g:ai)(h:a6):Prop:=g.status=.running/\∀b,(af.aF P ty K.f).rely h b->∀e:Nat,e<2147483648->WgAt ty K.f b.a (e*KK) 0 ->
 ∃a,ao P l g b.a=.go a b.a #[rd (stA K.f)]/\(e=0->(dt (af.aF P ty K.f) (dP K.f)) (wH P ty K ac) a b)/\(e≠0->(dt (af.aF P ty K.f) (dP K.f)) (Ah P ty K ac d e) a b)
def Ae(e:ai)(h:a6):Prop:=e.status=.running/\∃a,(∀g,ao P l e g=.go a g #[mk .disable])/\∀b,(af.aF P ty K.f).rely h b->d a b
def a6.dw(a:a6):a6:={t:=[],D:=a.D,a:=a.a,own:=λ_=>False}
def wG(g:Nat)(Next:ai->a6->Prop)(e:ai)(h:a6):Prop:=e.status=.running/\∀b,(af.aF P ty K.f).rely h b ->
 ∃d a,ao P l e b.a=.spawn d a b.a #[]/\a.status=.running/\dt (af.c8 P) eP (ua P ty K E val g) a b.dw/\Next d b
def Ag(g:Nat)(Next:ai->a6->Prop)(d:ai)(h:a6):Prop:=d.status=.running/\∃a,(∀e,ao P l d e=.go a e #[mk .enable])/\∀b,(af.aF P ty K.f).rely h b->(dt (af.aF P ty K.f) (dP K.f)) (wG P ty K E val g Next) a b
def Ac(g:Nat)(Next:ai->a6->Prop)(e:ai)(h:a6):Prop:=e.status=.running/\∀a,(af.aF P ty K.f).rely h a->∀d:Nat,d<2147483647->WgAt ty K.f a.a (d*KK) 0 ->
 ∃b,ao P l e a.a=.go b (a.a.setCell (stA K.f) (.int .u64 ((d+1)*KK))) #[rd (stA K.f),wr (stA K.f)]/\(dt (af.aF P ty K.f) (dP K.f)) (Ag P ty K E val g Next) b {a with a:=a.a.setCell (stA K.f) (.int .u64 ((d+1)*KK))}
def Af(g:Nat)(Next:ai->a6->Prop)(d:ai)(h:a6):Prop:=d.status=.running/\∃a,(∀e,ao P l d e=.go a e #[mk .disable])/\∀b,(af.aF P ty K.f).rely h b->(dt (af.aF P ty K.f) (dP K.f)) (Ac P ty K E val g Next) a b
def oT:Nat->ai->a6->Prop
 |0,a,b=>(dt (af.aF P ty K.f) (dP K.f)) (Ae P ty K d) a b
 |e+1,a,b=>(dt (af.aF P ty K.f) (dP K.f)) (Af P ty K E val (j-(e+1)) (oT e)) a b
def cq.eg:cq->cq
 |.leaf=>.node λ_=>.leaf
 |.node a=>.node λb=>cq.eg (a b)
omit [Payload]in
def cq.hf:∀{d b:cq},cq.lt d b->cq.lt d.eg b.eg
 |_,.leaf,a=>a.elim
 |_,.node _,⟨g,a⟩=>⟨g,a.elim (λe=>.inl (by rw[e])) λa=>.inr (cq.hf a)⟩
omit [Payload]in
def cq.jr(a:a6):∀d:cq,∃e,cq.lt e d.eg
 |.leaf=>⟨.leaf,a,.inl rfl⟩
 |.node b=>⟨(b a).eg,a,.inl rfl⟩
inductive hk:CTag->Nat->cq->Nat->ai->a6->Prop
 |fb {a':Nat} {c7:cq} {C:ai} {b:a6}:a'<j->(gI (af.aF P ty K.f) (dP K.f)) (Af P ty K E val (j-(a'+1)) (oT P ty K E val j d a')) c7 C b->hk (.sp a' 5) (j-(a'+1)) c7 0 C b
 |fM {a':Nat} {c7:cq} {C:ai} {b:a6}:a'<j->(gI (af.aF P ty K.f) (dP K.f)) (Ac P ty K E val (j-(a'+1)) (oT P ty K E val j d a')) c7 C b->hk (.sp a' 4) (j-(a'+1)) c7 1 C b
 |fO {a':Nat} {c7:cq} {C:ai} {b:a6}:a'<j->(gI (af.aF P ty K.f) (dP K.f)) (Ag P ty K E val (j-(a'+1)) (oT P ty K E val j d a')) c7 C b->hk (.sp a' 3) (j-(a'+1)) c7 1 C b
 |fN {a':Nat} {c7:cq} {C:ai} {b:a6}:a'<j->(gI (af.aF P ty K.f) (dP K.f)) (wG P ty K E val (j-(a'+1)) (oT P ty K E val j d a')) c7 C b->hk (.sp a' 2) (j-(a'+1)) c7 0 C b
 |kd {c7:cq} {C:ai} {b:a6}:(gI (af.aF P ty K.f) (dP K.f)) (Ae P ty K d) c7 C b->hk .kd j c7 0 C b
 |w1 {c7:cq} {C:ai} {b:a6}:(gI (af.aF P ty K.f) (dP K.f)) (q5 P ty K ac d) c7 C b->hk .w1 j c7 1 C b
 |w2 {z:Nat} {c7:cq} {C:ai} {b:a6}:(gI (af.aF P ty K.f) (dP K.f)) (Ah P ty K ac d z) c7 C b->hk (.w2 z) j c7 1 C b
 |w3 {c7:cq} {C:ai} {b:a6}:(gI (af.aF P ty K.f) (dP K.f)) (oO P ty K ac) c7 C b->hk .w3 j c7.eg 1 C b
 |blk {c7:cq} {C:ai} {b:a6}:oO P ty K ac C b->hk .blk j c7 1 {C with status:=.blocked} b
 |w4 {c7:cq} {C:ai} {b:a6}:(gI (af.aF P ty K.f) (dP K.f)) (Ai P ty K ac) c7 C b->hk .w4 j c7 1 C b
 |ke {c7:cq} {C:ai} {b:a6}:(gI (af.aF P ty K.f) (dP K.f)) (wH P ty K ac) c7 C b->hk .ke j c7 1 C b
 |acq {c7:cq} {C:ai} {b:a6}:(gI (af.aF P ty K.f) (dP K.f)) (Ad P ty K ac) c7 C b->hk .acq j c7 0 C b
structure wK(S:Nat->Nat)(r:Nat->Mem)(A:Machine)(o:Trace):Prop where
 hA:∃(gs:Array ai) (p:ar) (dB:Option (Nat×Nat)) (x:ai) (b:a6) (bl:Nat->Nat),A=crowd gs p dB/\gs[0]?=f x/\gs.size=K.base+j/\ac x {b with a:=p}/\cV b {b with a:=p}/\gv K S r j b /\
  Leavers P o gs bl/\Past (jA λi=>K.bx i∨i=K.f) p.heap.size o/\m5 o/\PayAt K.af E p/\(∀F,F<j->∀e,e<K.aI->p.cell? ⟨K.af,K.aI*F+e,n⟩=f (val F e))/\K.af<p.heap.size/\K.f<p.heap.size/\∀i,K.bx i->i<p.heap.size
abbrev pO:=Nat×((Nat->cq)×cq)
def kZ(a:Nat):pO->pO->Prop:=Prod.Lex (· < ·) (Prod.Lex (wN a) cq.lt)
omit [Payload]in
def ZR(bB):WellFounded (kZ bB):=(Prod.lex Nat.lt_wfRel ⟨_,(Prod.lex ⟨wN bB,Nu bB⟩ ⟨cq.lt,⟨cq.fo⟩⟩).wf⟩).wf
structure lz(μ:pO)(gs:Array ai)(p:ar)(o:Trace)(S:Nat->Nat)(r:Nat->Mem)(u:Nat)(y:Nat->WD)(R:Nat->Nat)(au:Nat->cq)(d0:Nat)(tag:CTag)(c7:cq)(x:ai)(b:a6)(b9 oE:Int):Prop where
 dv:gs[0]?=f x
 dx:hk P ty K E val j ac d tag u c7 d0 x b
 rely:cV b {b with a:=p}
 aF:gv K S r u b
 aw:ih P ty K E val S r u gs p o y R au d0
 bW:WgAt ty K.f p b9 oE
 mode:Go.ConcN.Mode u y tag b9 oE
 eG:μ=(phi j (Vc u y) tag+Ssum u y+sumTo u R,(au,c7))
def gX(o:pO)(q:Machine)(u:Trace):Prop:=
 ∃(a:Array ai) (i:ar) (dB:Option (Nat×Nat)) (s:Nat->Nat) (r:Nat->Mem) (p:Nat) (y:Nat->WD) (R:Nat->Nat) (k:Nat->cq) (b:Nat) (tag:CTag) (e:cq) (m:ai) (t:a6) (h g:Int),
  q=crowd a i dB/\lz P ty K E val j ac d o a i u s r p y R k b tag e m t h g
end
section
variable {P:aE}{ty:al}{K:hH}{E:Nat}{val:Nat->Nat->Y}{j:Nat}{ac d:ai->a6->Prop}{S eu:Nat->Nat}{r:Nat->Mem}{tag:CTag}{c7:cq}{O:Nat}{x:ai}
omit [Payload]in
def mE(d:cV b {b with a:=p})(a:WgLive ty K.f p):(af.aF P ty K.f).rely b {b with a:=p}:=⟨d,λ_=>a⟩
omit [Payload]in
def oO.rely{s}(a:oO P ty K ac C b)(g:(af.aF P ty K.f).rely b s):oO P ty K ac C s:=
 ⟨a.1,a.2.1,λd e=>a.2.2 d ⟨g.1.trans e.1,λh=>e.2 (g.2 h)⟩⟩
def hk.status(a:hk P ty K E val j ac d tag u c7 O x b):(x.status=.running/\tag≠.blk)∨(x.status=.blocked/\tag=.blk):=by
 cases a with
 |fb _ a=>exact .inl ⟨a.run λ_ _ e=>e.1,by simp⟩
 |fM _ a=>exact .inl ⟨a.run λ_ _ e=>e.1,by simp⟩
 |fO _ a=>exact .inl ⟨a.run λ_ _ e=>e.1,by simp⟩
 |fN _ a=>exact .inl ⟨a.run λ_ _ e=>e.1,by simp⟩
 |kd a=>exact .inl ⟨a.run λ_ _ e=>e.1,by simp⟩
 |w1 a=>exact .inl ⟨a.run λ_ _ e=>e.1,by simp⟩
 |w2 a=>exact .inl ⟨a.run λ_ _ e=>e.1,by simp⟩
 |w3 a=>exact .inl ⟨a.run λ_ _ e=>e.1,by simp⟩
 |blk a=>grind
 |w4 a=>exact .inl ⟨a.run λ_ _ e=>e.1,by simp⟩
 |ke a=>exact .inl ⟨a.run λ_ _ e=>e.1,by simp⟩
 |acq a=>exact .inl ⟨a.run λ_ _ e=>e.1,by simp⟩
def hk.h3(m:hk P ty K E val j ac d tag u c7 O x b)(C h)(bi):
  ∃a k,hk P ty K E val j ac d a u k O (woken P C h bi x) b/\(a=tag∨(tag=.blk/\a=.w3))/\(mayWake P C=l->h.status=.running->a≠.blk):=by
 unfold Go.Conc.woken;split
 .rcases m.status with⟨e,i⟩|⟨_,rfl⟩
  .grind [again_running]
  cases m with
  |blk g=>exact⟨.w3,cq.eg .leaf,by rw[again_blocked g.1 g.2.1];exact .w3 (show gI _ _ _ .leaf _ _ from g),.inr ⟨rfl,rfl⟩,λ_ _=>by simp⟩
 grind
def wd{W:pO}{dB:Option (Nat×Nat)}{aw:Trace}{y:Nat->WD}{R:Nat->Nat}{X:Nat->cq}{av au:Int}(q:lz P ty K E val j ac d W gs p aw S r u y R X O tag c7 x b av au){g:Nat}(Y:g<u){o:ai}{m:Array aO}{k h i:Nat}{A:cq}{ae G:Int}(an:gs[K.base+g]?=f C)(F:ao P v C p=.go o bi m)(I:∀af,af<p.heap.size->eu af=S af)(Q:p.heap.size<=bi.heap.size)(aF:∀ab,ab<u->ab≠g->lB K S (r ab) ab p bi)(aD:q' K S p bi)(aJ:hI P ty K E val eu r g k h A i o bi)(L:∀B∈m,(aK B).low bi.heap.size)(T:∀B∈m,∀x,(aK B).touch?=f x->x.loc.isMemory=l->nW K eu (r g) g x)(N:∀B∈m,∀x,B.loc≠.mark (.release x))(aE:deafBehind (y g).deaf m=i)(aM:h<=6->∃aS,RelBy (stA K.f) (aw++MemOp.ofEvents (K.base+g) C.frame.fn C.frame.place m) (K.base+g) aS)(al:k=0->∀Z,1<=Z->Z<K.aI->bi.cell? ⟨K.af,K.aI*g+Z,n⟩=f (val g Z))(aj:h<=6->Has K.af (K.aI*g) (val g 0) bi)(aH:PayAt K.af E bi)(ax:WgAt ty K.f bi ae G)(H:∀e,(e=tag∨(tag=.blk/\e=.w3))->(mayWake P C=l->o.status=.running->e≠.blk)->Go.ConcN.Mode u (upd y g ⟨h,0,i⟩) e ae G)(a:(h+k<(y g).stage+R g/\cnt ⟨h,0,i⟩<=cnt (y g))∨(h=(y g).stage/\k=R g/\cq.lt A (X (K.base+g))))(az:K.base+u<=K.base+j):
  ∃aC s z,runT P (crowd gs p dB) (K.base+g)=(.next aC,s)/\kZ (K.base+j) z W/\gX P ty K E val j ac d z aC (aw++s):=by
 have aR:=q.aw.bn.base;obtain⟨e,t,aI,aA,V⟩:=q.dx.h3 C o bi;have J:(K.base+g==0)=v:=M;have aG:=runT_crowd_go (P:=P) (sl:=dB) (i:=K.base+g) an (by rw[J];exact F)
 have aL:=Go.ConcN.sumTo_upd y (⟨h,0,i⟩:WD) cnt Y;have aN:=Go.ConcN.sumTo_upd y (⟨h,0,i⟩:WD) WD.stage Y;have aP:sumTo u (upd R g k)+R g=sumTo u R+k:=Go.ConcN.sumTo_upd R k id Y;refine⟨_,_,(phi j (Vc u (upd y g ⟨h,0,i⟩)) e+Ssum u (upd y g ⟨h,0,i⟩)+sumTo u (upd R g k),(upd X (K.base+g) A,t)),aG,?_,
  _,bi,dB,eu,r,u,_,_,_,O,e,t,woken P C o bi x,b,ae,G,rfl,⟨by rw[Go.ConcN.get_map_set _ _ _ _ w,q.dv];rfl,aI,q.aF.df q.rely aD,q.aF.eL q.rely.size I,
   q.aw.aU Y I Q aF aJ L T N aE aM al aj aH ⟨_,_,ax⟩,ax,H e aA V,rfl⟩⟩
 rw[q.eG,Go.ConcN.phi_retag j _ aA];simp only[Vc,Ssum]at *;rcases a with⟨ar,DU⟩|⟨ar,DU,tj⟩
 .refine Prod.Lex.left _ _ ?_;have:=Go.ConcN.phi_mono j (v':=sumTo u λx=>cnt (upd y g ⟨h,0,i⟩ x)) (v:=sumTo u λx=>cnt (y x)) w tag;omega
 have aQ:cnt (⟨h,0,i⟩:WD)=cnt (y g):=hy;have ah:(sumTo u λx=>cnt (upd y g ⟨h,0,i⟩ x))=sumTo u λx=>cnt (y x):=w;have D:(sumTo u λx=>(upd y g ⟨h,0,i⟩ x).stage)=sumTo u λx=>(y x).stage:=w;have ag:sumTo u (upd R g k)=sumTo u R:=w;rw[ah,D,ag];exact Prod.Lex.right _ (Prod.Lex.left _ _ ⟨K.base+g,by omega,by rw[upd_same];exact tj,λaT aq=>upd_ne X _ aq⟩)
end
end
section
open Go.Conc
open Go.ConcN (WD CTag Vc Ssum pend phi cnt WgLive PayAt Has RW DWs WSit RelBy sumTo upd upd_same upd_ne AtR0 isW3 isOpen OpenSt deafBehind_idle bk_cell okW_none Vc_upd Vc_le le_sumTo others_uncounted)
open Go.ConcR (KK WgAt stA smA rd wr mk Payload g_of_ofEvents Bk bk_of_mute ofEvent_loc_mark ofEvent_cell)
variable [Payload]
section
variable {K:hH}{ac G:ai->a6->Prop}{W eu:Nat->Nat}{md:Nat->Mem}{tag:CTag}{c7:cq}{O:Nat}{x:ai}
omit [Payload]in
def lB.bW(b:Aside K.f p bi)(k:W K.f=0)(o:1<=K.base)(g:∀a d h,md u a d=f h->a≠K.f)(e:K.af≠K.f):lB K W (md u) u p bi:=
 ⟨by rw[b.size];grind,λa _ i=>b.block a (λm=>by grind),λa d h H j=>by rw[nd (b.block a (g a d h H))];exact j,λd _ _=>nd (b.block _ e) d,b.os,b.tape,b.output⟩
omit [Payload]in
def q'.bW(a:Aside K.f p bi):q' K W p bi:=⟨by rw[a.size];grind,λb _ _ _ d=>a.block b d,a.os,a.tape,a.output⟩
omit [Payload]in
def q'.refl(p):q' K W p p:=⟨bC _,λ_ _ _ _ _=>rfl,rfl,rfl,rfl⟩
omit [Payload]in
def GM{d}{b:Array aO}(i:∀a∈b,Bk K.f a)(j:K.f<d):∀a∈b,(aK a).low d:=by
 intro a h;rcases i a h with g|g|⟨e,wr,rfl,k⟩
 .rw[ofEvent_loc_mark g];trivial
 .rw[ofEvent_loc_mark g];trivial
 rw[ofEvent_cell];show e.block<d;grind
omit [Payload]in
def SC{j}{e:Array aO}(o:∀d∈e,Bk K.f d):∀d∈e,∀g,(aK d).touch?=f g->g.loc.isMemory=l->nW K W (md j) j g:=by
 intro d m p b _;rcases o d m with i|i|⟨h,wr,rfl,k⟩
 .rw[ofEvent_loc_mark i]at b;cases b
 .rw[ofEvent_loc_mark i]at b;cases b
 rw[ofEvent_cell]at b;simp[MemAct.touch?,e3]at b;subst b;exact .inl ⟨h,a,k,a⟩
omit [Payload]in
def GN{b:Array aO}(h:∀a∈b,Bk K.f a):∀a∈b,∀d,a.loc≠.mark (.release d):=by
 intro a g d i;rcases h a g with j|j|⟨e,wr,rfl,_⟩
 .grind
 .grind
 grind
omit [Payload]in
def aej{m}{b5}{V}(u:ht W (md m) (K.base+m) b)(t:bc k b)(y:du b V)(q:cN k b ap b5):
  (∀e∈V,(aK e).low b5.a.heap.size)/\(∀e∈V,∀j,(aK e).touch?=f j->j.loc.isMemory=l->nW K (lU W b.a.heap.size (K.base+m)) (md m) m j) /\
  (∀e∈V,e.loc≠.mark .disable/\e.loc≠.mark .enable)/\∀e∈V,∀j,e.loc≠.mark (.release j):=by
 have key:∀e∈V,(aK e).low b5.a.heap.size/\(∀j,(aK e).touch?=f j->j.loc.isMemory=l->nW K (lU W b.a.heap.size (K.base+m)) (md m) m j)/\(e.loc≠.mark .disable/\e.loc≠.mark .enable)/\∀j,e.loc≠.mark (.release j):=by
  intro e A;have o:=y e A;obtain⟨loc,wr,C⟩:=e;cases loc with
  |cell g=>
   obtain⟨p,s,d⟩:=o;simp only at p s d;subst p;have r:g.block<b.a.heap.size:=by
    rcases d with d|⟨⟨L,aM,d⟩,_⟩|⟨_,x,d⟩
    .exact d.elim
    .exact t.lt L aM _ d
    exact gw.lt t.mem d
   refine⟨by rw[ofEvent_cell];exact eC r q.size,λi h _=>?_,⟨by simp,by simp⟩,by simp⟩;rw[ofEvent_cell]at h;simp[MemAct.touch?,e3]at h;subst h;refine .inr ⟨a,?_⟩;rcases d with d|⟨⟨L,aM,d⟩,_⟩|⟨z,x,d⟩
   .exact d.elim
   .exact .inl ⟨g.block,a,by rw[lf r];exact(u.blk _ (.inr ⟨L,aM,d⟩)).1⟩
   rcases(u.D _ _ _ d).1 with w|w
   .exact .inl ⟨g.block,a,by grind[lf]⟩
   refine .inr (.inr ⟨z,g.block,g.off,x,?_,w⟩);obtain⟨i,F,sp⟩:=g;grind
  |obj B=>
   obtain⟨p,s⟩:=o;simp only at p s;subst p;obtain⟨L,aM,d⟩:=s.resolve_left id;have r:=t.lt L aM _ d;refine⟨?_,λi h _=>?_,⟨by simp,by simp⟩,by simp⟩
   .simp[aK,MemAct.low,Loc.low];exact eC r q.size
   simp[aK,MemAct.touch?]at h;subst h;exact .inr ⟨a,.inl ⟨B,a,by rw[lf r];exact(u.blk _ (.inr ⟨L,aM,d⟩)).1⟩⟩
  |mark E=>
   simp[h4]at o;rcases o with rfl|⟨D,rfl⟩
   .exact QY
   exact QY
  |_=>exact o.elim
 grind
def acw{a8}{dB}{o}{y:Nat->WD}{R:Nat->Nat}{b5:Nat->cq}{b9 oE}(i:lz P ty K E val j ac G a8 gs p o W md u y R b5 O tag c7 x b b9 oE)(cw:j<2147483648)(cv:u<=j)(cb:u+pend tag<=j){h}(g':h<u)(a2:gs[K.base+h]?=f C)(a3:C.status=.running):
  ∃q J Q,runT P (crowd gs p dB) (K.base+h)=(.next q,J)/\kZ (K.base+j) Q a8/\gX P ty K E val j ac G Q q (o++J):=by
 have bb:=i.aw.bn.base;obtain⟨br,bP,a4⟩:=i.aw.c6 h g';obtain rfl:C=br:=M;generalize X:(y h).stage=aL at a4;generalize bj:b5 (K.base+h)=b3 at a4;generalize a1:(y h).deaf=az at a4;generalize aR:R h=cn at a4;have bg:Deaf o (K.base+h)=az:=by rw[i.aw.dz h g',a1]
 have b7:=Vc_le u y;have same:∀A r,Go.ConcN.Mode u (upd y h ⟨aL,A,r⟩) tag b9 oE:=λA r=>by have:=i.mode.same (i:=h) A r;grind
 cases a4 with
 |@c9 b3 C aV p bz aW bQ=>
  rcases bz.bb (λaV=>cV aV {aV with a:=p}/\ht W (md h) (K.base+h) aV) (λaV B aC aH=>⟨aH.1.aP aC,aH.2.aP aC⟩) (λ_ aV B aC aH=>⟨aH.1.b0 aC,aH.2.b0 aC⟩) ⟨aW,bQ⟩with⟨B,⟨k1,bO⟩,g⟩|⟨_,B,⟨k1,bO⟩,e⟩
  ·
   obtain⟨k,w2,V,d,ax,bh,bA,ae⟩:=g.2 p k1 i.aw.bM i.aw.cY;have b_:=i.aw.aI;refine wd i g' a2 d (eu:=W) (λ_ _=>rfl) (by rw[ax.size];grind) (λa' aS bn=>⟨by rw[ax.size];grind,λY _ aQ=>ax.block Y (λaw=>by rw[aw,i.aw.bn.da]at aQ;omega),λY aT al H bS=>?_,λaT bl bm=>ax.hA aT ?_,ax.os,ax.tape,ax.output⟩)
    ⟨by rw[ax.size];grind,λY _ _ aW _=>ax.block Y aW,ax.os,ax.tape,ax.output⟩ (.rel ae) (λaw s=>?_) (λaw s Y aQ _=>?_) (λaw s=>?_) ?_ (λt=>absurd t ca) (λ_ b2 _ aH=>ax.new b2 aH) (λt=>absurd t ca) ax.bM
    (i.bW.of_block (ax.block _ (oZ i.aw.bn.bT))) (λ_ ag _=>(same _ _).retag ag) (.inl ⟨by omega,by simp[cnt,X]⟩) w
   .rw[nd (ax.block Y (i.aw.bn.bC a' aS Y aT al H).2.1)];exact bS
   .rcases Nat.lt_or_gt_of_ne bn with t|t
    .have:=wX K.aI (show a'+1<=h from t);grind
    have:=wX K.aI (show h+1<=a' from t);grind
   .obtain⟨aT,rfl,_⟩:=bh aw s;rw[ofEvent_cell];show K.af<_;rw[ax.size];exact i.aw.cx
   .obtain⟨aT,rfl,bl,bm⟩:=bh aw s;rw[ofEvent_cell]at aQ;simp[MemAct.touch?,e3]at aQ;subst aQ;exact .inr ⟨a,.inr (.inl ⟨aT,a,bl,bm⟩)⟩
   .grind
   rw[a1];exact deafBehind_idle (λaw s=>by grind) 0
  ·
   obtain⟨k,b4,V,cy,d,bF,bL,bR⟩:=e _ k1;obtain⟨⟨cz,cj,cl,bk,F⟩,cg⟩:=bF.resolve_right id;have bx:ht W (md h) (K.base+h) {B with a:=p}:=bO.rely k1.size;obtain⟨aF,aG,bq,bV⟩:=aej bx cl cg F;have Z:∀Y,Y<p.heap.size->W Y≠K.base+h->b4.a.heap[Y]?=p.heap[Y]?:=λY aQ bJ=>F.a3 Y aQ λL aM bD=>bJ (bx.blk Y (.inr ⟨L,aM,bD⟩)).1;refine wd i g' a2 d (eu:=lU W p.heap.size (K.base+h)) (λY aQ=>lf aQ) F.size (λa' aS bn=>⟨F.size,λY aQ b8=>Z Y aQ w,λY aT al H bS=>?_,λaT _ _=>nd (Z _ i.aw.cx (by rw[i.aw.bn.da];omega)) aT,F.os,F.tape,F.output⟩)
    ⟨F.size,λY aQ cr _ _=>Z Y aQ w,F.os,F.tape,F.output⟩ (.c9 bL (cV.et bk.mem) (bx.step bk F)) aF aG bV (by rw[a1];exact deafBehind_idle bq 0) (λt=>absurd t ca) (λt=>absurd t ca) (λt=>absurd t ca) ?_
    (i.bW.of_block (Z _ i.aw.cj (by rw[i.aw.bn.db];omega))) (λ_ ag _=>(same _ _).retag ag) (.inr ⟨X.symm,aR.symm,by grind⟩) w
   .rw[nd (Z Y (i.aw.dD a' aS Y aT al H) (by rw[(i.aw.bn.bC a' aS Y aT al H).1];omega))];exact bS
   obtain⟨bp,bT,bU⟩:=i.aw.bM;exact⟨bp,(Z _ i.aw.cx (by rw[i.aw.bn.da];omega)).trans bT,bU⟩
 |@rel bA C p t=>
  rcases Goes.cases t with g|⟨A,rfl,e⟩
  ·
   obtain⟨_,bX,k,d,av,ae⟩:=g p (Go.ConcN.RW.refl p);refine wd i g' a2 d (eu:=W) (λ_ _=>rfl) (bC _) (λa' _ _=>.refl ..) (.refl p) (.tail ca (.k1 ae)) (λaw s=>?_) (λaw s Y aQ _=>?_) (λaw s=>?_) hy (λ_=>⟨o.size,RelBy.new bg _ _⟩) (λ_=>i.aw.dk h g' aR) (λ_=>by grind) i.aw.bM i.bW
    (λ_ ag _=>(i.mode.counted g' w (.inl a) _ _).retag ag) (.inl ⟨by omega,by simp[cnt,X]⟩) w
   .simp at s;subst s;exact i.aw.cj
   .simp at s;subst s;exact cS
   simp at s;subst s;simp[mk]
  obtain⟨k,N,V,d,⟨rfl,rfl⟩,I⟩:=e p (Go.ConcN.RW.refl p);exact wd i g' a2 d (eu:=W) (λ_ _=>rfl) (bC _) (λa' _ _=>.refl ..) (.refl N) (.rel I) D D D cS (λt=>absurd t ca) (λ_=>i.aw.dk h g' aR) (λt=>absurd t ca) i.aw.bM i.bW (λ_ ag _=>(same _ _).retag ag)
   (.inr ⟨X.symm,aR.symm,by rw[bj];exact cq.gr _ b⟩) w
 |@tail aL bA az C p bW t=>
  have aN:∀{k:ai} {N:ar} {V:Array aO} {B A r:Nat} {aq an:Int},ao P v C p=.go k N V->Aside K.f p N->WgAt ty K.f N aq an->(∀aw∈V,Bk K.f aw) ->
    (∀hQ aw,V[hQ]?=f aw->(aK aw).touch?=n∨0<deafBehind az (V.extract 0 hQ))->B<=6->WSit P ty K.f K.af E pQ pQ 0 (K.aI*h+1) (val h 0) B A r k N->deafBehind az V=r ->
    (∀S,(S=tag∨(tag=.blk/\S=.w3))->(mayWake P C=l->k.status=.running->S≠.blk)->Go.ConcN.Mode u (upd y h ⟨B,0,r⟩) S aq an)->((B<aL/\cnt ⟨B,0,r⟩<=cnt (y h))∨(B=aL/\A+1=bA)) ->
    ∃q J Q,runT P (crowd gs p dB) (K.base+h)=(.next q,J)/\kZ (K.base+j) Q a8/\gX P ty K E val j ac G Q q (o++J):=by
   intro k N V B A r aq an d T aJ ab bu a5 aD bf af bR;obtain⟨bp,bs,bt⟩:=i.aw.bM;refine wd i g' a2 d (eu:=W) (λ_ _=>rfl) (by rw[T.size];grind) (λa' aS _=>.bW T i.aw.bn.db bb (λY aT al H=>(i.aw.bn.bC a' aS Y aT al H).2.2.1) i.aw.bn.bT) (.bW T) (.tail a5 aD) (GM ab (by rw[T.size];exact i.aw.cj)) (SC ab) (GN ab) M
    (λ_=>let ⟨b3,bZ⟩:=i.aw.rel h g' w;⟨b3,bZ.book bg _ _ ab bu⟩) (λ_ b2 bG bH=>(nd (T.block _ i.aw.bn.bT) _).trans (i.aw.dk h g' aR b2 bG bH)) (λ_=>(nd (T.block _ i.aw.bn.bT) _).trans (i.aw.dQ h g' w)) ⟨bp,(T.block _ i.aw.bn.bT).trans bs,bt⟩ aJ af
    (bR.imp (λt=>⟨by omega,t.2⟩) λt=>⟨by omega,aR.symm,by rw[bj,<-t.2];exact cq.gr _ b⟩) w
  have book:∀{k:ai} {N:ar} {V:Array aO} {B A r:Nat} {aq an:Int},ao P v C p=.go k N V->Aside K.f p N->WgAt ty K.f N aq an->(∀aw∈V,Bk K.f aw) ->
    (∀hQ aw,V[hQ]?=f aw->(aK aw).touch?=n∨0<deafBehind az (V.extract 0 hQ))->B<=6->WSit P ty K.f K.af E pQ pQ 0 (K.aI*h+1) (val h 0) B A r k N->deafBehind az V=r ->
    Go.ConcN.Mode u (upd y h ⟨B,0,r⟩) tag aq an->((B<aL/\cnt ⟨B,0,r⟩<=cnt (y h))∨(B=aL/\A+1=bA)) ->
    ∃q J Q,runT P (crowd gs p dB) (K.base+h)=(.next q,J)/\kZ (K.base+j) Q a8/\gX P ty K E val j ac G Q q (o++J):=
   λd T aJ ab bu a5 aD bf af bR=>aN d T aJ ab bu a5 aD bf (λ_ ag _=>af.retag ag) bR
  have ah:∀{k:ai} {A:Nat},ao P v C p=.go k p #[]->WSit P ty K.f K.af E pQ pQ 0 (K.aI*h+1) (val h 0) aL A az k p->A+1=bA ->
    ∃q J Q,runT P (crowd gs p dB) (K.base+h)=(.next q,J)/\kZ (K.base+j) Q a8/\gX P ty K E val j ac G Q q (o++J):=by intro k A d aD W;exact book d (.refl K.f p) i.bW D D bW aD a (same _ _) (.inr ⟨a,W⟩)
  cases t with
  |r0 t=>omega
  |k1 t=>
   rcases Goes.cases t with g|⟨A,rfl,e⟩
   .obtain⟨_,k,d,av,ae⟩:=g p (Go.ConcN.RW.refl p);exact book d (.refl K.f p) i.bW (by intro aw s;simp at s;subst s;exact .inl a) (by intro hQ aw s;exact .inl (by have:=wU s;simp at this;exact hy)) ca (.d1 ae) a (i.mode.counted g' w (.inr a) _ _) (.inl ⟨by omega,by simp[cnt,X]⟩)
   obtain⟨k,N,V,d,⟨rfl,rfl⟩,I⟩:=e p (Go.ConcN.RW.refl p);exact ah d (.k1 I) a
  |d1 t=>
   rcases Goes.cases t with g|⟨A,rfl,e⟩
   .obtain⟨_,a0⟩:=g p (Go.ConcN.RW.refl p);have m:=i.bW;have au:=i.mode;have bE:cnt (y h)=1:=by simp[cnt,X]
    have b6:1<=Vc u y:=by have:=le_sumTo (f:=λh=>cnt (y h)) g';simp[Vc];omega
    have aY:∀aw∈#[rd (stA K.f),wr (stA K.f)],Bk K.f aw:=by intro aw s;simp at s;rcases s with rfl|rfl<;>exact bk_cell _ _ rfl
    have aZ:∀hQ aw,(#[rd (stA K.f),wr (stA K.f)]:Array aO)[hQ]?=f aw->(aK aw).touch?=n∨0<deafBehind 1 ((#[rd (stA K.f),wr (stA K.f)]:Array aO).extract 0 hQ):=by
     intro hQ aw s
     match hQ,s with
     |0,_=>exact .inr aeM
     |1,_=>exact .inr (by simp[deafBehind,rd])
     |hQ+2,s=>simp at s
    have cc:∀a_,cnt (⟨1,a_,1⟩:WD)=0:=λ_=>rfl;have bo:∀a_,OpenSt u y->OpenSt u (upd y h ⟨1,a_,1⟩):=λa_ t x bd=>by
     by_cases aw:x=h
     .subst aw;exact wj
     rw[upd_ne y _ aw];exact t x bd
    generalize b1:b9=cf at au m;generalize b0:oE=cd at au m;cases au with
    |opn bz aW bQ=>
     obtain⟨al,H⟩:∃al,Vc u y+pend tag=al+1:=⟨Vc u y+pend tag-1,by omega⟩
     rw[H]at m;have a6:WgAt ty K.f p (((al:Nat)+1)*KK+((0:Nat):Int)) 0:=M;obtain⟨k,d,_,aa⟩:=a0 al 0 w w a6;obtain⟨a_,aa⟩:=aa w;have bM:Vc u (upd y h ⟨1,0,1⟩)+pend tag=al:=NQ;refine book d (aside_setCell p (stA K.f) _) (m.setSt _) aY aZ ca (.quit aa) a ?_ (.inl ⟨by omega,by grind⟩);have aw:((al:Nat):Int)*KK+((0:Nat):Int)=((Vc u (upd y h ⟨1,0,1⟩)+pend tag:Nat):Int)*KK:=M;rw[aw];exact .opn bz (bo 0 aW) (λz cp=>by grind)
    |reg bz aW bQ=>
     obtain⟨al,H⟩:∃al,Vc u y=al+1:=⟨Vc u y-1,by omega⟩
     rw[H]at m;have cx:pend tag=0:=by cases tag<;>first|rfl|exact bz.elim
     have a6:WgAt ty K.f p (((al:Nat)+1)*KK+((1:Nat):Int)) 0:=M;obtain⟨k,d,bY,aa⟩:=a0 al 1 w w a6;by_cases bN:al=0
     .subst bN;obtain⟨av,ae⟩:=bY ⟨rfl,rfl⟩;refine book d (aside_setCell p (stA K.f) _) (m.setSt _) aY aZ ca (.d2 ae) a ?_ (.inl ⟨by omega,by simp[cnt]⟩);have aI:∀x,x<u->x≠h->(y x).stage=1:=λx bd aw=>by have bB:=others_uncounted g' H bE x bd aw;have:=aW x bd;simp only[cnt]at bB;split at bB<;>omega
      have:=Go.ConcN.Mode.last (j:=u) (D:=upd y h ⟨4,0,1⟩) (tag:=tag) h bz g' wj (λx bd aw=>by rw[upd_ne y _ aw];grind);rw[upd_same]at this;grind
     obtain⟨a_,aa⟩:=aa w;have bM:Vc u (upd y h ⟨1,0,1⟩)=al:=NQ;refine book d (aside_setCell p (stA K.f) _) (m.setSt _) aY aZ ca (.quit aa) a ?_ (.inl ⟨by omega,by grind⟩);have aw:((al:Nat):Int)*KK+((1:Nat):Int)=((Vc u (upd y h ⟨1,0,1⟩):Nat):Int)*KK+1:=M;rw[aw];exact .reg bz (bo 0 aW) w
    |last L _ aW bQ cA=>
     grind
    |sema aW=>have:=aW h g';omega
    |fin _ aW=>have:=aW h g';omega
   obtain⟨k,N,V,d,⟨rfl,rfl⟩,I⟩:=e p (Go.ConcN.RW.refl p);exact ah d (.d1 I) a
  |d2 t=>
   rcases Goes.cases t with g|⟨A,rfl,e⟩
   .obtain⟨_,aE⟩:=g p (Go.ConcN.RW.refl p);obtain⟨aA,aI,aF,aG⟩:=i.mode.isLast g' w;have m:=i.bW;rw[aF,aG,X]at m;obtain⟨k,d,av,ae⟩:=aE M;refine book d (.refl K.f p) m Ry Ro ca (.d3 ae) a ?_ (.inl ⟨by omega,by simp[cnt]⟩);have:=Go.ConcN.Mode.last (j:=u) (D:=upd y h ⟨3,0,1⟩) (tag:=tag) h aA g' wj (λx bd aw=>by rw[upd_ne y _ aw];grind);rw[upd_same]at this;grind
   obtain⟨k,N,V,d,⟨rfl,rfl⟩,I⟩:=e p (Go.ConcN.RW.refl p);exact ah d (.d2 I) a
  |d3 t=>
   rcases Goes.cases t with g|⟨A,rfl,e⟩
   .obtain⟨_,aE⟩:=g p (Go.ConcN.RW.refl p);obtain⟨aA,aI,aF,aG⟩:=i.mode.isLast g' w;have m:=i.bW;rw[aF,aG,X]at m;obtain⟨k,d,av,ae⟩:=aE M;refine book d (aside_setCell p (stA K.f) _) (m.setSt 0) Ry Ro ca (.d4 ae) a ?_ (.inl ⟨by omega,by simp[cnt]⟩);have:=Go.ConcN.Mode.last (j:=u) (D:=upd y h ⟨2,0,1⟩) (tag:=tag) h aA g' wj (λx bd aw=>by rw[upd_ne y _ aw];grind);rw[upd_same]at this;grind
   obtain⟨k,N,V,d,⟨rfl,rfl⟩,I⟩:=e p (Go.ConcN.RW.refl p);exact ah d (.d3 I) a
  |d4 t=>
   rcases Goes.cases t with g|⟨A,rfl,e⟩
   .obtain⟨_,bI,aE⟩:=g p (Go.ConcN.RW.refl p);obtain⟨aA,aI,aF,aG⟩:=i.mode.isLast g' w;have m:=i.bW;rw[aF,aG,X]at m;obtain⟨k,d,a_,aa⟩:=aE M;have bc:k.status=.running:=by
     cases a_ with
     |zero=>exact absurd aa.2 ca
     |succ a_=>exact aa.elim (λh=>absurd h.2 ca) (λh=>h.1)
    refine aN d (aside_setCell p (smA K.f) _) (m.setSm 1) (V:=semEvents (smA K.f)) ?_ ?_ ca (.quit aa) cS ?_ (.inl ⟨by omega,by simp[cnt]⟩)
    .intro aw s;simp[semEvents]at s;rcases s with rfl|rfl|rfl|rfl
     .exact .inl a
     .exact bk_cell _ _ a
     .exact bk_cell _ _ a
     exact .inr (.inl a)
    .intro hQ aw s
     match hQ,s with
     |0,s=>simp[semEvents]at s;subst s;exact .inl a
     |1,_=>exact .inr Ob
     |2,_=>exact .inr Ob
     |3,s=>simp[semEvents]at s;subst s;exact .inl a
     |hQ+4,s=>simp[semEvents]at s
    intro S ag cm;have b':=cm bI bc;have bq:S=.w3:=by
     rcases ag with rfl|⟨_,rfl⟩
     .cases S<;>first|rfl|exact aA.elim|grind
     simp
    subst bq;simp only[dv];exact .sema λx bd=>by
     by_cases aw:x=h
     .subst aw;rw[upd_same]
     rw[upd_ne y _ aw];grind
   obtain⟨k,N,V,d,⟨rfl,rfl⟩,I⟩:=e p (Go.ConcN.RW.refl p);exact ah d (.d4 I) a
  |quit t=>
   cases bA with
   |zero=>rw[t.1]at a3;cases a3
   |succ a_=>
    rcases t with⟨cu,_⟩|⟨_,k,V,aP,e,aa⟩
    .grind
    have ab:∀aw∈V,Bk K.f aw:=λaw s=>bk_of_mute (aP aw s);have bK:∀hQ aw,V[hQ]?=f aw->(aK aw).touch?=n∨0<deafBehind az (V.extract 0 hQ):=λhQ aw s=>.inl (touch_mute (aP aw (wU s)));exact book (e p) (.refl K.f p) i.bW ab bK ca (.quit aa) a (same _ _) (.inr ⟨a,a⟩)
end
end
section
open Go.Conc
open Go.ConcN (WD CTag Vc Ssum pend phi cnt WgLive PayAt Has RW DWs WSit RelBy sumTo upd upd_same upd_ne AtR0 isW3 isOpen OpenSt deafBehind_idle bk_cell okW_none Vc_upd Vc_le le_sumTo others_uncounted sumTo_upd_out bk_dis bk_en bk_rd bk_rw bk_sem allQuit_of exists_counted)
open Go.ConcR (KK WgAt stA smA rd wr mk Payload g_of_ofEvents Bk bk_of_mute ofEvent_loc_mark ofEvent_cell ofEvent_mk)
variable [Payload]
section
variable {K:hH}{ac h:ai->a6->Prop}{d eu:Nat->Nat}{ea G:Nat->Mem}{tag:CTag}{c7:cq}{O:Nat}{x:ai}{dj:pO}{dB:Option (Nat×Nat)}{o:Trace}{y:Nat->WD}{R:Nat->Nat}{au:Nat->cq}{b9 oE:Int}
omit [Payload]in
def fF.congr{i}(b:fF K d ea o u i)(j:∀h,h<u->G h=ea h):fF K d G o u i:=
 ⟨b.base,b.db,b.da,b.bT,b.dV,b.eA,b.ez,λe H=>by rw[j e H];exact b.bC e H,b.bO,b.ek,b.seen,b.old,b.ec,b.eH,λm k g a d=>(b.new m k g a d).imp id λ⟨e,H,p,q⟩=>⟨e,H,p,by grind⟩,
  λe H=>by rw[j e H];exact b.ej e H,b.over⟩
def hI.congr{b x b9 O}{g}(i:hI P ty K E val d ea b x b9 g O C p)(k:G b=ea b):hI P ty K E val d G b x b9 g O C p:=by
 cases i with
 |c9 a h j=>exact .c9 a h M
 |rel a=>exact .rel a
 |tail e a=>exact .tail e a
def ih.congr{e:Nat}(a:ih P ty K E val d ea u gs p o y R au e)(g:∀b,b<u->G b=ea b):ih P ty K E val d G u gs p o y R au e:=
 ⟨a.size,a.dn,a.above,λi H=>let ⟨C,k,j⟩:=a.c6 i H;⟨C,k,j.congr (g i H)⟩,a.bn.congr g,a.dU,a.dy,a.dz,a.rel,a.dk,a.dQ,a.bM,a.cY,a.cj,a.cx,a.dm,a.aI,λb h=>by rw[g b h];exact a.dD b h⟩
omit [Payload]in
def ZE{b5}{V}(D:gv K d ea u b)(R:bc k b)(aM:du b V)(A:cN k b ap b5):
  (∀g∈V,(aK g).low b5.a.heap.size)/\(∀g∈V,∀e,(aK g).touch?=f e->e.loc.isMemory=l->oU K (lU d b.a.heap.size 0) e) /\
  (∀g∈V,∀e,(aK g).touch?=f e->e.kind=.plain->e.write=l->∀o,o<u->∀i m t,e.loc=.cell ⟨i,m,n⟩->ea o i m≠f t) /\
  (∀g∈V,g.loc≠.mark .disable/\g.loc≠.mark .enable)/\∀g∈V,∀e,g.loc≠.mark (.release e):=by
 have key:∀g∈V,(aK g).low b5.a.heap.size/\(∀e,(aK g).touch?=f e->e.loc.isMemory=l->oU K (lU d b.a.heap.size 0) e) /\
   (∀e,(aK g).touch?=f e->e.kind=.plain->e.write=l->∀o,o<u->∀i m t,e.loc=.cell ⟨i,m,n⟩->ea o i m≠f t)/\(g.loc≠.mark .disable/\g.loc≠.mark .enable)/\∀e,g.loc≠.mark (.release e):=by
  intro g J;have x:=aM g J;obtain⟨loc,wr,Q⟩:=g;cases loc with
  |cell h=>
   obtain⟨B,C,j⟩:=x;simp only at B C j;subst B;have E:h.block<b.a.heap.size/\d h.block=0/\h.block≠K.af/\h.block≠K.f/\¬K.bx h.block:=by
    rcases j with j|⟨⟨L,I,j⟩,_⟩|⟨_,t,j⟩
    .exact j.elim
    .obtain⟨k1,p,F,q,r⟩:=D.blk _ (.inr ⟨L,I,j⟩);grind
    obtain⟨k1,p,F,q,r⟩:=D.D _ _ _ j;grind
   refine⟨by rw[ofEvent_cell];exact eC E.1 A.size,λi s _=>?_,λi s _ y o H w m t z M=>?_,⟨by simp,by simp⟩,by simp⟩
   .rw[ofEvent_cell]at s;simp[MemAct.touch?,e3]at s;subst s;exact .inr ⟨h.block,a,by grind[lf],E.2.2.2.1,E.2.2.1,E.2.2.2.2,a⟩
   rw[ofEvent_cell]at s;simp[MemAct.touch?,e3]at s;subst s;simp only at y z;have N:=D.bC o H w m t M;grind
  |obj O=>
   obtain⟨B,C⟩:=x;simp only at B C;subst B;obtain⟨L,I,j⟩:=C.resolve_left id;obtain⟨k1,p,F,q,r⟩:=D.blk _ (.inr ⟨L,I,j⟩);refine⟨?_,λi s _=>?_,λi s _ _ o _ w m t z=>?_,⟨by simp,by simp⟩,by simp⟩
   .simp[aK,MemAct.low,Loc.low];exact eC r A.size
   .simp[aK,MemAct.touch?]at s;subst s;exact .inr ⟨O,a,by grind[lf],F,p,q,a⟩
   simp[aK,MemAct.touch?]at s;grind
  |mark T=>
   simp[h4]at x;rcases x with rfl|⟨S,rfl⟩
   .exact Po
   exact Po
  |_=>exact x.elim
 grind
def Dn(cH:lz P ty K E val j ac h dj gs p o d ea u y R au O tag c7 x b b9 oE){t}{V}{qN}{nG}{k i}(J:ao P l x p=.go t bi V)(Y:∀I,I<p.heap.size->eu I=d I)(N:p.heap.size<=bi.heap.size)(F:∀T,T<u->lB K d (ea T) T p bi)(B:∀z∈V,(aK z).low bi.heap.size)(Q:∀z∈V,∀x,(aK z).touch?=f x->x.loc.isMemory=l->oU K eu x)(S:∀z∈V,∀x,(aK z).touch?=f x->x.kind=.plain->x.write=l->∀W,W<u->∀I U af,x.loc=.cell ⟨I,U,n⟩->ea W I U≠f af)(M:∀z∈V,∀x,z.loc≠.mark (.release x))(C:PayAt K.af E bi)(q:WgAt ty K.f bi k i)(A:hk P ty K E val j ac h qN u nG (deafBehind O V) t aA)(m:cV aA {aA with a:=bi})(Z:gv K eu ea u aA)(ab:Go.ConcN.Mode u y qN k i)(aa:phi j (Vc u y) qN<phi j (Vc u y) tag∨(phi j (Vc u y) qN=phi j (Vc u y) tag/\cq.lt nG c7)):
  ∃g r s,runT P (crowd gs p dB) 0=(.next g,r)/\kZ (K.base+j) s dj/\gX P ty K E val j ac h s g (o++r):=by
 have ag:=cH.aw.bn.base;have D:=runT_crowd_go (P:=P) (sl:=dB) (i:=0) cH.dv (by simpa using J)
 refine⟨_,_,(phi j (Vc u y) qN+Ssum u y+sumTo u R,(au,nG)),D,?_,_,bi,dB,eu,ea,u,y,R,au,deafBehind O V,qN,nG,t,aA,k,i,a,
  ⟨Go.ConcN.get_map_set_same _ _ _ FY,A,m,Z,cH.aw.hY Y N F B Q S M C ⟨_,_,q⟩,q,ab,rfl⟩⟩
 rw[cH.eG];rcases aa with ah|⟨ae,X⟩
 .exact Prod.Lex.left _ _ w
 rw[ae];exact Prod.Lex.right _ (Prod.Lex.right _ X)
def nD(m:lz P ty K E val j ac h dj gs p o d ea u y R au O tag c7 x b b9 oE){J}{V}{nG}{s1}(aj:cV s1 {s1 with a:=p})(ai:gv K d ea u s1)(D:ao P l x p=.go J aA.a V)(S:kx {s1 with a:=p} aA V∨dP K.f {s1 with a:=p} aA V)(s:hk P ty K E val j ac h tag u nG O J aA)(ar:cq.lt nG c7):
  ∃z F I,runT P (crowd gs p dB) 0=(.next z,F)/\kZ (K.base+j) I dj/\gX P ty K E val j ac h I z (o++F):=by
 rcases S with⟨⟨k,ap,aC,t,C⟩,aM⟩|⟨rfl,B,N,an⟩
 .have X:gv K d ea u {s1 with a:=p}:=ai.rely aj.size;obtain⟨ab,ae,af,ag,ah⟩:=ZE X aC aM C;have e:∀g,g<p.heap.size->(d g≠0∨g=K.af∨g=K.f)->aA.a.heap[g]?=p.heap[g]?:=λg q aq=>C.a3 g q λL ax Q=>by obtain⟨aE,aF,aG,_⟩:=X.blk g (.inr ⟨L,ax,Q⟩);grind
  have U:=m.aw.bn.base;refine Dn m D (eu:=lU d p.heap.size 0) (λg q=>lf q) C.size (λaw T=>⟨C.size,λg q al=>e g q (.inl w),λg W av az _=>t.mem g W av (C.mem _ _ _ (ai.bC aw T g W av az)),λW _ _=>nd (e _ m.aw.cx (.inr (.inl a))) W,C.os,C.tape,C.output⟩) ab ae af ah ?_
   (m.bW.of_block (e _ m.aw.cj (.inr (.inr a)))) (aA:=aA) (qN:=tag) (nG:=nG) (by rw[deafBehind_idle ag];exact s) (cV.et t.mem) (X.step t C m.aw.cj m.aw.cx m.aw.dm) m.mode (.inr ⟨rfl,ar⟩)
  obtain⟨aa,Y,Z⟩:=m.aw.bM;exact⟨aa,(e _ m.aw.cx (.inr (.inl a))).trans Y,Z⟩
 have i:∀r∈V,r=mk (.read B)∨r=mk (.write B):=M;refine Dn m D (eu:=d) (λg q=>rfl) (bC _) (λaw T=>.refl ..) (λr A=>?_) (λr A g q _=>?_) (λr A g q aD=>?_) (λr A=>?_) m.aw.bM m.bW (aA:={s1 with a:=p}) (qN:=tag) (nG:=nG) ?_ (aj.fT ) (ai.rely aj.size) m.mode (.inr ⟨rfl,ar⟩)
 .have hW:=m.aw.cj;rcases i r A with rfl|rfl<;>(rw[ofEvent_mk];show B.block<_;grind)
 .rcases i r A with rfl|rfl<;>(rw[ofEvent_mk]at q;simp[MemAct.touch?]at q;subst q;exact .inl ⟨B,rfl,N,by simp⟩)
 .rcases i r A with rfl|rfl<;>(rw[ofEvent_mk]at q;simp[MemAct.touch?]at q;grind)
 .rcases i r A with rfl|rfl<;>simp[mk]
 rw[deafBehind_idle (λr A=>by rcases i r A with rfl|rfl<;>simp[mk])];exact s
def l0(q:lz P ty K E val j ac h dj gs p o d ea u y R au O tag c7 x b b9 oE){D}{V}{e}{t}{z w}{s1}(af:cV s1 {s1 with a:=p})(i:gv K d ea u s1)(Q:ao P l x p=.go D bi V)(J:Aside K.f p bi)(C:WgAt ty K.f bi z w)(g:∀I∈V,Bk K.f I)(B:hk P ty K E val j ac h e u t (deafBehind O V) D {s1 with a:=bi})(k:Go.ConcN.Mode u y e z w)(ae:phi j (Vc u y) e<phi j (Vc u y) tag∨(phi j (Vc u y) e=phi j (Vc u y) tag/\cq.lt t c7)):
  ∃m r A,runT P (crowd gs p dB) 0=(.next m,r)/\kZ (K.base+j) A dj/\gX P ty K E val j ac h A m (o++r):=by
 obtain⟨U,M,N⟩:=q.aw.bM;have X:cV s1 {s1 with a:=bi}:=i.df af (q'.bW J);refine Dn q Q (eu:=d) (λS s=>rfl) (by rw[J.size];grind) (λah W=>.bW J q.aw.bn.db q.aw.bn.base (λS ab ag Z=>(q.aw.bn.bC ah W S ab ag Z).2.2.1) q.aw.bn.bT) (GM g (by rw[J.size];exact q.aw.cj)) (λI T S s d=>?_) (λI T S s aa=>?_) (GN g)
  ⟨U,(J.block _ q.aw.bn.bT).trans M,N⟩ C B X.fT (i.rely X.size) k ae
 .rcases g I T with bl|bl|⟨F,wr,rfl,Y⟩
  .exact zP
  .exact zP
  rw[ofEvent_cell]at s;simp[MemAct.touch?,e3]at s;subst s;exact .inl ⟨F,a,Y,by simp⟩
 rcases g I T with bl|bl|⟨F,wr,rfl,Y⟩
 .exact zP
 .exact zP
 rw[ofEvent_cell]at s;simp[MemAct.touch?,e3]at s;grind
end
section
variable {K:hH}{ac aj:ai->a6->Prop}{S eu:Nat->Nat}{bz h:Nat->Mem}{tag:CTag}{c7:cq}{O:Nat}{x:ai}{bS:pO}{dB:Option (Nat×Nat)}{o:Trace}{y:Nat->WD}{R:Nat->Nat}{au:Nat->cq}{b9 W:Int}
def hk.fY(a:hk P ty K E val j ac aj tag u c7 O x b):u+pend tag<=j:=by cases a<;>simp[pend]<;>(try simp)<;>omega
omit [Payload]in
def nz(q:gI (af.aF P ty K.f) (dP K.f) br c7 x b)(r:cV b {b with a:=p})(o:gv K S bz u b)(h:WgLive ty K.f p):
  (∃a,cV a {a with a:=p}/\gv K S bz u a/\br x a)∨∃a,cV a {a with a:=p}/\gv K S bz u a/\∃i e g k,ao P l x p=.go i e.a g/\(kx {a with a:=p} e g∨dP K.f {a with a:=p} e g)/\gI (af.aF P ty K.f) (dP K.f) br k i e/\cq.lt k c7:=by
 rcases q.bb (λd=>cV d {d with a:=p}/\gv K S bz u d) (λd a N j=>⟨j.1.aP N,j.2.aP N⟩) (λG=>False.elim G) ⟨r,o⟩with⟨a,⟨k1,s⟩,m⟩|⟨_,a,⟨k1,s⟩,m⟩
 .grind
 exact .inr ⟨a,k1,s,m _ ⟨k1,λ_=>h⟩⟩
def hI.quits{g x b9 O}{e}{C}(b:hI P ty K E val S bz g x b9 e O C p)(a:b9=1):∃d,QuitsD P d O C:=by
 cases b with
 |c9 _ _ _=>cases a
 |rel _=>cases a
 |tail _ b=>exact⟨_,b.quits a⟩
def hI.jY{e x b9 O}{d}(a:hI P ty K E val S bz e x b9 d O C p)(b:b9=1):x=0:=by
 cases a with
 |c9 _ _ _=>cases b
 |rel _=>rfl
 |tail _ a=>rfl
def acr(cH:lz P ty K E val j ac aj bS gs p o S bz u y R au O tag c7 x b b9 W)(bN:j<2147483648)(a0:∀C b,aj C b->dt (af.aF P ty K.f) (dP K.f) (q5 P ty K ac aj) C b)(a':x.status=.running):
  ∃ax i,runT P (crowd gs p dB) 0=(.next ax,i)/\((∃eu aR,wK P K E val j ac eu aR ax (o++i))∨∃k,kZ (K.base+j) k bS/\gX P ty K E val j ac aj k ax (o++i)):=by
 have bG:=Vc_le u y;have bu:=cH.aw.bn.base;have e:=cH.aw.cY;have fin:∀{q:Prop},(∃ax i k,runT P (crowd gs p dB) 0=(.next ax,i)/\kZ (K.base+j) k bS/\gX P ty K E val j ac aj k ax (o++i)) ->
   ∃ax i,runT P (crowd gs p dB) 0=(.next ax,i)/\((∃eu aR,wK P K E val j ac eu aR ax (o++i))∨∃k,kZ (K.base+j) k bS/\gX P ty K E val j ac aj k ax (o++i)):=
  λ{_} ⟨ax,i,k,aC,ai,aG⟩=>⟨ax,i,aC,.inr ⟨k,ai,aG⟩⟩
 have bh:=cH.dx.fY;have bx:=cH.dx;have A:=cH.bW;have ah:=cH.mode;cases bx with
 |@fb g c7 C b I X=>
  rcases nz X cH.rely cH.aF e with⟨aA,k1,s,_,hr,H,d⟩|⟨aA,k1,s,hr,b5,V,h,H,Z,d,aM⟩
  .obtain⟨aa,d⟩:=d {aA with a:=p} (mE k1 e);exact fin (q:=True) (l0 cH k1 s (H p) (.refl K.f p) A bk_dis (.fM I d) (ah.reopen B B a D) (.inl l9))
  exact fin (q:=True) (nD cH k1 s H Z (.fb I d) aM)
 |@fM g c7 C b I X=>
  rcases nz X cH.rely cH.aF e with⟨aA,k1,s,_,az⟩|⟨aA,k1,s,hr,b5,V,h,H,Z,d,aM⟩
  .obtain⟨an,J,Q,_⟩:=ah.open_inv B;rw[J,Q]at A;obtain⟨fO,H,aa,d⟩:=az {aA with a:=p} (mE k1 e) (Vc (j-(g+1)) y) w (by simpa[pend]using A);refine fin (q:=True) (l0 cH k1 s H (aside_setCell p (stA K.f) _) (A.setSt _) bk_rw (.fO I d) ?_ (.inl l9));have ag:(((Vc (j-(g+1)) y:Nat):Int)+1)*KK=((Vc (j-(g+1)) y+pend (.sp g 3):Nat):Int)*KK:=by simp[pend]
   rw[ag];exact .opn B an D
  exact fin (q:=True) (nD cH k1 s H Z (.fM I d) aM)
 |@fO g c7 C b I X=>
  rcases nz X cH.rely cH.aF e with⟨aA,k1,s,_,hr,H,d⟩|⟨aA,k1,s,hr,b5,V,h,H,Z,d,aM⟩
  .obtain⟨aa,d⟩:=d {aA with a:=p} (mE k1 e);exact fin (q:=True) (l0 cH k1 s (H p) (.refl K.f p) A bk_en (.fN I d) (ah.reopen B B a D) (.inl l9))
  exact fin (q:=True) (nD cH k1 s H Z (.fO I d) aM)
 |@fN g c7 C b I X=>
  rcases nz X cH.rely cH.aF e with⟨aA,k1,s,_,az⟩|⟨aA,k1,s,hr,b5,V,h,H,Z,d,aM⟩
  .obtain⟨fO,rq,bm,_,⟨rc,bo⟩,ar⟩:=az {aA with a:=p} (mE k1 e);obtain⟨an,J,Q,_⟩:=ah.open_inv B;rw[J,Q]at A;have r:=runT_crowd_spawn (P:=P) (sl:=dB) (i:=0) cH.dv (by simpa using bm);rw[cH.aw.size]at r;have bs:=s.rely k1.size;let aR:=upd bz (j-(g+1)) aA.D;have a1:∀bF,bF<j-(g+1)->aR bF=bz bF:=λbF bb=>upd_ne bz _ w;have aH:aR (j-(g+1))=aA.D:=upd_same bz _ _;have aJ:cV (a6.dw {aA with a:=p}) {a6.dw {aA with a:=p}with a:=p}:=cV.et k1.mem;have aY:ht S (aR (j-(g+1))) (K.base+(j-(g+1))) (a6.dw {aA with a:=p}):=by
    refine⟨λaZ aw=>?_,λaZ bq br t=>⟨.inr (by rw[aH];exact t),(bs.D aZ bq br t).2.2.2.2⟩⟩;rcases aw with aw|⟨L,bE,_⟩
    .exact aw.elim
    simp[a6.dw]at bE
   have T:=(cH.aw.congr a1).spawn (fO:=fO) (F:={g:=0,fn:=x.frame.fn,pos:=x.frame.place,act:=.go (K.base+(j-(g+1)))}) (bF:={g:=K.base+(j-(g+1)),fn:=rq.frame.fn,pos:=x.frame.place,act:=.start}) ⟨rfl,rfl⟩ ⟨rfl,rfl⟩
    (λaZ bq br t=>by rw[aH]at t;exact bs.D aZ bq br t) bo aJ aY
   have bf:Vc (j-(g+1)+1) (upd y (j-(g+1)) ⟨7,0,0⟩)=Vc (j-(g+1)) y+1:=by simp[Vc,sumTo,upd_same];rw[sumTo_upd_out y _ cnt (bC _)];rfl
   have bd:Ssum (j-(g+1)+1) (upd y (j-(g+1)) ⟨7,0,0⟩)=Ssum (j-(g+1)) y+7:=by simp[Ssum,sumTo,upd_same];rw[sumTo_upd_out y _ WD.stage (bC _)]
   have bc:sumTo (j-(g+1)+1) (upd R (j-(g+1)) 1)=sumTo (j-(g+1)) R+1:=by have:sumTo (j-(g+1)) (upd R (j-(g+1)) 1)=sumTo (j-(g+1)) R:=sumTo_upd_out R 1 id (i:=j-(g+1)) (j:=j-(g+1)) (bC _);show sumTo (j-(g+1)) (upd R (j-(g+1)) 1)+upd R (j-(g+1)) 1 (j-(g+1))=_;rw[upd_same];grind
   have av:OpenSt (j-(g+1)+1) (upd y (j-(g+1)) ⟨7,0,0⟩):=λY al=>by
    by_cases ag:Y=j-(g+1)
    .subst ag;exact wj
    rw[upd_ne y _ ag];exact an Y w
   have a2:((gs.setIfInBounds 0 fO).push rq)[0]?=f fO:=by have bg:0<gs.size:=FY;grind
   have bt:gv K S aR (j-(g+1)+1) {aA with a:=p}:=⟨bs.blk,bs.D,λbF bb aZ bq br t=>by
    rcases dT bF (j-(g+1))with aC|aC
    .rw[a1 bF aC]at t;exact bs.bC bF aC aZ bq br t
    .obtain rfl:bF=j-(g+1):=w
     rw[aH]at t;exact t⟩
   have bA:j-(g+1)+1=j-g:=w;rw[bA]at T bf bd bc av bt;have aF:∀aq,pend aq=0->((Vc (j-(g+1)) y+pend (.sp g 2):Nat):Int)*KK=((Vc (j-g) (upd y (j-(g+1)) ⟨7,0,0⟩)+pend aq:Nat):Int)*KK:=λaq bO=>by exact hy
   cases g with
   |zero=>
    obtain⟨aQ,d⟩:=ar;simp only[sm]at T bf bd bc av aF bt;refine⟨_,_,r,.inr ⟨(phi j (Vc j (upd y (j-(0+1)) ⟨7,0,0⟩)) .kd+Ssum j (upd y (j-(0+1)) ⟨7,0,0⟩)+sumTo j (upd R (j-(0+1)) 1),(upd au (K.base+(j-(0+1))) rc,aQ)),by rw[cH.eG];exact Prod.Lex.left _ _ l9,
     _,p,dB,S,aR,j,_,_,_,0,.kd,aQ,fO,{aA with a:=p},_,_,rfl,⟨a2,.kd d,k1.fT,bt,T,A,?_,rfl⟩⟩⟩
    rw[aF .kd a];exact .opn B av D
   |succ h=>
    obtain⟨aQ,d⟩:=ar;refine⟨_,_,r,.inr ⟨(phi j (Vc (j-(h+1)) (upd y (j-(h+1+1)) ⟨7,0,0⟩)) (.sp h 5)+Ssum (j-(h+1)) (upd y (j-(h+1+1)) ⟨7,0,0⟩)+sumTo (j-(h+1)) (upd R (j-(h+1+1)) 1),(upd au (K.base+(j-(h+1+1))) rc,aQ)),by rw[cH.eG];exact Prod.Lex.left _ _ l9,
     _,p,dB,S,aR,j-(h+1),_,_,_,0,.sp h 5,aQ,fO,{aA with a:=p},_,_,rfl,⟨a2,.fb w d,k1.fT,bt,T,A,?_,rfl⟩⟩⟩
    rw[aF (.sp h 5) a];exact .opn B av D
  exact fin (q:=True) (nD cH k1 s H Z (.fN I d) aM)
 |kd X=>
  rcases nz X cH.rely cH.aF e with⟨aA,k1,s,_,hr,H,d⟩|⟨aA,k1,s,hr,b5,V,h,H,Z,d,aM⟩
  .obtain⟨aa,d⟩:=a0 _ _ (d {aA with a:=p} (mE k1 e));exact fin (q:=True) (l0 cH k1 s (H p) (.refl K.f p) A bk_dis (.w1 d) (ah.reopen B B a D) (.inl l9))
  exact fin (q:=True) (nD cH k1 s H Z (.kd d) aM)
 |w1 X=>
  rcases nz X cH.rely cH.aF e with⟨aA,k1,s,_,az⟩|⟨aA,k1,s,hr,b5,V,h,H,Z,d,aM⟩
  .obtain⟨an,J,Q,_⟩:=ah.open_inv B;rw[J,Q]at A;have bM:=Vc_le j y;obtain⟨fO,H,bg,bk⟩:=az {aA with a:=p} (mE k1 e) (Vc j y) w M;by_cases t:Vc j y=0
   .obtain⟨aa,d⟩:=bg t;refine fin (q:=True) (l0 cH k1 s H (.refl K.f p) A bk_rd (.ke d) ?_ (.inl l9));have ag:((Vc j y+pend .w1:Nat):Int)*KK=0:=M;rw[ag];exact .fin B (allQuit_of an t)
   obtain⟨aa,d⟩:=bk t;refine fin (q:=True) (l0 cH k1 s H (.refl K.f p) A bk_rd (.w2 d) ?_ (.inl l9));have:=ah.reopen (tag':=.w2 (Vc j y)) B B a (λz ag=>by grind);grind
  exact fin (q:=True) (nD cH k1 s H Z (.w1 d) aM)
 |@w2 z c7 C b X=>
  rcases nz X cH.rely cH.aF e with⟨aA,k1,s,_,az⟩|⟨aA,k1,s,hr,b5,V,h,H,Z,d,aM⟩
  .obtain⟨an,J,Q,bn⟩:=ah.open_inv B;rw[J,Q]at A;obtain⟨bJ,aC⟩:=bn z rfl;obtain⟨a8,aS⟩:=az {aA with a:=p} (mE k1 e) (Vc j y) w M;by_cases ag:Vc j y=z
   .obtain⟨fO,H,aa,d⟩:=a8 ag;exact fin (q:=True) (l0 cH k1 s H (aside_setCell p (stA K.f) _) (A.setSt _) bk_rw (.w3 d) (.reg B an w) (.inl l9))
   obtain⟨fO,H,d⟩:=aS ag;obtain⟨aa,d⟩:=a0 _ _ d;refine fin (q:=True) (l0 cH k1 s H (.refl K.f p) A bk_rd (.w1 d) ?_ (.inl l9));have:=ah.reopen (tag':=.w1) B B a D;grind
  exact fin (q:=True) (nD cH k1 s H Z (.w2 d) aM)
 |@w3 c7 C b X=>
  rcases nz X cH.rely cH.aF e with⟨aA,k1,s,aV⟩|⟨aA,k1,s,hr,b5,V,h,H,Z,d,aM⟩
  .obtain⟨_,a_,az⟩:=aV;obtain⟨aI,aW⟩:=az {aA with a:=p} (mE k1 e);obtain⟨F,m⟩:=cq.jr b c7;have aP:=oO.rely ⟨a',a_,az⟩ (mE k1 e);generalize b9=bL at ah A;generalize W=bK at ah A;cases ah with
   |opn aC _ _=>exact aC.elim
   |reg aC ai aG=>exact fin (q:=True) (l0 cH k1 s (aI ⟨_,A⟩) (.refl K.f p) A D (.blk (c7:=F) aP) (.reg B ai aG) (.inr ⟨rfl,m⟩))
   |last L aC ai aG bD=>exact fin (q:=True) (l0 cH k1 s (aI ⟨_,A⟩) (.refl K.f p) A D (.blk (c7:=F) aP) (.last L B ai aG bD) (.inr ⟨rfl,m⟩))
   |sema ai=>
    obtain⟨fO,H,aa,d⟩:=aW A;exact fin (q:=True) (l0 cH k1 s H (aside_setCell p (smA K.f) _) (A.setSm 0) bk_sem (.w4 d) (.fin B ai) (.inl l9))
   |fin aC _=>exact aC.elim
  exact fin (q:=True) (nD cH k1 s H Z (.w3 d) (cq.hf aM))
 |blk X=>grind
 |w4 X=>
  rcases nz X cH.rely cH.aF e with⟨aA,k1,s,_,az⟩|⟨aA,k1,s,hr,b5,V,h,H,Z,d,aM⟩
  .obtain⟨ae,J,Q⟩:=ah.fin_inv B;rw[J,Q]at A;obtain⟨fO,H,aa,d⟩:=az {aA with a:=p} (mE k1 e) A;exact fin (q:=True) (l0 cH k1 s H (.refl K.f p) A bk_rd (.ke d) (.fin B ae) (.inl l9))
  exact fin (q:=True) (nD cH k1 s H Z (.w4 d) aM)
 |ke X=>
  rcases nz X cH.rely cH.aF e with⟨aA,k1,s,_,hr,H,d⟩|⟨aA,k1,s,hr,b5,V,h,H,Z,d,aM⟩
  .obtain⟨aa,d⟩:=d {aA with a:=p} (mE k1 e);obtain⟨ae,J,Q⟩:=ah.fin_inv B;rw[J,Q]at A;exact fin (q:=True) (l0 cH k1 s (H p) (.refl K.f p) A bk_en (.acq d) (.fin B ae) (.inl l9))
  exact fin (q:=True) (nD cH k1 s H Z (.ke d) aM)
 |acq X=>
  rcases nz X cH.rely cH.aF e with⟨aA,k1,s,_,fO,H,d⟩|⟨aA,k1,s,hr,b5,V,h,H,Z,d,aM⟩
  .obtain⟨ae,J,Q⟩:=ah.fin_inv B;have r:=runT_crowd_go (P:=P) (sl:=dB) (i:=0) cH.dv (by simpa using H p);have a5:MemOp.ofEvents 0 x.frame.fn x.frame.place #[mk (.acquire (stA K.f))]=#[{g:=0,fn:=x.frame.fn,pos:=x.frame.place,act:=.mark (.acquire (stA K.f))}]:=by rw[ofEvents_eq];simp[ofEvent_mk]
   have aD:=cH.aw.hY (C:=x) (hr:=fO) (fn:=x.frame.fn) (pos:=x.frame.place) (V:=#[mk (.acquire (stA K.f))]) (eu:=S) (bi:=p) (λ_ _=>rfl) (bC _) (λbF _=>.refl ..) (by simp;exact cH.aw.cj) (by intro ag ab aZ aw;simp at ab;subst ab;exact cS) (by intro ag ab aZ aw;simp at ab;subst ab;simp[mk,aK,MemAct.touch?]at aw) (by intro ag ab;simp at ab;subst ab;simp[mk]) cH.aw.bM e;have bH:deafBehind 0 #[mk (.acquire (stA K.f))]=0:=rfl;have bb:(o++#[({g:=0,fn:=x.frame.fn,pos:=x.frame.place,act:=.mark (.acquire (stA K.f))}:MemOp)])[o.size]?=f {g:=0,fn:=x.frame.fn,pos:=x.frame.place,act:=.mark (.acquire (stA K.f))}:=D
   have aT:=aD.bn.jH (by rw[aD.dy];rfl) (aD.dU _) (bl:=o.size) (by rw[a5,act?_of bb]) (by rw[a5];simp[Trace.g?]) (by rw[a5];exact⟨0,by simp[Trace.g?],by rw[deaf_old (bC _)];exact cH.aw.dy⟩) (λF m=>by
    obtain⟨g,I⟩:=cH.aw.rel F m (by rw[ae F m];omega)
    exact⟨g,I.appOther g_of_ofEvents w,lt_of_act? I.act⟩)
   have aN:∃bl,Leavers P (o++MemOp.ofEvents 0 x.frame.fn x.frame.place #[mk (.acquire (stA K.f))]) ((gs.map (woken P x fO p)).setIfInBounds 0 fO) bl:=by
    have aE:∀Y,∃bp,∀C,0<Y->((gs.map (woken P x fO p)).setIfInBounds 0 fO)[Y]?=f C->QuitsD P bp (Deaf (o++MemOp.ofEvents 0 x.frame.fn x.frame.place #[mk (.acquire (stA K.f))]) Y) C:=by
     intro Y;cases aL:((gs.map (woken P x fO p)).setIfInBounds 0 fO)[Y]? with
     |none=>simp
     |some C=>
      rcases n0 Y with ag|ao
      .exact⟨0,λhr X=>by omega⟩
      rcases dT Y K.base with aM|bI
      .obtain⟨bp,_,bj⟩:=aD.dn Y C ao aM aL;exact⟨bp,λhr _ a3=>by grind⟩
      obtain⟨F,rfl⟩:∃F,Y=K.base+F:=⟨Y-K.base,by omega⟩
      have m:F<j:=by have:=(jb.1 aL).1;rw[aD.size]at this;omega
      obtain⟨bB,a4,aO⟩:=aD.c6 F m;rw[aL]at a4;cases a4;obtain⟨bp,bj⟩:=aO.quits (ae F m);refine⟨bp,λhr _ a3=>?_⟩;cases a3;rw[aD.dz F m];omega
    exact⟨λY=>Classical.choose (aE Y),λY C al N=>Classical.choose_spec (aE Y) C al N,λY al=>aD.above Y (by rw[aD.size]at al;exact al)⟩
   obtain⟨bl,aN⟩:=aN;refine⟨_,_,r,.inl ⟨S,bz,⟨_,p,dB,fO,aA,bl,rfl,Go.ConcN.get_map_set_same _ _ _ FY,aD.size,d {aA with a:=p} (mE k1 e),k1,s,aN,aT,aD.dU,cH.aw.bM,λF m Y al=>?_,cH.aw.cx,cH.aw.cj,cH.aw.dm⟩⟩⟩;obtain⟨bB,_,aO⟩:=cH.aw.c6 F m;rcases n0 Y with ag|ao
   .subst ag;exact cH.aw.dQ F m (by rw[ae F m];omega)
   exact cH.aw.dk F m (aO.jY (ae F m)) Y ao al
  exact fin (q:=True) (nD cH k1 s H Z (.acq d) aM)
end
end
section
open Go.Conc
open Go.ConcN (WD CTag Vc Ssum pend phi cnt WgLive PayAt Has WSit RelBy sumTo upd upd_same upd_ne exists_counted)
open Go.ConcR (KK WgAt stA smA Payload)
variable [Payload]
section
variable {K:hH}{ac s:ai->a6->Prop}{d:Nat->Nat}{bz:Nat->Mem}{tag:CTag}{c7:cq}{O:Nat}{x:ai}{aj:pO}{dB:Option (Nat×Nat)}{o:Trace}{y:Nat->WD}{R:Nat->Nat}{au:Nat->cq}{b9 S:Int}
def hI.running_of{b x b9 O}{h}{C}(g:hI P ty K E val d bz b x b9 h O C p)(e:b9≠1):C.status=.running:=by
 cases g with
 |c9 a _ _=>exact a.run λ_ _ b=>b.1
 |rel a=>exact Goes.running (λ_ _ b=>b.1) p (Go.ConcN.RW.refl p) a
 |tail _ a=>exact a.running_of e
def acb(g:lz P ty K E val j ac s aj gs p o d bz u y R au O tag c7 x b b9 S):∃(m:Nat)(e:ai),gs[m]?=f e/\e.status=.running:=by
 rcases g.dx.status with⟨h,_⟩|⟨_,rfl⟩
 .exact⟨0,x,g.dv,h⟩
 have r:=g.mode;cases r with
 |opn a _ _=>exact a.elim
 |reg _ _ q=>
  obtain⟨m,k,z⟩:=exists_counted q;obtain⟨e,i,h⟩:=g.aw.c6 m k;exact⟨_,e,i,h.running_of w⟩
 |last L _ t q _=>
  obtain⟨e,i,h⟩:=g.aw.c6 L t;exact⟨_,e,i,h.running_of w⟩
 |fin a _=>exact a.elim
def Sg(e:lz P ty K E val j ac s aj gs p o d bz u y R au O tag c7 x b b9 S):∀m∈gs,awake m:=by
 intro m B F;obtain⟨i,a⟩:=Array.mem_iff_getElem?.1 B;rcases n0 i with rfl|r
 .rw[e.dv]at a;cases a;rcases e.dx.status with⟨h,_⟩|⟨h,_⟩<;>rw[h]<;>simp
 rcases dT i K.base with w|D
 .obtain⟨A,_,z⟩:=e.aw.dn i m r w a;rcases z.status with g|g<;>rw[g]<;>simp
 obtain⟨k,rfl⟩:∃k,i=K.base+k:=⟨i-K.base,by omega⟩
 have C:k<u:=by have:=(jb.1 a).1;rw[e.aw.size]at this;omega
 obtain⟨t,q,h⟩:=e.aw.c6 k C;rw[a]at q;cases q;rcases h.status with g|g<;>rw[g]<;>simp
def lz.at(e:lz P ty K E val j ac s aj gs p o d bz u y R au O tag c7 x b b9 S)(Iw):lz P ty K E val j ac s aj gs (p.at Iw) o d bz u y R au O tag c7 x b b9 S:=
 ⟨e.dv,e.dx,e.rely.eF (bC _) (λ_ _=>rfl) (λ_ _ _ _ g=>g) a a a,e.aF,e.aw.at Iw,e.bW,e.mode,e.eG⟩
def acp(h:lz P ty K E val j ac s aj gs p o d bz u y R au O tag c7 x b b9 S)(r:0<e)(I:e<K.base)(A:gs[e]?=f C)(B:C.status=.running):
  ∃F i m,runT P (crowd gs p dB) e=(.next F,i)/\kZ (K.base+j) m aj/\gX P ty K E val j ac s m F (o++i):=by
 obtain⟨z,G,N⟩:=h.aw.dn e C r I A;cases z with
 |zero=>rw[N.1]at B;cases B
 |succ z=>
  rcases N with⟨H,_⟩|⟨_,q,V,X,U,J⟩
  .grind
  .have Y:(e==0)=v:=M;have T:=runT_crowd_go (P:=P) (sl:=dB) (i:=e) A (by rw[Y];exact U p)
   obtain⟨g,k,W,D,Z⟩:=h.dx.h3 C q p;have Q:Go.ConcN.Mode u y g b9 S:=h.mode.retag D;refine⟨_,_,(phi j (Vc u y) g+Ssum u y+sumTo u R,(upd au e (cq.dG z),k)),T,?_,_,p,dB,d,bz,u,y,R,_,O,g,k,woken P C q p x,b,b9,S,a,
    ⟨by rw[Go.ConcN.get_map_set _ _ _ _ w,h.dv];rfl,W,h.rely,h.aF,h.aw.bs r I X J,h.bW,Q,rfl⟩⟩
   rw[h.eG,Go.ConcN.phi_retag j _ D];exact Prod.Lex.right _ (Prod.Lex.left _ _ ⟨e,by omega,by rw[upd_same,G];exact cq.gr _ b,λaa t=>upd_ne au _ t⟩)
def YT(N:j<2147483648)(y:∀q t,s q t->dt (af.aF P ty K.f) (dP K.f) (q5 P ty K ac s) q t){A}(D:gX P ty K E val j ac s aj A o):
  ∃e a,stepT P A=(.next e,a)/\((∃g d,wK P K E val j ac g d e (o++a))∨∃h,kZ (K.base+j) h aj/\gX P ty K E val j ac s h e (o++a)):=by
 obtain⟨C,Q,dB,X,Z,x,T,S,V,B,tag,M,W,t,O,Y,rfl,b⟩:=D;obtain⟨k,q,m,r,i,p,F⟩:=crowd_pick (P:=P) (w:=Q) (sl:=dB) (Sg b) (acb b);rw[F];have w:=b.at m;have z:x<=j:=by have:=b.dx.fY;omega
 rcases n0 k with rfl|J
 .rw[b.dv]at i;cases i;exact acr (dB:=r) w N y p
 rcases dT k K.base with R|U
 .obtain⟨e,a,h,H,G,I⟩:=acp (dB:=r) w J R i p;grind
 obtain⟨u,rfl⟩:∃u,k=K.base+u:=⟨k-K.base,by omega⟩
 have L:u<x:=by have:=(jb.1 i).1;rw[b.aw.size]at this;omega
 obtain⟨e,a,h,H,G,I⟩:=acw (dB:=r) w N z b.dx.fY L i p;grind
def YU(B:j<2147483648)(y:∀t w,s t w->dt (af.aF P ty K.f) (dP K.f) (q5 P ty K ac s) t w):∀i(q:Machine)g,gX P ty K E val j ac s i q g ->
  ∃o m k b a,runNT P o q g=(.next m,k)/\wK P K E val j ac b a m k:=by
 intro i;induction(ZR (K.base+j)).apply i with
 |intro i _ A=>
  intro q g x;obtain⟨r,d,u,e⟩:=YT B y x;rcases e with⟨b,a,e⟩|⟨h,e,p⟩
  .exact⟨1,r,g++d,b,a,by simp[runNT,u],e⟩
  obtain⟨o,m,k,b,a,k1,z⟩:=A h e r (g++d) p;exact⟨o+1,m,k,b,a,by simp only[runNT,u];exact k1,z⟩
def kW.gg{cG}{Y:ai->a6->Prop}(vp)(an:0<vp)(bm N)(aI:j<2147483648)(au:N≠bm)(Z:e2 b cG)(aL:C.status=.running)(ae:∃L∈b.t,N∈L.ak)(ah:∃L∈b.t,bm∈L.ak)(aC:∀d,(b.own d∨∃L∈b.t,d∈L.ak)->d<b.a.heap.size)(bf:∀d,(d=N∨d=bm)->¬cG.own d/\(∀L∈cG.t,d∉L.ak)/\∀o,cG.D d o=n)(aE:WgAt ty bm b.a 0 0)(Q:PayAt N E b.a)(bd:∀k:hH,k.f=bm->k.af=N->k.aI=vp->∃X U,(∀C b,U C b->dt (af.aF P ty k.f) (dP k.f) (q5 P ty k X U) C b)/\oT P ty k E val j U j C cG /\
   ∀aa i,X aa i->gw i->PayAt N E i.a->(∀g,g<j->∀r,r<vp->i.a.cell? ⟨N,vp*g+r,n⟩=f (val g r))->N<i.a.heap.size->(∀d,(d=N∨d=bm)->¬i.own d/\(∀L∈i.t,d∉L.ak)/\∀o,i.D d o=n) ->
    ∃w,Y aa w/\w.a=i.a/\gw w/\∀h:Nat->Prop,gW h i->¬h N->gW h w):kW P C b Y:=by
 intro h p T aO a8 bl K G ag x av;have bb:¬h N:=λS=>let ⟨L,G,e⟩:=ae;x.t N S L G e
 have bc:¬h bm:=λS=>let ⟨L,G,e⟩:=ah;x.t bm S L G e
 have O:=aC N (.inr ae);have a':=aC bm (.inr ah);have R:1<=p.size:=(jb.1 K).1;let k:hH:={bx:=h,bO:=aO.size,f:=bm,af:=N,base:=p.size,aI:=vp}
 obtain⟨X,U,ab,V,ba⟩:=bd k rfl rfl rfl;have aM:=x.aP Z;have I:gw cG:=.aP Z;have aQ:gv k (λ_=>0) (λ_ _ _=>n) 0 cG:=by
  refine⟨λd e=>⟨a,λm=>M,λm=>M,λm=>?_,by rw[Z.a];exact aC d (Z.blk d e)⟩,λd o aA t=>⟨a,λm=>?_,λm=>?_,λm=>?_,gw.lt I t⟩,λg q=>absurd q (iH g)⟩
  .rcases e with e|⟨L,G,e⟩
   .exact aM.own d m e
   exact aM.t d m L G e
  .grind
  .grind
  rw[aM.D d m o]at t;cases t
 have aS:ih P ty k E val (λ_=>0) (λ_ _ _=>n) 0 p b.a aO (λ_=>⟨0,0,0⟩) (λ_=>0) (λr=>cq.dG (a8 r)) 0:=
  ⟨rfl,λr C s _ al=>⟨a8 r,rfl,G.old r C s al⟩,G.above,λg q=>absurd q (iH g),fF.start ag a R au bc bb,av,ag.hears,λg q=>absurd q (iH g),λg q=>absurd q (iH g),λg q=>absurd q (iH g),λg q=>absurd q (iH g),
   Q,⟨_,_,aE⟩,a',O,x.lt,an,λg q=>absurd q (iH g)⟩
 have aT:cV cG {cG with a:=b.a}:=by have:=cV.et I;rw[<-Z.a];exact this
 have aP:∃aG,gX P ty k E val j X U aG (crowd p b.a T) aO:=by
  cases j with
  |zero=>
   obtain⟨az,V⟩:=V;exact⟨_,p,b.a,T,_,_,0,_,_,_,0,.kd,az,C,cG,_,_,a,⟨K,.kd V,aT,aQ,aS,aE,by have:=Go.ConcN.Mode.opn (j:=0) (D:=λ_=>(⟨0,0,0⟩:WD)) (tag:=.kd) B (λr s=>absurd s (iH r)) D;simpa[Vc,sumTo,pend]using this,a⟩⟩
  |succ j=>
   obtain⟨az,V⟩:=V;have A:hk P ty k E val (j+1) X U (.sp j 5) (j+1-(j+1)) az 0 C cG:=.fb (Nat.lt_succ_self j) V;rw[ss]at A;exact⟨_,p,b.a,T,_,_,0,_,_,_,0,.sp j 5,az,C,cG,_,_,a,⟨K,A,aT,aQ,aS,aE,by have:=Go.ConcN.Mode.opn (j:=0) (D:=λ_=>(⟨0,0,0⟩:WD)) (tag:=.sp j 5) B (λr s=>absurd s (iH r)) D;simpa[Vc,sumTo,pend]using this,a⟩⟩
 obtain⟨aG,aP⟩:=aP;obtain⟨bk,bg,bj,F,W,ax,⟨aV,z,a9,aF,H,bh,rfl,a1,_,aY,J,ao,aW,aZ,aJ,aw,a_,aq,a4,ar⟩⟩:=YU aI ab aG _ _ aP;have aD:gv k F W j {H with a:=z}:=ao.rely J.size;have aR:∀d,(d=N∨d=bm∨h d)->¬H.own d/\(∀L∈H.t,d∉L.ak)/\∀o,H.D d o=n:=by
  intro d e;have key:∀g,(F g=0/\g≠k.af/\g≠k.f/\¬k.bx g/\g<z.heap.size)->g≠d:=M;refine⟨λaK=>key d (aD.blk d (.inl aK)) a,λL G aj=>key d (aD.blk d (.inr ⟨L,G,aj⟩)) a,λo=>?_⟩;cases aH:H.D d o with
  |none=>rfl
  |some aA=>exact absurd rfl (key d (aD.D d o aA aH))
 obtain⟨w,a0,a7,a5,a2⟩:=ba aF {H with a:=z} aY (λd o aA t=>J.mem d o aA t) aw a_ aq (λd e=>aR d (e.elim .inl λm=>.inr (.inl m)));have a3:gW (λd=>h d∨d=bm) {H with a:=z}:=by have aN:∀d,(h d∨d=bm)->¬H.own d/\(∀L∈H.t,d∉L.ak)/\∀o,H.D d o=n:=λd e=>aR d (e.elim (λm=>.inr (.inr m)) λm=>.inr (.inl m));exact⟨λd e=>(aN d e).1,λd e=>(aN d e).2.1,λd e=>(aN d e).2.2,λd e=>e.elim (ar d) λm=>by grind⟩
 grind
end
end
section
open Go.Conc Go.RowKit Go.Conc.Lib Go.ConcR.Gen
open Go.ConcN (WgLive)
open Go.ConcR (KK WgAt stA smA rd wr mk DC0)
variable {L:WgLink}
section
variable (P:aE)(dj:ar->ar->Prop)(L:WgLink)(bm:Nat)(hB:ai)
def Am(b:ai)(_:ar):Prop:=b.status=.running/\∃a,(∀d,ao P l b d=.go a d #[mk .enable])/\∀w1,WgLive L.tWg bm w1->∃e,Goes P l dj DC0 (λb _=>b=hB) e a w1
def RT(d:ai)(_:ar):Prop:=d.status=.running/\∃b a,a.block=bm/\(∀e,ao P l d e=.go b e #[mk (.read a)])/\∀w1,WgLive L.tWg bm w1->∃g,Goes P l dj DC0 (Am P dj L bm hB) g b w1
def F2(b:ai)(a:ar):Prop:=b.status=.running/\∀e:Nat,e<2147483647->WgAt L.tWg bm a (e*KK) 0 ->
 ∃d,ao P l b a=.go d (a.setCell (stA bm) (.int .u64 ((e+1)*KK))) #[rd (stA bm),wr (stA bm)]/\∃g,Goes P l dj DC0 (λb a=>RT P dj L bm hB b a∨Am P dj L bm hB b a) g d (a.setCell (stA bm) (.int .u64 ((e+1)*KK)))
def RS(b:ai)(_:ar):Prop:=b.status=.running/\∃a,(∀d,ao P l b d=.go a d #[mk .disable])/\∀w1,WgLive L.tWg bm w1->∃e,Goes P l dj DC0 (F2 P dj L bm hB) e a w1
end
set_option maxRecDepth 100000 in
def Sd{P}(H:WgLib P L){dj:ar->ar->Prop}{bm}(d:∀{g w1},WgLive L.tWg bm g->dj g w1->WgLive L.tWg bm w1){hL:aG}{hK}{gl:Array an}{hP:Nat}{hT:m Nat}{hR:m Item}(g:ar)(b:WgLive L.tWg bm g):
  Goes P l dj DC0 (RS P dj L bm (G (hL.at (hK.put ((gl[hP]?).bind (·.dst)) (.tuple #[])) (.inRegion gl hT::hR)) ah)) 12
   (G ((base L.add).at ⟨#[.pointer (f ⟨bm,0,n⟩),.int .i64 1,J,J,J,J,J,J,J,J,J,J,J,J,J,J,J,J,J,J,J,J,J,J,J,J,J,J,J,J,J,J,J,J,J,J,J,J,J,J,J,J,J,J,J,J,J,J,J,J,J,J,J,J,J,J,J,J,J,J,J,J,J,J,J,J,J,J,J,J,J,J,J,J,J,J,J,J,J,J,J,J,J,J,J,J,J,J,J,J,J,J,J,J,J,J,J,J,J,J,J,J,J,J,J,J,J,J,J,J,J,J,J,J,J,J,J],[]⟩ [.code (body_add L)]) (hL.at hK (.inRegion gl (hP::hT)::hR)::ah)) g:=by
 lib_facts
 simp only[body_add,addFn,h0]
 repeat (u_c av d b)
 u_cond l d b
 repeat (u_c av d b)
 u_reg d b
 u_op d b
 u_op d b
 u_c aC d b
 repeat (u_c av d b)
 u_cond v d b
 u_c stepG_skip d b
 repeat (u_c av d b)
 u_reg d b
 refine Goes.stop (λy k=>?_);refine⟨a,_,λg=>stepG_mark0 .disable D a a (by k_ne) a H.f_disable (x_disable_n L) (x_disable_b L) (x_disable_x L) (x_disable_f L),λg b=>?_⟩;clear k;refine⟨40,?_⟩
 walk_nrm
 u_c aC d b
 repeat (u_c av d b)
 u_reg d b
 u_defer d b
 u_c aC d b
 repeat (u_c av d b)
 u_reg d b
 u_op d b
 u_c aC d b
 repeat (u_c av d b)
 u_reg d b
 u_bub d b
 u_c aC d b
 repeat (u_c av d b)
 u_cond v d b
 u_c stepG_skip d b
 repeat (u_c av d b)
 u_reg d b
 u_op d b
 u_op d b
 u_op d b
 u_op d b
 u_op d b
 u_op d b
 u_call H.f_uAdd (nm_uAdd L) uAddFn d b
 repeat (u_c av d b)
 u_reg d b
 u_op d b
 u_c aC d b
 repeat (u_c av d b)
 u_reg d b
 u_op d b
 u_op d b
 u_op d b
 u_op d b
 refine Goes.stop (λo j=>?_);replace b:=d b j;clear j;refine⟨a,λe B h=>?_⟩;have t:KK=4294967296:=rfl;have u:IntKind.u64.wrap ((e:Int)*KK+4294967296)=((e:Int)+1)*KK:=by rw[IntKind.wrap_u64];simp only[t];omega
 refine⟨_,(stepG_add_atomic a a (by k_ne) a H.f_addU64 (x_addU64_n L) (x_addU64_b L) (x_addU64_x L) .u64 (x_addU64_f L) a a h.cellSt (h.thaw 0)).trans (by rw[u];rfl),110,?_⟩;replace b:WgLive L.tWg bm (o.setCell (stA bm) (.int .u64 (((e:Int)+1)*KK))):=⟨_,_,h.setSt _⟩
 clear h
 walk_nrm
 u_op d b
 u_c aC d b
 u_c stepG_ret' d b
 u_leave1 H.f_uAdd d b
 u_op d b
 u_c aC d b
 have p:bits .and .u64 (((e:Int)+1)*4294967296) 2147483648=0:=by have:=Go.ConcN.st_flag (e+1) 0 w w;grind
 have q:bits .and .u64 (((e:Int)+1)*4294967296) 2147483647=0:=by have:=Go.ConcN.st_waiters (e+1) 0 w w;grind
 have f3:((e:Int)+1+2147483648) % 4294967296-2147483648=(e:Int)+1:=w;have f5:¬((e:Int)+1<0):=w;have f6:(0:Int)<(e:Int)+1:=w
 repeat (u_c av d b)
 u_reg d b
 u_op d b
 u_op d b
 u_op d b
 u_op d b
 u_skip d b
 u_skip d b
 u_op d b
 u_c aC d b
 repeat (u_c av d b)
 u_cond v d b
 u_c stepG_skip d b
 repeat (u_c av d b)
 u_reg d b
 u_op d b
 u_op d b
 u_op d b
 u_op d b
 u_c aC d b
 repeat (u_c av d b)
 u_reg d b
 u_op d b
 u_op d b
 u_op d b
 u_op d b
 u_c aC d b
 by_cases A:(e:Int)+1=1
 .repeat (u_c av d b)
  u_reg d b
  u_op d b
  u_op d b
  u_op d b
  u_op d b
  u_op d b
  u_op d b
  u_op d b
  u_op d b
  u_op d b
  u_op d b
  u_c aC d b
  repeat (u_c av d b)
  u_cond l d b
  repeat (u_c av d b)
  u_reg d b
  u_op d b
  u_op d b
  u_op d b
  u_conv H.underlying_tPU32 H.room_tU32 (Go.ConcN.Gen.WgLive.cell1 b).choose_spec d b
  refine Goes.stop (λx r=>.inl ?_);clear r;refine⟨a,_,⟨bm,1,n⟩,a,λg=>stepG_markAt .read D a a (by k_ne) a H.f_raceRead (x_raceRead_n L) (x_raceRead_b L) (x_raceRead_x L) (x_raceRead_f L) (ad:=⟨bm,1,n⟩) (by simp[Act.eval]),λg b=>⟨50,?_⟩⟩
  walk_nrm
  u_c aC d b
  repeat (u_c av d b)
  u_reg d b
  u_op d b
  u_op d b
  u_c aC d b
  repeat (u_c av d b)
  u_cond v d b
  u_c stepG_skip d b
  repeat (u_c av d b)
  u_reg d b
  u_op d b
  u_op d b
  u_op d b
  u_skip d b
  u_skip d b
  u_op d b
  u_op d b
  u_skip d b
  u_skip d b
  u_skip d b
  u_skip d b
  u_op d b
  u_c aC d b
  repeat (u_c av d b)
  u_cond v d b
  u_c stepG_skip d b
  repeat (u_c av d b)
  u_reg d b
  u_op d b
  u_op d b
  u_op d b
  u_skip d b
  u_skip d b
  u_op d b
  u_c aC d b
  repeat (u_c av d b)
  u_cond l d b
  u_c stepG_ret' d b
  refine Goes.stop (λs i=>?_);clear i;refine⟨a,_,λg=>stepG_unwind_entry (v:=.tuple #[]) (evs:=#[mk .enable]) a H.f_enable (x_enable_n L) (x_enable_b L) (x_enable_x L) (x_enable_f L) (by simp[Extern.Race.none_]) wi wi,λg b=>⟨1,?_⟩⟩
  u_leave0 H.f_add d b
  grind[Goes.stop]
 have z:((e:Int)+1==1)=v:=M
 repeat (u_c av d b)
 u_reg d b
 u_op d b
 u_op d b
 u_op d b
 u_op d b
 u_op d b
 u_op d b
 u_op d b
 u_op d b
 u_op d b
 u_op d b
 u_c aC d b
 repeat (u_c av d b)
 u_cond v d b
 u_c stepG_skip d b
 repeat (u_c av d b)
 u_reg d b
 u_op d b
 u_op d b
 u_c aC d b
 repeat (u_c av d b)
 u_cond v d b
 u_c stepG_skip d b
 repeat (u_c av d b)
 u_reg d b
 u_op d b
 u_op d b
 u_op d b
 u_skip d b
 u_skip d b
 u_op d b
 u_op d b
 u_skip d b
 u_skip d b
 u_skip d b
 u_skip d b
 u_op d b
 u_c aC d b
 repeat (u_c av d b)
 u_cond v d b
 u_c stepG_skip d b
 repeat (u_c av d b)
 u_reg d b
 u_op d b
 u_op d b
 u_op d b
 u_skip d b
 u_skip d b
 u_op d b
 u_c aC d b
 repeat (u_c av d b)
 u_cond l d b
 u_c stepG_ret' d b
 refine Goes.stop (λs i=>.inr ?_);clear i;refine⟨a,_,λg=>stepG_unwind_entry (v:=.tuple #[]) (evs:=#[mk .enable]) a H.f_enable (x_enable_n L) (x_enable_b L) (x_enable_x L) (x_enable_f L) (by simp[Extern.Race.none_]) wi wi,λg b=>⟨1,?_⟩⟩
 u_leave0 H.f_add d b
 grind[Goes.stop]
end
section
open Go.Conc Go.RowKit Go.Conc.Lib Go.ConcR.Gen
open Go.ConcN (WgLive)
open Go.ConcR (KK WgAt stA smA rd wr mk DC0)
section
variable (P:aE)(dj:ar->ar->Prop)(L:WgLink)(bm:Nat)(hB:ai)(x:ai->Prop)
def F3(b:ai)(_:ar):Prop:=b.status=.running/\∃a,(∀d,ao P l b d=.go a d #[mk (.acquire (stA bm))])/\∀w1,WgLive L.tWg bm w1->∃e,Goes P l dj DC0 (λb _=>b=hB) e a w1
def An(b:ai)(_:ar):Prop:=b.status=.running/\∃a,(∀d,ao P l b d=.go a d #[mk .enable])/\∀w1,WgLive L.tWg bm w1->∃e,Goes P l dj DC0 (F3 P dj L bm hB) e a w1
def F6(d:ai)(b:ar):Prop:=d.status=.running/\(WgAt L.tWg bm b 0 0->∃a,ao P l d b=.go a b #[rd (stA bm)]/\∃e,Goes P l dj DC0 (An P dj L bm hB) e a b)
def F5(b:ai)(a:ar):Prop:=b.status=.running/\b.offers=n/\((∃e,WgAt L.tWg bm a e 0)->ao P l b a=.go {b with status:=.blocked} a #[]) /\
 (WgAt L.tWg bm a 0 1->∃d,ao P l b a=.go d (a.setCell (smA bm) (.int .u32 0)) (semEvents (smA bm))/\∃g,Goes P l dj DC0 (F6 P dj L bm hB) g d (a.setCell (smA bm) (.int .u32 0)))
def F7(d:ai)(_:ar):Prop:=d.status=.running/\∃b a,a.block=bm/\(∀e,ao P l d e=.go b e #[mk (.write a)])/\∀w1,WgLive L.tWg bm w1->∃g,Goes P l dj DC0 (F5 P dj L bm hB) g b w1
def F4(z:Nat)(e:ai)(b:ar):Prop:=e.status=.running/\∀d:Nat,d<2147483648->WgAt L.tWg bm b (d*KK) 0 ->
 (d=z->∃a,ao P l e b=.go a (b.setCell (stA bm) (.int .u64 (d*KK+1))) #[rd (stA bm),wr (stA bm)]/\∃g,Goes P l dj DC0 (F7 P dj L bm hB) g a (b.setCell (stA bm) (.int .u64 (d*KK+1)))) /\
 (d≠z->∃a,ao P l e b=.go a b #[rd (stA bm)]/\∃g,Goes P l dj DC0 (λe _=>x e) g a b)
def RV(g:ai)(d:ar):Prop:=g.status=.running/\∀b:Nat,b<2147483648->WgAt L.tWg bm d (b*KK) 0 ->
 ∃a,ao P l g d=.go a d #[rd (stA bm)]/\(b=0->∃e,Goes P l dj DC0 (An P dj L bm hB) e a d)/\(b≠0->∃e,Goes P l dj DC0 (F4 P dj L bm hB x b) e a d)
def RU(b:ai)(_:ar):Prop:=b.status=.running/\∃a,(∀d,ao P l b d=.go a d #[mk .disable])/\∀w1,WgLive L.tWg bm w1->∃e,Goes P l dj DC0 (λb _=>x b) e a w1
end
def q4(L:WgLink)(b:Nat)(e:aG)(d:m aG)(g:ai):Prop:=
 ∃a:Array Y,g=G ((base L.wait).at ⟨a,[]⟩ [.code (L7 L),.inLoop (L7 L),.inBlock 0]) (e::d)/\a.size=84/\a[0]?=f (.pointer (f ⟨b,0,n⟩))
set_option maxRecDepth 100000 in
def aef{L}(H:WgLib P L){dj:ar->ar->Prop}{bm}(d:∀{p w1},WgLive L.tWg bm p->dj p w1->WgLive L.tWg bm w1){s}(p)(b:WgLive L.tWg bm p):
  Goes P l dj DC0 (RU P dj L bm (q4 L bm s ah)) 6 (G ((base L.wait).at ⟨#[.pointer (f ⟨bm,0,n⟩),J,J,J,J,J,J,J,J,J,J,J,J,J,J,J,J,J,J,J,J,J,J,J,J,J,J,J,J,J,J,J,J,J,J,J,J,J,J,J,J,J,J,J,J,J,J,J,J,J,J,J,J,J,J,J,J,J,J,J,J,J,J,J,J,J,J,J,J,J,J,J,J,J,J,J,J,J,J,J,J,J,J,J],[]⟩ [.code (body_wait L)]) (s::ah)) p:=by
 lib_facts
 unfold q4;simp only[L7,body_wait,waitFn,h0]
 repeat (u_c av d b)
 u_cond l d b
 repeat (u_c av d b)
 u_reg d b
 refine Goes.stop (λg e=>?_);clear e;refine⟨a,_,λp=>stepG_mark0 .disable D a a (by k_ne) a H.f_disable (x_disable_n L) (x_disable_b L) (x_disable_x L) (x_disable_f L),λp b=>⟨6,?_⟩⟩
 walk_nrm
 u_c aC d b
 repeat (u_c av d b)
 u_c stepG_block d b
 u_c stepG_loop d b
 exact Goes.stop λ_ _=>⟨_,a,a,a⟩
end
section
open Go.Conc Go.RowKit Go.Conc.Lib Go.ConcR.Gen
open Go.ConcN (WgLive)
open Go.ConcN.Gen
open Go.ConcR (KK WgAt stA smA rd wr mk DC0)
set_option maxRecDepth 100000 in
def aee{L:WgLink}(H:WgLib P L){dj:ar->ar->Prop}{bm:Nat}(e:∀{h w1},WgLive L.tWg bm h->dj h w1->WgLive L.tWg bm w1){hL:aG}{hK:Act}{gl:Array an}{hP:Nat}{hT:m Nat}{hR:m Item}(x:ai)(aM:q4 L bm (hL.at hK (.inRegion gl (hP::hT)::hR)) ah x)(h:ar)(b:WgLive L.tWg bm h):
  ∃a',Goes P l dj DC0 (RV P dj L bm (G (hL.at (hK.put ((gl[hP]?).bind (·.dst)) (.tuple #[])) (.inRegion gl hT::hR)) ah) (q4 L bm (hL.at hK (.inRegion gl (hP::hT)::hR)) ah)) a' x h:=by
 lib_facts
 obtain⟨a4,rfl,ba,q⟩:=aM;obtain⟨bk,bl,bn,bo,bp,bq,br,bs,bt,bu,F,I,J,bO,K,bR,bz,O,Q,S,T,bP,U,V,bx,W,X,bJ,Y,Z,aa,ab,bN,ae,bH,bB,af,ag,aj,bF,bD,bE,al,ao,aq,bC,R,au,aw,ax,az,aA,aD,aE,bw,aF,aH,aI,bK,aJ,bI,aK,aL,aN,aO,bQ,y,bA,aP,aQ,aR,aS,aT,aV,bL,aW,aY,aZ,N,a0,a1,a2,a3,bG,rfl⟩:=array84 a4 ba;simp only[j4,mg,e3]at q;subst q;refine⟨30,?_⟩;unfold q4;simp only[L7,body_wait,waitFn,h0]
 u_c stepG_block e b
 repeat (u_c av e b)
 u_reg e b
 u_op e b
 u_op e b
 u_op e b
 u_call H.f_uLoad (nm_uLoad L) uLoadFn e b
 repeat (u_c av e b)
 u_reg e b
 u_op e b
 u_c aC e b
 repeat (u_c av e b)
 u_reg e b
 u_op e b
 u_op e b
 u_op e b
 refine Goes.stop (λbb C=>?_);replace b:=e b C;clear C;refine⟨a,λo a_ g=>?_⟩;rcases n0 o with rfl|A
 .replace g:WgAt L.tWg bm bb 0 0:=M;refine⟨_,stepG_load_atomic (v:=0) a a (by k_ne) a H.f_loadU64 (x_loadU64_n L) (x_loadU64_b L) (x_loadU64_x L) .u64 (x_loadU64_f L) a g.cellSt,λ_=>⟨80,?_⟩,λa9=>absurd a a9⟩;clear g
  walk_nrm
  u_op e b
  u_c aC e b
  u_c stepG_ret' e b
  u_leave1 H.f_uLoad e b
  u_op e b
  u_c aC e b
  repeat (u_c av e b)
  u_reg e b
  u_op e b
  u_op e b
  u_op e b
  u_op e b
  u_c aC e b
  repeat (u_c av e b)
  u_reg e b
  u_op e b
  u_op e b
  u_op e b
  u_op e b
  u_c aC e b
  repeat (u_c av e b)
  u_reg e b
  u_op e b
  u_op e b
  u_c aC e b
  repeat (u_c av e b)
  u_cond l e b
  repeat (u_c av e b)
  u_cond l e b
  repeat (u_c av e b)
  u_reg e b
  refine Goes.stop (λp k=>?_);clear k;refine⟨a,_,λh=>stepG_mark0 .enable D a a (by k_ne) a H.f_enable (x_enable_n L) (x_enable_b L) (x_enable_x L) (x_enable_f L),λh b=>⟨20,?_⟩⟩
  walk_nrm
  u_c aC e b
  repeat (u_c av e b)
  u_reg e b
  u_op e b
  u_conv H.underlying_tWgP H.room_tWg (Go.ConcN.Gen.WgLive.cell0 b).choose_spec e b
  refine Goes.stop (λp k=>?_);clear k;refine⟨a,_,λh=>stepG_markAt .acquire D a a (by k_ne) a H.f_acquire (x_acquire_n L) (x_acquire_b L) (x_acquire_x L) (x_acquire_f L) EW,λh b=>⟨40,?_⟩⟩
  walk_nrm
  u_c aC e b
  repeat (u_c av e b)
  u_reg e b
  u_op e b
  u_op e b
  u_op e b
  u_op e b
  u_op e b
  u_op e b
  u_op e b
  u_op e b
  u_skip e b
  u_skip e b
  u_op e b
  u_c aC e b
  repeat (u_c av e b)
  u_cond v e b
  u_c stepG_skip e b
  u_c stepG_ret' e b
  u_leave0 H.f_wait e b
  grind[Goes.stop]
 obtain⟨i,d⟩:∃i:Int,(o:Int)*KK=i:=⟨_,rfl⟩;have a5:i / 4294967296=(o:Int):=N'
 have a6:bits .and .u64 i 2147483648=0:=by rw[<-d];have:=Go.ConcN.st_flag o 0 w w;simpa[KK]using this
 have a7:bits .and .u64 i 2147483647=0:=by rw[<-d];have:=Go.ConcN.st_waiters o 0 w w;simpa[KK]using this
 have a8:IntKind.i32.wrap (o:Int)=(o:Int):=by grind[IntKind.wrap_i32]
 have w1:IntKind.u64.wrap (i+1)=i+1:=by rw[IntKind.wrap_u64,<-d];simp only[KK];omega
 have bd:decide ((o:Int)<0)=v:=na w;have bf:decide (0<(o:Int))=l:=fi w;have bg:((o:Int)==0)=v:=M;have bh:decide ((o:Int)=0)=v:=na w;rw[d]at g;refine⟨_,stepG_load_atomic (v:=i) a a (by k_ne) a H.f_loadU64 (x_loadU64_n L) (x_loadU64_b L) (x_loadU64_x L) .u64 (x_loadU64_f L) a g.cellSt,λs=>absurd s w,λ_=>⟨80,?_⟩⟩;clear g
 walk_nrm
 u_op e b
 u_c aC e b
 u_c stepG_ret' e b
 u_leave1 H.f_uLoad e b
 u_op e b
 u_c aC e b
 repeat (u_c av e b)
 u_reg e b
 u_op e b
 u_op e b
 u_op e b
 u_op e b
 u_c aC e b
 repeat (u_c av e b)
 u_reg e b
 u_op e b
 u_op e b
 u_op e b
 u_op e b
 u_c aC e b
 repeat (u_c av e b)
 u_reg e b
 u_op e b
 u_op e b
 u_c aC e b
 repeat (u_c av e b)
 u_cnd v e b
 u_c stepG_skip e b
 repeat (u_c av e b)
 u_reg e b
 u_op e b
 u_op e b
 u_op e b
 u_op e b
 u_op e b
 u_op e b
 u_call H.f_uCas (nm_uCas L) uCasFn e b
 repeat (u_c av e b)
 u_reg e b
 u_op e b
 u_c aC e b
 repeat (u_c av e b)
 u_reg e b
 u_op e b
 u_op e b
 u_op e b
 u_op e b
 u_op e b
 refine Goes.stop (λp k=>?_);replace b:=e b k;clear k;refine⟨a,λt z g=>⟨λu=>?_,λu=>?_⟩⟩
 .subst u;rw[d]at g⊢;refine⟨_,(stepG_cas_hit (v:=i) (n:=i+1) a a (by k_ne) a H.f_casU64 (x_casU64_n L) (x_casU64_b L) (x_casU64_x L) .u64 (x_casU64_f L) a a a g.cellSt (g.thaw 0)).trans oM,90,?_⟩;replace b:WgLive L.tWg bm (p.setCell (stA bm) (.int .u64 (i+1))):=⟨_,_,g.setSt _⟩
  clear g
  walk_nrm
  u_op e b
  u_c aC e b
  u_c stepG_ret' e b
  u_leave1 H.f_uCas e b
  u_c aC e b
  repeat (u_c av e b)
  u_cond l e b
  repeat (u_c av e b)
  u_reg e b
  u_op e b
  u_op e b
  u_op e b
  u_op e b
  u_c aC e b
  repeat (u_c av e b)
  u_cond l e b
  repeat (u_c av e b)
  u_reg e b
  u_op e b
  u_op e b
  u_op e b
  u_conv H.underlying_tPU32 H.room_tU32 (Go.ConcN.Gen.WgLive.cell1 b).choose_spec e b
  refine Goes.stop (λp k=>?_);clear k;refine⟨a,_,⟨bm,1,n⟩,a,λh=>stepG_markAt .write D a a (by k_ne) a H.f_raceWrite (x_raceWrite_n L) (x_raceWrite_b L) (x_raceWrite_x L) (x_raceWrite_f L) (ad:=⟨bm,1,n⟩) (by simp[Act.eval]),λh b=>⟨60,?_⟩⟩
  walk_nrm
  u_c aC e b
  repeat (u_c av e b)
  u_reg e b
  u_op e b
  u_c aC e b
  repeat (u_c av e b)
  u_reg e b
  u_op e b
  u_op e b
  u_op e b
  u_op e b
  u_skip e b
  u_op e b
  u_c aC e b
  repeat (u_c av e b)
  u_cond v e b
  u_c stepG_skip e b
  repeat (u_c av e b)
  u_reg e b
  u_op e b
  u_op e b
  u_op e b
  u_op e b
  refine Goes.stop (λbc E=>?_);replace b:=e b E;clear E;refine⟨a,a,λ⟨bj,g⟩=>stepG_semacquire_wait a a a H.f_semacquire (x_semacquire_n L) (x_semacquire_b L) (x_semacquire_x L) (x_semacquire_f L) (by simp[Act.eval,smA]) g.cellSm,λr=>?_⟩;refine⟨_,(stepG_semacquire (n:=1) a a (by k_ne) a H.f_semacquire (x_semacquire_n L) (x_semacquire_b L) (x_semacquire_x L) (x_semacquire_f L) (by simp[Act.eval,smA]) r.cellSm (by k_ne) (r.thaw 1)).trans oM,40,?_⟩;replace b:WgLive L.tWg bm (bc.setCell (smA bm) (.int .u32 0)):=⟨_,_,r.setSm 0⟩
  clear r
  walk_nrm
  u_c aC e b
  repeat (u_c av e b)
  u_reg e b
  u_op e b
  u_op e b
  u_op e b
  u_call H.f_uLoad (nm_uLoad L) uLoadFn e b
  repeat (u_c av e b)
  u_reg e b
  u_op e b
  u_c aC e b
  repeat (u_c av e b)
  u_reg e b
  u_op e b
  u_op e b
  u_op e b
  refine Goes.stop (λbM B=>?_);replace b:=e b B;clear B;refine⟨a,λg=>⟨_,stepG_load_atomic (v:=0) a a (by k_ne) a H.f_loadU64 (x_loadU64_n L) (x_loadU64_b L) (x_loadU64_x L) .u64 (x_loadU64_f L) a g.cellSt,40,?_⟩⟩;clear g
  walk_nrm
  u_op e b
  u_c aC e b
  u_c stepG_ret' e b
  u_leave1 H.f_uLoad e b
  u_op e b
  u_op e b
  u_c aC e b
  repeat (u_c av e b)
  u_cond l e b
  repeat (u_c av e b)
  u_reg e b
  refine Goes.stop (λp k=>?_);clear k;refine⟨a,_,λh=>stepG_mark0 .enable D a a (by k_ne) a H.f_enable (x_enable_n L) (x_enable_b L) (x_enable_x L) (x_enable_f L),λh b=>⟨20,?_⟩⟩
  walk_nrm
  u_c aC e b
  repeat (u_c av e b)
  u_reg e b
  u_op e b
  u_conv H.underlying_tWgP H.room_tWg (Go.ConcN.Gen.WgLive.cell0 b).choose_spec e b
  refine Goes.stop (λp k=>?_);clear k;refine⟨a,_,λh=>stepG_markAt .acquire D a a (by k_ne) a H.f_acquire (x_acquire_n L) (x_acquire_b L) (x_acquire_x L) (x_acquire_f L) EW,λh b=>⟨40,?_⟩⟩
  walk_nrm
  u_c aC e b
  repeat (u_c av e b)
  u_reg e b
  u_op e b
  u_c aC e b
  repeat (u_c av e b)
  u_cond v e b
  u_c stepG_skip e b
  u_c stepG_ret' e b
  u_leave0 H.f_wait e b
  grind[Goes.stop]
 refine⟨_,stepG_cas_miss (v:=(t:Int)*KK) (old:=i) (n:=i+1) a a (by k_ne) a H.f_casU64 (x_casU64_n L) (x_casU64_b L) (x_casU64_x L) .u64 (x_casU64_f L) a a a g.cellSt (g.thaw 0) N',30,?_⟩;clear g
 walk_nrm
 u_op e b
 u_c aC e b
 u_c stepG_ret' e b
 u_leave1 H.f_uCas e b
 u_c aC e b
 repeat (u_c av e b)
 u_cond v e b
 u_c stepG_skip e b
 u_c stepG_inBlock e b
 u_c stepG_inLoop e b
 exact Goes.stop λ_ _=>⟨_,a,by simp,by simp⟩
end
section
open Go.Conc Go.Conc.Lib
open Go.ConcN (WgLive)
open Go.ConcR (KK WgAt stA smA rd wr mk DC0 Payload)
def fE(b:al)(a:Nat)(d w1:ar):Prop:=WgLive b a d->WgLive b a w1
def fE.refl{ty}{bm}(p):fE ty bm p p:=id
def fE.trans{ty}{bm}{a i s}(b:fE ty bm a i)(d:fE ty bm i s):fE ty bm a s:=λe=>d (b e)
def nO(b:ar->ar->Prop)(a:ai->ar->Prop)(d:ai)(e:ar):Prop:=∀w1,b e w1->a d w1
def Goes.eC{P}{eU}{e:ar->ar->Prop}{y:ar->ar->Array aO->Prop}{a:ai->ar->Prop}(aY:∀k m o,e k m->e m o->e k o):
  ∀{j:Nat} {g:ai} {i:ar},Goes P eU e y a j g i->Goes P eU e y (nO e a) j g i
 |0,g,i,d=>λw1 h w2 b=>d w2 (aY _ _ _ h b)
 |j+1,g,i,d=>by
  rcases d with d|⟨q,d⟩
  .exact .inl λw1 h w2 b=>d w2 (aY _ _ _ h b)
  refine .inr ⟨q,λw1 h=>?_⟩;have b:=d w1 h;cases p:ao P eU g w1 with
  |go s t r=>
   rw[p,goes_go]at b;rw[goes_go];exact⟨b.1,Goes.eC aY b.2⟩
  |_=>rw[p]at b;exact b.elim
structure kV(bm:Nat)(ec:a6->Prop):Prop where
 rely:∀b aA,ec b->cV b aA->ec aA
 heap:∀b,ec b->∃k,bc k b
 iU:∀b,ec b->¬b.own bm/\(∀L∈b.t,bm∉L.ak)/\∀r,b.D bm r=n
section
variable {P:aE}{L:WgLink}{bm:Nat}{ec:a6->Prop}
def im(b:al)(a:Nat)(e:a6->Prop)(d:a6):Prop:=e d/\WgLive b a d.a
def kV.hq(R:kV bm ec){b}(a:ec b):gw b:=(R.heap b a).choose_spec.mem
def kV.set(R:kV bm ec){b}(i:ec b)(e)(p:e.block=bm)(aa):cV b {b with a:=b.a.setCell e aa}:=by
 obtain⟨q,r,s⟩:=R.iU b i;have g:∀d,d≠bm->(b.a.setCell e aa).heap[d]?=b.a.heap[d]?:=λd h=>by have:=(aside_setCell b.a e aa).block d M;omega
 refine⟨a,a,a,Nat.le_of_eq (aside_setCell b.a e aa).size.symm,λd h=>g d M,λd j o m=>?_,(aside_setCell b.a e aa).os,(aside_setCell b.a e aa).tape,(aside_setCell b.a e aa).output⟩;have k:d≠bm:=M;show(b.a.setCell e aa).cell? _=_;rw[nd (g d k) j];exact R.hq i d j o m
def kV.next(R:kV bm ec){ty}{b e}(a:im ty bm ec b)(a':(af.aF P ty bm).rely b e):im ty bm ec e:=⟨R.rely b e a.1 a'.1,a'.2 a.2⟩
def kV.i'(R:kV bm ec){ty}{b}(a:im ty bm ec b):(af.aF P ty bm).rely b b:=⟨cV.et (R.hq a.1),id⟩
def kV.goes(R:kV bm ec){ty}{g:ai->a6->Prop}{Stop:ai->ar->Prop}(o:∀C b,im ty bm ec b->nO (fE ty bm) Stop C b.a->dt (af.aF P ty bm) (dP bm) g C b){j}{C}{b}(h:im ty bm ec b)(k:Goes P l (fE ty bm) DC0 Stop j C b.a):dt (af.aF P ty bm) (dP bm) g C b:=by refine dt.goes (q:=af.aF P ty bm) (dj:=fE ty bm) (y:=DC0) (Stop:=nO (fE ty bm) Stop) (im ty bm ec) (λb m d e=>R.next d e) (λb m _ e=>e.2) ?_ (λb d=>R.i' d) o j C b h (Goes.eC (λ_ _ _ p r=>p.trans r) k);rintro b i d s ⟨rfl,rfl⟩;exact⟨a,.inl (.aR (R.heap b d.1).choose_spec)⟩
end
set_option maxRecDepth 100000 in
def TK{P}{L}(H:WgLib P L){bm}:Frame.enter P L.add #[.pointer (f ⟨bm,0,n⟩),.int .i64 1] .normal=(base L.add).at ⟨#[.pointer (f ⟨bm,0,n⟩),.int .i64 1,J,J,J,J,J,J,J,J,J,J,J,J,J,J,J,J,J,J,J,J,J,J,J,J,J,J,J,J,J,J,J,J,J,J,J,J,J,J,J,J,J,J,J,J,J,J,J,J,J,J,J,J,J,J,J,J,J,J,J,J,J,J,J,J,J,J,J,J,J,J,J,J,J,J,J,J,J,J,J,J,J,J,J,J,J,J,J,J,J,J,J,J,J,J,J,J,J,J,J,J,J,J,J,J,J,J,J,J,J,J,J,J,J,J,J],[]⟩ [.code (Go.ConcR.Gen.body_add L)]:=
 (enter_at (c:=Go.ConcR.Gen.body_add L) _ H.f_add bU).trans bU
set_option maxRecDepth 100000 in
def TL{P}{L}(H:WgLib P L){bm}:Frame.enter P L.wait #[.pointer (f ⟨bm,0,n⟩)] .normal=(base L.wait).at ⟨#[.pointer (f ⟨bm,0,n⟩),J,J,J,J,J,J,J,J,J,J,J,J,J,J,J,J,J,J,J,J,J,J,J,J,J,J,J,J,J,J,J,J,J,J,J,J,J,J,J,J,J,J,J,J,J,J,J,J,J,J,J,J,J,J,J,J,J,J,J,J,J,J,J,J,J,J,J,J,J,J,J,J,J,J,J,J,J,J,J,J,J,J,J],[]⟩ [.code (Go.ConcR.Gen.body_wait L)]:=
 (enter_at (c:=Go.ConcR.Gen.body_wait L) _ H.f_wait bU).trans bU
section
variable [Payload]{P:aE}{L:WgLink}{K:hH}{ec:a6->Prop}{E j:Nat}{val:Nat->Nat->Y}
def Sc(H:WgLib P L)(R:kV K.f ec){u}{Next:ai->a6->Prop}{hL:aG}{hK}{gl}{hP}{hT}{hR}{ah}(D:∀b,im L.tWg K.f ec b->dt (af.aF P L.tWg K.f) (dP K.f) (wG P L.tWg K E val u Next) (G (hL.at (hK.put ((gl[hP]?).bind (·.dst)) (.tuple #[])) (.inRegion gl hT::hR)) ah) b){b}(g:im L.tWg K.f ec b):
  dt (af.aF P L.tWg K.f) (dP K.f) (Af P L.tWg K E val u Next) (G (Frame.enter P L.add #[.pointer (f ⟨K.f,0,n⟩),.int .i64 1] .normal) (hL.at hK (.inRegion gl (hP::hT)::hR)::ah)) b:=by
 have C:∀h b,im L.tWg K.f ec b->Am P (fE L.tWg K.f) L K.f (G (hL.at (hK.put ((gl[hP]?).bind (·.dst)) (.tuple #[])) (.inRegion gl hT::hR)) ah) h b.a->dt (af.aF P L.tWg K.f) (dP K.f) (Ag P L.tWg K E val u Next) h b:=by rintro h b g ⟨m,d,p,q⟩;refine⟨.leaf,m,d,p,λj k=>?_⟩;have i:=R.next g k;obtain⟨w,o⟩:=q j.a i.2;exact R.goes (λh b g e=>by obtain rfl:=e b.a (.refl _);grind) i o
 have z:∀h b,im L.tWg K.f ec b->nO (fE L.tWg K.f) (F2 P (fE L.tWg K.f) L K.f (G (hL.at (hK.put ((gl[hP]?).bind (·.dst)) (.tuple #[])) (.inRegion gl hT::hR)) ah)) h b.a->dt (af.aF P L.tWg K.f) (dP K.f) (Ac P L.tWg K E val u Next) h b:=by
  rintro h b g e;refine⟨.leaf,(e b.a (.refl _)).1,λj k x y r=>?_⟩;have i:=R.next g k;obtain⟨d,m,w,o⟩:=(e j.a k.2).2 x y r;have A:im L.tWg K.f ec {j with a:=j.a.setCell (stA K.f) (.int .u64 ((x+1)*KK))}:=⟨R.rely _ _ i.1 (R.set i.1 _ rfl _),⟨_,_,r.setSt _⟩⟩;refine⟨d,m,R.goes (λh b g e=>?_) A o⟩
  rcases e b.a (.refl _)with e|e
  .obtain⟨m,d,s,p,q,t⟩:=e;refine .step m λj k=>⟨d,j,_,q j.a,.inr ⟨a,s,p,.inl a⟩,?_⟩
   have i:=R.next g k;obtain⟨w,o⟩:=t j.a i.2;exact R.goes (λh b g e=>C h b g (e b.a (.refl _))) i o
  grind
 have r:=Sd (P:=P) (L:=L) H (dj:=fE L.tWg K.f) (bm:=K.f) (λe B=>B e) (hL:=hL) (hK:=hK) (gl:=gl) (hP:=hP) (hT:=hT) (hR:=hR) (ah:=ah) b.a g.2;rw[TK H];refine R.goes (λh b g e=>?_) g r;obtain⟨m,d,p,q⟩:=e b.a (.refl _);refine⟨.leaf,m,d,p,λj k=>?_⟩;have i:=R.next g k;obtain⟨w,o⟩:=q j.a i.2;exact R.goes z i o
section
variable (P L K ec)
def fN(b a:ai)(d:a6):Prop:=im L.tWg K.f ec d/\∃e,Goes P l (fE L.tWg K.f) DC0 (λa _=>a=b) e a d.a
def wF(e:aG)(a:m aG)(b:ai)(d:a6):Prop:=im L.tWg K.f ec d/\∃g,Goes P l (fE L.tWg K.f) DC0 (λb _=>q4 L K.f e a b) g b d.a
end
variable {hL:aG}{hK:Act}{gl:Array an}{hP:Nat}{hT:m Nat}{hR:m Item}{ah:m aG}
omit [Payload]in
def Sl(H:WgLib P L)(R:kV K.f ec){r x:ai->a6->Prop}(E:∀C b,fN P L K ec (G (hL.at (hK.put ((gl[hP]?).bind (·.dst)) (.tuple #[])) (.inRegion gl hT::hR)) ah) C b->r C b)(N:∀C b,wF P L K ec (hL.at hK (.inRegion gl (hP::hT)::hR)) ah C b->x C b){C}{b}(g:wF P L K ec (hL.at hK (.inRegion gl (hP::hT)::hR)) ah C b):
  dt (af.aF P L.tWg K.f) (dP K.f) (q5 P L.tWg K r x) C b:=by
 generalize u:hL.at hK (.inRegion gl (hP::hT)::hR)=T at *;generalize aM:G (hL.at (hK.put ((gl[hP]?).bind (·.dst)) (.tuple #[])) (.inRegion gl hT::hR)) ah=m at E;have J:∀C b,im L.tWg K.f ec b->nO (fE L.tWg K.f) (F3 P (fE L.tWg K.f) L K.f m) C b.a->dt (af.aF P L.tWg K.f) (dP K.f) (Ad P L.tWg K r) C b:=by intro C b h g;obtain⟨k,d,s,t⟩:=g b.a (.refl _);exact⟨.leaf,k,d,s,λi e=>E _ _ ⟨R.next h e,t i.a (R.next h e).2⟩⟩
 have F:∀C b,im L.tWg K.f ec b->nO (fE L.tWg K.f) (An P (fE L.tWg K.f) L K.f m) C b.a->dt (af.aF P L.tWg K.f) (dP K.f) (wH P L.tWg K r) C b:=by intro C b h g;obtain⟨k,d,s,t⟩:=g b.a (.refl _);refine⟨.leaf,k,d,s,λi e=>?_⟩;obtain⟨p,j⟩:=t i.a (R.next h e).2;exact R.goes J (R.next h e) j
 have O:∀C b,im L.tWg K.f ec b->nO (fE L.tWg K.f) (F6 P (fE L.tWg K.f) L K.f m) C b.a->dt (af.aF P L.tWg K.f) (dP K.f) (Ai P L.tWg K r) C b:=by intro C b h g;refine⟨.leaf,(g b.a (.refl _)).1,λi e o=>?_⟩;obtain⟨d,k,p,j⟩:=(g i.a e.2).2 o;exact⟨d,k,R.goes F (R.next h e) j⟩
 have M:∀C b,im L.tWg K.f ec b->nO (fE L.tWg K.f) (F5 P (fE L.tWg K.f) L K.f m) C b.a->dt (af.aF P L.tWg K.f) (dP K.f) (oO P L.tWg K r) C b:=by intro C b h g;refine⟨.leaf,(g b.a (.refl _)).1,(g b.a (.refl _)).2.1,λi e=>⟨(g i.a e.2).2.2.1,λo=>?_⟩⟩;obtain⟨d,k,p,j⟩:=(g i.a e.2).2.2.2 o;exact⟨d,k,R.goes O (b:={i with a:=i.a.setCell (smA K.f) (.int .u32 0)}) ⟨R.rely _ _ (R.next h e).1 (R.set (R.next h e).1 _ rfl _),⟨_,_,o.setSm 0⟩⟩ j⟩
 have S:∀C b,im L.tWg K.f ec b->nO (fE L.tWg K.f) (F7 P (fE L.tWg K.f) L K.f m) C b.a->dt (af.aF P L.tWg K.f) (dP K.f) (oO P L.tWg K r) C b:=by
  intro C b h g;obtain⟨k,d,y,s,t,D⟩:=g b.a (.refl _);refine .step k λi e=>⟨d,i,_,t i.a,.inr ⟨a,y,s,.inr a⟩,?_⟩
  obtain⟨p,j⟩:=D i.a (R.next h e).2;exact R.goes M (R.next h e) j
 have Q:∀q C b,im L.tWg K.f ec b->nO (fE L.tWg K.f) (F4 P (fE L.tWg K.f) L K.f m (q4 L K.f T ah) q) C b.a->dt (af.aF P L.tWg K.f) (dP K.f) (Ah P L.tWg K r x q) C b:=by
  intro z C b h g;refine⟨.leaf,(g b.a (.refl _)).1,λi e q w o=>⟨λA=>?_,λA=>?_⟩⟩
  .obtain⟨d,k,p,j⟩:=((g i.a e.2).2 q w o).1 A;exact⟨d,k,R.goes S (b:={i with a:=i.a.setCell (stA K.f) (.int .u64 (q*KK+1))}) ⟨R.rely _ _ (R.next h e).1 (R.set (R.next h e).1 _ rfl _),⟨_,_,o.setSt _⟩⟩ j⟩
  obtain⟨d,k,p,j⟩:=((g i.a e.2).2 q w o).2 A;exact⟨d,k,N _ _ ⟨R.next h e,p,j⟩⟩
 obtain⟨h,p,j⟩:=g;refine R.goes (λC b h g=>?_) h j;obtain⟨p,o⟩:=aee (P:=P) (L:=L) H (dj:=fE L.tWg K.f) (bm:=K.f) (λg U=>U g) (hL:=hL) (hK:=hK) (gl:=gl) (hP:=hP) (hT:=hT) (hR:=hR) (ah:=ah) C (by rw[u];exact g b.a (.refl _)) b.a h.2;rw[u,aM]at o;refine R.goes (λC b h g=>?_) h o;refine⟨.leaf,(g b.a (.refl _)).1,λi e q w o=>?_⟩;obtain⟨d,k,s,t⟩:=(g i.a e.2).2 q w o;refine⟨d,k,λB=>?_,λI=>?_⟩
 .obtain⟨p,j⟩:=s B;exact R.goes F (R.next h e) j
 obtain⟨p,j⟩:=t I;exact R.goes (Q q) (R.next h e) j
omit [Payload]in
def aed(H:WgLib P L)(R:kV K.f ec){s}{h:ai->a6->Prop}(N:∀d b,wF P L K ec s ah d b->h d b){b}(a:im L.tWg K.f ec b):
  dt (af.aF P L.tWg K.f) (dP K.f) (Ae P L.tWg K h) (G (Frame.enter P L.wait #[.pointer (f ⟨K.f,0,n⟩)] .normal) (s::ah)) b:=by have p:=aef (P:=P) (L:=L) H (dj:=fE L.tWg K.f) (bm:=K.f) (λg o=>o g) (s:=s) (ah:=ah) b.a a.2;rw[TL H];refine R.goes (λd b a g=>?_) a p;obtain⟨k,e,m,q⟩:=g b.a (.refl _);exact⟨.leaf,k,e,m,λj i=>N _ _ ⟨R.next a i,q j.a (R.next a i).2⟩⟩
end
end
section
open Go.Conc Go.RowKit Go.Conc.Lib Go.ConcR.Gen
open Go.ConcN (WgLive Has RW DWs AtR0 EvW)
open Go.ConcN.Gen
open Go.ConcR (KK WgAt stA smA rd wr mk DC0 Payload)
section
variable {dj:ar->ar->Prop}{y:ar->ar->Array aO->Prop}{Stop R:ai->ar->Prop}
def Goes.hs(k:∀a,dj a a)(u:∀b a,Stop b a->∃h s,ao P v b a=.go h a #[s])(r:∀g b a,R b a->¬Goes P v dj y Stop g b a):
  ∀p g b a,Goes P v dj DC0 R p b a->¬Goes P v dj y Stop g b a
 |0,g,b,a,j,i=>r g b a (j a (k a)) i
 |p+1,g,b,a,j,i=>by
  rcases j with j|⟨_,j⟩
  .grind
  have e:=j a (k a);cases m:ao P v b a with
  |go h d t=>
   rw[m,goes_go]at e;obtain⟨⟨rfl,rfl⟩,o⟩:=e;have q:¬Stop b d:=λw=>by grind
   cases g with
   |zero=>exact q (i d (k d))
   |succ g=>
    rcases i with i|⟨_,i⟩
    .grind
    have k1:=i d (k d);rw[m,goes_go]at k1;exact Goes.hs k u r p g h d o k1.2
  |_=>rw[m]at e;exact e.elim
def Goes.hp(q:∀b,dj b b)(z:∀d b,Stop d b->∃j w,ao P v d b=.go j b #[w])(r:∀e d b,R d b->Goes P v dj y Stop e d b->∀w1,dj b w1->Stop d w1):
  ∀o e d b,Goes P v dj DC0 R o d b->Goes P v dj y Stop e d b->Goes P v dj DC0 Stop o d b
 |0,e,d,b,k,i=>r e d b (k b (q b)) i
 |o+1,e,d,b,k,i=>by
  rcases k with k|⟨u,k⟩
  .exact .inl (r e d b (k b (q b)) i)
  refine .inr ⟨u,λw1 m=>?_⟩;have g:=k w1 m;cases p:ao P v d w1 with
  |go j h x=>
   rw[p,goes_go]at g;rw[goes_go];obtain⟨⟨rfl,rfl⟩,s⟩:=g;have t:¬Stop d h:=λu=>by grind
   refine⟨⟨a,a⟩,?_⟩;cases e with
   |zero=>exact absurd (i h m) t
   |succ e=>
    rcases i with i|⟨_,i⟩
    .grind
    have k1:=i h m;rw[p,goes_go]at k1;exact Goes.hp q z r o e j h s k1.2
  |_=>rw[p]at g;exact g.elim
end
variable [Payload]{L:WgLink}{bm N m4 F:Nat}{val:Y}{s:aG}
def R5(P:aE)(d:ai)(_:ar):Prop:=∃b,∀a,ao P v d a=.go b a #[mk .disable]
def R6(P:aE)(L:WgLink)(a g m e h:Nat)(d:Y)(j:ai)(b:ar):Prop:=
 (WgLive L.tWg a b/\Has g (h-1) d b)/\∃i,(∀b,ao P v j b=.go i b #[mk (.releaseMerge (stA a))])/\∀b,WgLive L.tWg a b/\Has g (h-1) d b->∃k,Goes P v (RW L.tWg a g m e (h-1)) DC0 (R5 P) k i b
set_option maxRecDepth 100000 in
def Tu(H:WgLib P L)(p)(b:WgLive L.tWg bm p/\Has N (F-1) val p):
  Goes P v (RW L.tWg bm N j m4 (F-1)) DC0 (R6 P L bm N j m4 F val) 23 (G ((baseD L.done).at ⟨#[.pointer (f ⟨bm,0,n⟩),J,J,J],[]⟩ [.code (body_done L)]) (s::ah)) p:=by
 lib_facts
 simp only[body_done,body_add,doneFn,addFn,h0]
 u_reg kn_rely b
 u_op kn_rely b
 u_in kn_rely b
 refine goes_call a a (by k_ne) a H.f_add (nm_add L) a ⟨by u_nil,?_⟩
 walk_nrmf addFn
 repeat (u_c av kn_rely b)
 u_cond l kn_rely b
 repeat (u_c av kn_rely b)
 u_reg kn_rely b
 u_op kn_rely b
 u_op kn_rely b
 u_c aC kn_rely b
 repeat (u_c av kn_rely b)
 u_cond l kn_rely b
 u_reg kn_rely b
 u_op kn_rely b
 u_conv H.underlying_tWgP H.room_tWg (Go.ConcN.Gen.WgLive.cell0 b.1).choose_spec kn_rely b
 refine Goes.stop (λe d=>?_);replace b:=kn_rely b d;clear d;refine⟨b,_,λp=>stepG_markAt .releaseMerge D a a (by k_ne) a H.f_relMerge (x_relMerge_n L) (x_relMerge_b L) (x_relMerge_x L) (x_relMerge_f L) EW,λp b=>⟨10,?_⟩⟩
 walk_nrm
 u_c aC kn_rely b
 repeat (u_c av kn_rely b)
 u_reg kn_rely b
 exact Goes.stop λe d=>⟨_,λp=>stepG_mark0 .disable D a a (by k_ne) a H.f_disable (x_disable_n L) (x_disable_b L) (x_disable_x L) (x_disable_f L)⟩
def Tt(H:WgLib P L){o}(w:s.mode=.returning)(aY:QuitsD P o 0 (G s ah))(p)(k:WgLive L.tWg bm p/\Has N (F-1) val p):
  Goes P v (RW L.tWg bm N j m4 (F-1)) DC0 (AtR0 P L.tWg bm N j m4 F val) 23 (G ((baseD L.done).at ⟨#[.pointer (f ⟨bm,0,n⟩),J,J,J],[]⟩ [.code (body_done L)]) (s::ah)) p:=by
 have I:=doneN (Own:=λ_ _=>False) (Rd:=λ_ _=>False) (Low:=m4) (n:=j) H w aY p k;have r:∀g p,AtR0 P L.tWg bm N j m4 F val g p->∃h x,ao P v g p=.go h p #[x]:=λg p e=>by obtain⟨_,_,h,A,_⟩:=e;grind
 have R:(mk (.releaseMerge (stA bm)):aO)≠mk .disable:=wi;refine Goes.hp (λp=>.refl p) r ?_ _ _ _ _ (Tu H p k) I;intro m g p e b w1 i;obtain⟨k,z,A,y⟩:=e;have u:AtR0 P L.tWg bm N j m4 F val g w1∨∃t,Goes P v (RW L.tWg bm N j m4 (F-1)) (DWs bm (λ_ _=>False) (λ_ _=>False) N j F) (AtR0 P L.tWg bm N j m4 F val) t z w1:=by
  cases m with
  |zero=>exact .inl (b w1 i)
  |succ m=>
   rcases b with b|⟨_,b⟩
   .grind
   grind[goes_go]
 rcases u with e|⟨t,e⟩
 .exact e
 exfalso;obtain⟨Q,E⟩:=y w1 (kn_rely k i);refine Goes.hs (λp=>.refl p) r ?_ _ _ _ _ E e;rintro q C w4 ⟨O,B⟩ b;have d:∀p,¬AtR0 P L.tWg bm N j m4 F val C p:=λp D=>by obtain⟨_,_,K,M,_⟩:=D;grind
 cases q with
 |zero=>exact d w4 (b w4 (.refl w4))
 |succ q=>
  rcases b with b|⟨_,b⟩
  .exact d w4 (b w4 (.refl w4))
  have k1:=b w4 (.refl w4);rw[B w4,goes_go]at k1;have:=(k1.1.2 _ (Array.mem_singleton.2 a)).2.1;exact this a
end
section
open Go.RowKit
open Go.Conc (G solo crowd AtRel Past EvL Leavers)
def a6.bw(b:ar):a6:={t:=[],D:=λa d=>b.cell? ⟨a,d,n⟩,a:=b,own:=λa=>a<b.heap.size}
def bc.bw(p):bc [] (a6.bw p):=⟨λ_ _ _ b=>b,rfl,by simp,by simp[a6.bw],by simp[a6.bw],λd a=>⟨a,by simp[a6.bw]⟩⟩
def abT{k}{s}(e:ma P k s aa b)(j:P.inits.idxOf? k=n)(p)(q:∀a g h,b.D a g=f h->p.cell? ⟨a,g,n⟩=f h):∃d,ao P l (G s []) p=.ended (.done aa) p d/\∀i∈d,∃a g h,i=⟨.cell ⟨a,g,n⟩,v,v⟩/\b.D a g=f h:=by
 obtain⟨fn,r,m⟩:=e.fn;obtain⟨w,u⟩:=m p q;refine⟨seen P s.fn ((results fn s.tmps).events P p #[]),?_,λi t=>u i (Go.Conc.mem_seen t)⟩;have o:P.inits.idxOf? s.fn=n:=by rw[e.jg];exact j
 simp[G,ao,unwind,doReturn,e.mode,e.defers,e.kind,r,w,o,GStep.after]
abbrev ub:=Nat×al×Y
abbrev mz(a:m ub):m aq:=a.map λb=>.K (ed b.1 b.2.1 b.2.2)
def a6.cR(a:m ub)(d:ar):a6:={t:=a.map λe=>⟨.pointer (f ⟨e.1,0,n⟩),[e.1]⟩,D:=λb g=>if b∈a.map (·.1)then n else d.cell? ⟨b,g,n⟩,a:=d,own:=λb=>b<d.heap.size/\b∉a.map (·.1)}
def bc.cR{gs}{p}(C:(gs.map (·.1)).Nodup)(y:∀d∈gs,p.heap[d.1]?=f (.cells #[d.2.2] d.2.1 (0,0))):bc (mz gs) (a6.cR gs p):=by
 have D:∀d∈gs,d.1<p.heap.size:=λd t=>(jb.1 (y d t)).1;have k:∀(e:Nat) L,(a6.cR gs p).t[e]?=f L->∃d,gs[e]?=f d/\L=⟨.pointer (f ⟨d.1,0,n⟩),[d.1]⟩:=λe L m=>by simp[a6.cR,m',rb]at m;grind
 refine⟨λh z J s=>?_,by simp[a6.cR],λe F L aJ g=>?_,λe o L u i w h b j=>?_,λL m h b=>?_,λh b=>⟨b.1,λL m x=>?_⟩⟩
 .simp only[a6.cR]at s;split at s
  .cases s
  exact s
 .obtain⟨d,i,rfl⟩:=k e L g;simp[mz,m',i,lE,e3]at aJ;subst aJ;have t:=b_ i;refine⟨λh=>if h=d.1 then f (.cells #[d.2.2] d.2.1 (0,0))else n,⟨a,bo a,λh b=>bj b⟩,λh z b=>?_,λh=>?_,λh b z=>?_⟩
  .simp only at b;split at b
   .rename_i r;cases b;rw[r];exact y d t
   grind
  .by_cases r:h=d.1<;>simp[r]
  rw[gJ]at b;subst b;exact bo (hn.2 ⟨d,t,a⟩)
 .obtain⟨d,q,rfl⟩:=k e L i;obtain⟨E,I,rfl⟩:=k o u w;rw[gJ]at b j;have r:d.1=E.1:=b.symm.trans j;have A:(gs.map (·.1))[e]?=f d.1:=M;have B:(gs.map (·.1))[o]?=f d.1:=M;grind[List.getElem?_inj]
 .obtain⟨e,g⟩:=AN m;obtain⟨d,q,rfl⟩:=k e L g;rw[gJ]at b;subst b;exact D d (b_ q)
 obtain⟨e,g⟩:=AN m;obtain⟨d,q,rfl⟩:=k e L g;rw[gJ]at x;subst x;exact b.2 (hn.2 ⟨d,b_ q,a⟩)
def bc.iW{gs}(e:bc (mz gs) b){a}(h:a∈gs):b.a.heap[a.1]?=f (.cells #[a.2.2] a.2.1 (0,0)):=by
 obtain⟨d,k⟩:=AN h;have aJ:(mz gs)[d]?=f (.K (ed a.1 a.2.1 a.2.2)):=M;have g:d<c b.t:=by rw[e.len];grind
 obtain⟨i,⟨_,j,_⟩,m,_⟩:=e.box d _ _ aJ (bH g);grind
def bk.iY{m}{args}{gs}(h:bk (af.aD P) m args (mz gs) res (λ_=>mz gs))(w:P.inits.idxOf? m=n)(O:(gs.map (·.1)).Nodup)(W:∀C∈gs,p.heap[C.1]?=f (.cells #[C.2.2] C.2.1 (0,0)))(ag:b4 (mz gs) (a6.cR gs p) z args){fw:Y->ar->Prop}(ah:∀s k b,bx (mz gs) b k (res s)->Below p.heap.size p b.a->∀D,fw k (b.a.at D)):
  ∃S last r i x,runNT P (S+1) (solo (G (Frame.enter P m z.toArray .normal) []) p) #[]=(.ended r i,x)/\runN P S (solo (G (Frame.enter P m z.toArray .normal) []) p)=.next last /\
   step P last=.ended r i/\Go.Conc.Good P fw last r i x:=by
 have T:=bc.cR O W;have key:=h.2 (a6.cR gs p) z ag T (λal b=>∃s k g,al=G g []/\ma P m g k b/\bx (mz gs) b k (res s)/\Below p.heap.size p b.a) []
  (λs g k b o q u e=>.stop ⟨s,k,g,rfl,o,q,⟨e.os,e.tape,e.output,e.size,λU M=>by
   by_cases A:U∈gs.map (·.1)
   .obtain⟨C,Z,rfl⟩:=hn.1 A;rw[u.iW Z,W C Z]
   .exact e.a3 U ⟨M,A⟩⟩⟩)
 have aM:AM.jA (λ_=>False)=λ_=>False:=by funext d;cases d<;>rfl
 obtain⟨t,ao,aq,an,b,V,x,ax,o,q,u,e,aa,ab,aw,⟨s,k,g,rfl,k1,ae,ai⟩⟩:=key.aD (λ_=>False) #[G (Frame.enter P m z.toArray .normal) []] n #[] (λ_=>0) T.mem rfl (Go.Conc.leavers_one P _)
  (by rw[aM];exact Go.Conc.past_nil.mono (gZ _)) ⟨λ_ h=>h.elim,λ_ h=>h.elim,λ_ h=>h.elim,λ_ h=>h.elim⟩ (λaA=>by intro s w;simp[Trace.act?]at w)
 have aj:=Go.Conc.beside_ends (P:=P) (Shun:=AM.jA ao) (B:=b.a.heap.size) (D:=λ_ _ _=>False) (Post:=fw) (λ_ _ _ h=>h.elim) (sl:=V) (n:=0) u e aa (Go.Conc.Goes.stop λw1 B=>by
  obtain⟨D,rfl⟩:=B;obtain⟨K,I,J⟩:=abT k1 w (b.a.at D) (λF r X Q=>q F r X Q);refine⟨a,k,K,I,λA L=>?_,ah s k b ae ai D⟩;obtain⟨F,r,X,rfl,Q⟩:=J A L;refine Go.Conc.evL_cell _ _ (λH=>?_) (gw.lt q Q);have:=ab.D F H r
  grind)
 obtain⟨E,last,r,i,t2,R,az,au,N⟩:=aj;refine⟨t+E,last,r,i,t2,?_,?_,au,N⟩
 .rw[show t+E+1=t+(E+1) by omega];exact(D4 t (E+1) o).trans R
 have A:=runNT_fst P t (crowd #[G (Frame.enter P m z.toArray .normal) []] p n) #[];have av:(runNT P t (crowd #[G (Frame.enter P m z.toArray .normal) []] p n) #[]).1=.next (crowd aq b.a V):=by have:runNT P t (crowd #[G (Frame.enter P m z.toArray .normal) []] p n) #[]=_:=o;grind
 grind[Go.Conc.solo_eq_crowd,runN_add]
def Rd.cR{gs}{p}(S:∀a∈gs,p.heap[a.1]?=f (.cells #[a.2.2] a.2.1 (0,0)))(u:∀a∈gs,∃A z,a.2.2=.iface A z){aa}{o}{h j}{b:Nat->m N}(I:∀(g i:Nat)d,(b g)[i]?=f d->∃kd x,d=N.int kd x)(K:Rd (a6.bw p).D aa (.B o h j b)):Rd (a6.cR gs p).D aa (.B v h j b):=by
 obtain⟨U,D,C,k,rfl,r,s,Q,M,O⟩:=K.jL;refine .hM r s Q M λg J i d e=>?_;obtain⟨z,q,y⟩:=O g J i d e;obtain⟨kd,x,rfl⟩:=I g i d e;cases y with
 |int w=>
  refine⟨_,?_,.int w⟩;have q:p.cell? ⟨C,k+g*h+i,n⟩=f (.int kd x):=q;show(if C∈gs.map (·.1)then n else p.cell? _)=_;rw[bj,q];intro t;obtain⟨a,E,rfl⟩:=hn.1 t;obtain⟨A,z,F⟩:=u a E;simp[aH,S a E,F]at q;grind
end
section
open Go.ChangeShapes Go.WideShapes Go.ChangeAt Go.RowKit
def abo{H:Type}{a:al×Y->H}{x}{N}{os}{r}{fn}{b}{h:m PathCond}{rj JP handsOn again}{q:ar->Array Y->Prop}(aa:∀d g args,d.heap=g.heap->q d args->q g args)(own:ownKnob N.prog.godebug=n)(I:os.Started)(W:N.prog.funcs[r]?=f fn)(K:∃(d:ar) (i:Tape) (e:Input),d.os=os/\(d.forCall i e).Shaped N.prog/\e.vars=[]/\Input.okWide N.prog (d.forCall i e) .any d.heap.size r e /\
   ((b.pre a N.prog fn h rj (d.forCall i e).memory e.args/\q (d.forCall i e).memory e.args)/\sizedMet a N.prog fn (OpenSpec.ofChange b) rj (d.forCall i e).memory e.args)/\x.holds N.prog (lone (Frame.enter N.prog r e.args .normal) [] (d.forCall i e)))(M:∀(k:ar) (base:Nat) (args:Array Y) (o p:m (DataW H)) (w:m MemPlace),
   (∀(z:Nat) A t,fn.params[z]?=f A->args[z]?=f t->Value.okWide N.prog k .any base A t) ->
   DataW.Whole a N.prog fn.params.toList b.vars rj k args.toList o p w->k.ShapedOpen N.prog->q k args ->
   ∃u last s g j,runNT N.prog (u+1) (Conc.solo (Conc.G (Frame.enter N.prog r args .normal) []) k) #[]=(.ended s g,j)/\runN N.prog u (Conc.solo (Conc.G (Frame.enter N.prog r args .normal) []) k)=.next last /\
    step N.prog last=.ended s g/\Conc.Good N.prog (λt R=>b.post a N.prog fn rj JP handsOn again k args t R) last s g j):
  ReturnsInLeavingWide x N os r .any (λd args=>(b.pre a N.prog fn h rj d args/\q d args)/\sizedMet a N.prog fn (OpenSpec.ofChange b) rj d args) (b.post a N.prog fn rj JP handsOn again):=by refine returnsInLeavingWide_of_good own I K ?_;intro d i e _ V _ U S ae;obtain⟨_,_,_,X,Q,_,_,_,_,O⟩:=U;have J:X=fn:=w0 (Q.symm.trans W);subst J;obtain⟨⟨⟨o,p,w,C,L⟩,F⟩,ab⟩:=S;have T:=DataW.Whole.of_heap (w':=d.forCall i e) oM C;obtain⟨u,last,s,g,j,y,Z,E,B⟩:=M (d.forCall i e) d.heap.size e.args o p w O T V (aa (d.forCall i e).memory (d.forCall i e) e.args rfl F);exact⟨u,last,s,g,j,y,Z,E,B.mono λt D=>ChangeSpec.post_blind D⟩
def adX(h){a}{b}{s}(d)(kinds)(e)(i)(ix)(D:s.holds a b)(A:∀y∈d,(s.withDomain y).holds a b)(B:s.wfByText b=l)(x:∀y∈d,(s.withDomain y).wfByText b=l)(u:s.laidByTextAt h a kinds e)(g:s.start=.entering)(k:s.noBlocks=v/\s.again=v)(m:a.checked.prog.mainIs=f (i.1,i.2.toList))(E:(!i.1&&i.2.isEmpty&&!ix)=v)(p:∀j fn,a.checked.prog.funcNamed s.func=f j->a.checked.prog.funcs[j]?=f fn->ix=a.checked.prog.looks []/\∀(z:Nat) r,fn.params[z]?=f r->a.checked.prog.wantsStandIn r=v)(C:l=s.goesBy a.checked.prog):
  Claim7.holds a (.plain b) {stood:={row:=s,standIns:=[],harness:=i,looks:=ix},kinds:=[],alts:=d,goes:=l,laidByText:=l,laidKinds:=kinds,laidTests:=e,laidLooks:=h}:=by
 have o:∀q:OpenClaim,Claim7.isSixth {stood:={row:=q,standIns:=[],harness:=i,looks:=ix},kinds:=[]}=v:=λq=>by exact cS
 refine⟨Claim7.tied_new_at h kinds e (Claim7.new_of_sixth D i ix g k m (o s) p) B,λy t=>?_,u,(λw=>by cases w),C⟩;exact Claim7.tied_new_at h kinds e (Claim7.new_of_sixth (A y t) i ix g k m (o _) p) (x y t)
end
namespace R1
def xY(b:bA)(a:Nat):Int:=(dq b a-97) % 256
def pE(b:bA)(a:Nat):Bool:=(xY b (a-1)+2*xY b (a-2)+3*xY b (a-3)) % 5==0
def lM(b:bA)(a:Nat):Nat->Nat
 |0=>min (a+8) (c b)
 |d+1=>if c b<=a+(7-d)then c b else if pE b (a+(7-d))then a+(7-d)else lM b a d
def ep(b:bA)(a:Nat):Nat:=lM b a 5
def If(o)(a)(d:a<c o):∀b,b<=5->a<lM o a b/\lM o a b<=c o/\lM o a b<=a+8
 |0,_=>by simp only[lM];omega
 |b+1,e=>by
  simp only[lM];split
  .omega
  split
  .omega
  exact If o a d b w
theorem rx(o)(a)(b:a<c o):a<ep o a/\ep o a<=c o/\ep o a<=a+8:=If o a b 5 w
def k'(a:bA):Nat->Nat->m Nat
 |0,_=>[]
 |d+1,b=>if b<c a then ep a b::k' a d (ep a b)else[]
def Td(a:bA):m Nat:=k' a (c a) 0
def iz(b:bA):Nat->Nat->m bA
 |0,_=>[]
 |d+1,a=>if a<c b then(b.drop a).take (ep b a-a)::iz b d (ep b a)else[]
def cm(a:bA):m bA:=iz a (c a) 0
def iO(a:m bA):Option bA:=if fL a.flatten&&(cm a.flatten==a)then f a.flatten else n
def cB(a:bA):Bool:=decide (1<=c a)&&decide (c a<=8)&&dV a
def gj(d:bA):Int:=d.foldl (λb a=>27*b+((a.toNat:Int)-97) % 256+1) 0
def ce(a:Int):Bool:=decide (1<=a)&&decide (a<=99)
def dW(a:Int)(b:bA):Int:=(gj b*(2*a+1)+a*7919) % 999999999989
def fa(a:Nat):Nat:=if a<1∨8<a then 0 else if a<=2 then 2 else if a<=4 then 4 else 8
def fK(a:bA):bA:=if cB a then a++aU (fa (c a)-c a) 46 else[]
def fo(a:bA):bA:=(a.reverse.dropWhile (·==46)).reverse
def hE(a:bA):Option bA:=if cB (fo a)&&(fK (fo a)==a)then f (fo a)else n
abbrev cW:=Int×bA
abbrev b':=Int×m cW
def right(b:Int)(a:cW):Bool:=match hE a.2 with|some d=>dW b d==a.1|none=>v
def Eh(b:m Int):Bool:=(aB (c b)).all λa=>a==0||decide (b.getD (a-1) 0<b.getD a 0)
def h'(b:Int)(a:b'):Bool:=
 decide (1<=a.1)&&decide (a.1<=99)&&ce b&&decide (1<=c a.2)&&decide (c a.2<=4)&&a.2.all (right b)&&Eh (a.2.map (·.1))
def iM(a:Int)(d:cW):Option bA:=match hE d.2 with|some b=>if ce a&&(dW a b==d.1)then f b else n|none=>n
def fS(b:Int)(e:b')(d:Int):Option bA:=match e.2.find? (λa=>a.1==d)with|some a=>iM b a|none=>n
def hD(b:b')(a:m Int):b':=(b.1,b.2.filter λd=>a.contains d.1)
def fB(e:m cW)(a:cW):m cW:=match e with
 |[]=>[a]
 |b::d=>if a.1<b.1 then a::b::d else b::fB d a
def jQ(a e:Int)(b:m bA):b':=(a,b.foldl (λg d=>fB g (dW e d,fK d)) [])
abbrev fg:=Int×Int
def fW(a:fg):Bool:=decide (0<=a.1)&&decide (a.1<999999999989)&&decide (1<=a.2)&&decide (a.2<=99)
def d'(e:m fg)(a:fg):m fg:=match e with
 |[]=>[a]
 |b::d=>if b.1<a.1 then b::d' d a else a::(b::d).filter (λg=>!(g.1==a.1))
def iU(b:m fg)(d:Int):Int:=match b.find? (λa=>a.1==d)with|some a=>a.2|none=>0
def dC(b:m b'):m fg:=b.flatMap λa=>a.2.map λd=>(d.1,a.1)
def eB(a:m b'):m fg:=if(dC a).all fW then(dC a).foldl d' []else[]
abbrev m2:=bA×m Int
abbrev eh:=Int×m m2
def kM(b:Int)(a:cM):m2:=(a.1,(cm a.2).map (dW b))
def fD(a b:Int)(d:m cM):eh:=(a,d.map (kM b))
def e8(d:Int)(e:m fg)(a:m bA)(b:bA):m bA:=if iU e (dW d b)==0&&!a.contains b then a++[b]else a
def fV(b:Int)(e:m cM)(d:m fg):m bA:=(e.flatMap λa=>cm a.2).foldl (e8 b d) []
def dg(b:Int)(a:m b')(d:Int):Option bA:=a.findSome? λe=>fS b e d
def qx{b}(e:dV b=l):∀a∈b,97<=a.toNat/\a.toNat<=122:=by intro a d;have:=aX.1 e a d;simpa[jp]using this
def BV:∀(e:bA) (a d:Int)(h:Nat),(∀b∈e,97<=b.toNat/\b.toNat<=122)->0<=a->a<d->1<=d ->
  0<=e.foldl (λa b=>27*a+((b.toNat:Int)-97) % 256+1) a/\e.foldl (λa b=>27*a+((b.toNat:Int)-97) % 256+1) a<d*27 ^ c e
 |[],a,d,_,_,j,i,_=>by grind
 |b::e,a,d,h,g,j,i,p=>by obtain⟨o,k⟩:=g b D;have:=BV e (27*a+((b.toNat:Int)-97) % 256+1) (d*27) h (λm q=>g m M) w w w;grind[Int.mul_assoc]
def LC:∀{j:Nat},j<=8->(27:Int) ^ j<=282429536481:=by
 intro j a
 match j,a with
 |0,_|1,_|2,_|3,_|4,_|5,_|6,_|7,_|8,_=>decide
def xE{b:bA}(d:cB b=l):0<=gj b/\gj b<282429536481:=by simp[cB,ck,bw]at d;obtain⟨e,a⟩:=BV b 0 1 0 (qx d.2) w w w;have:=LC d.1.2;rw[Int.one_mul]at a;exact⟨e,Int.lt_of_lt_of_le a this⟩
def Tb:∀a:Fin 200,a.val≠0->Nat.gcd 999999999989 a.val=1:=E5
def aaf{x:Nat}{P s a}(b:P=(x:Int))(g:P ∣ s*a)(i:0<s)(k:s<P)(h:Nat.gcd x a.natAbs=1):False:=by
 subst b;have e:x ∣ s.natAbs*a.natAbs:=by have:=Int.natAbs_dvd_natAbs.2 g;grind[Int.natAbs_mul,Int.natAbs_natCast]
 have d:x ∣ s.natAbs:=Nat.Coprime.dvd_of_dvd_mul_right h e;have j:=Nat.le_of_dvd w d;omega
def TH{a b P:Int}(d:a % P=b % P):P ∣ a-b:=Int.dvd_of_emod_eq_zero (by rw[Int.sub_emod,d,Int.sub_self,Int.zero_emod])
def o4(b:bA):Int:=b.foldr (λa d=>27*d+((a.toNat:Int)-97) % 256+1) 0
def HV:∀a:bA,0<=o4 a
 |[]=>by simp[o4]
 |b::a=>by have:=HV a;simp[o4,List.foldr_cons]at *;omega
def HU:∀{S bl:bA},(∀a∈S,97<=a.toNat/\a.toNat<=122)->(∀a∈bl,97<=a.toNat/\a.toNat<=122)->o4 S=o4 bl->S=bl
 |[],[],_,_,_=>rfl
 |[],s::bl,_,b,d|s::bl,[],b,_,d=>by have:=HV bl;simp[o4,List.foldr_cons,List.foldr_nil]at *;omega
 |a::S,s::bl,g,b,d=>by have j:=g a D;have k:=b s D;have h:=HU (S:=S) (bl:=bl) (λe i=>g e M) (λe i=>b e M);simp[o4,List.foldr_cons]at d h;grind[UInt8.toNat_inj]
def S7{a d}(g:cB a=l)(h:cB d=l)(j:gj a=gj d):a=d:=by
 have i:∀a,gj a=o4 a.reverse:=λa=>by simp[gj,o4,List.foldr_reverse]
 simp[cB,ck]at g h;rw[i,i]at j;exact List.reverse_inj.1 (HU (λe b=>qx g.2 e (List.mem_reverse.1 b)) (λe b=>qx h.2 e (List.mem_reverse.1 b)) j)
def yL(o:ce h=l){j k}(p:cB j=l)(q:cB k=l)(i:dW h j=dW h k):j=k:=by
 refine S7 p q ?_;simp[ce,ck,bw]at o;obtain⟨r,m⟩:=xE p;obtain⟨g,d1⟩:=xE q;have key:∀d e:Int,0<=d->0<=e->d<282429536481->d>e->(d*(2*h+1)+h*7919) % 999999999989=(e*(2*h+1)+h*7919) % 999999999989->False:=by intro d e z y u t i;have b:=TH i;rw[show(d*(2*h+1)+h*7919)-(e*(2*h+1)+h*7919)=(d-e)*(2*h+1) by grind]at b;have s:(2*h+1).natAbs<200:=w;exact aaf (x:=999999999989) a b w w (Tb ⟨_,s⟩ M)
 rcases Int.lt_trichotomy (gj j) (gj k)with b|b|b
 .exact(key _ _ g r d1 b i.symm).elim
 .exact b
 exact(key _ _ r g m b i).elim
theorem acA{a}(h:dV a=l)(j):fo (a++aU j 46)=a:=by
 have i:∀j,List.dropWhile (·==46) ((aU j (46:UInt8))++a.reverse)=a.reverse:=by
  intro j;induction j with
  |zero=>
   simp[List.replicate_zero,p1];cases k:a.reverse with
   |nil=>rfl
   |cons b m=>
    have g:b∈a:=List.mem_reverse.1 M;have:=qx h b g;have d:(b==46)=v:=by simp[eZ];rintro rfl;grind
    simp[d]
  |succ j e=>simpa[List.replicate_succ]using e
 unfold fo;grind
def aaE{a}(b:cB a=l):hE (fK a)=f a:=by
 have e:dV a=l:=by simp[cB,ck]at b;exact b.2
 have g:fK a=a++aU (fa (c a)-c a) 46:=by simp[fK,b]
 have d:fo (fK a)=a:=by grind[acA]
 simp[hE,d,b]
def jw(a:m cW)(b d:Nat):m cW:=(a.set b (a.getD d (0,[]))).set d (a.getD b (0,[]))
def nB(a:m cW)(b d:Nat):Bool:=decide ((a.getD b (0,[])).1<(a.getD d (0,[])).1)
def i5:Nat->m cW->Nat->m cW
  |0,b,_=>b
  |d+1,b,a=>if(a-1) / 2=a then b else if nB b a ((a-1) / 2)=l then i5 d (jw b ((a-1) / 2) a) ((a-1) / 2)else b
def jn(b:m cW)(a d:Nat):Nat:=if 2*a+2<d/\nB b (2*a+2) (2*a+1)=l then 2*a+2 else 2*a+1
def g9:Nat->m cW->Nat->Nat->m cW
  |0,a,_,_=>a
  |e+1,a,b,d=>if d<=2*b+1 then a else if nB a (jn a b d) b=l then g9 e (jw a b (jn a b d)) (jn a b d) d else a
def hF(a:m cW)(b:cW):m cW:=i5 (c a+1) (a++[b]) (c a)
def hc(a:m cW):m cW:=g9 (c a) (jw a 0 (c a-1)) 0 (c a-1)
def kQ:Nat->m cW->m cW
  |0,_=>[]
  |b+1,a=>if c a=0 then[]else(hc a).getD (c a-1) (0,[])::kQ b ((hc a).take (c a-1))
def l6(a:m cW):m cW:=kQ (c a) (a.foldl hF [])
theorem pC(d)(e u):c (jw d e u)=c d:=by simp[jw]
def Nl:∀a b d,c (i5 a b d)=c b
  |0,_,_=>rfl
  |a+1,b,d=>by unfold i5;split;rfl;split;rw[Nl a,pC];rfl
def Iv:∀a b d e,c (g9 a b d e)=c b
  |0,_,_,_=>rfl
  |a+1,b,d,e=>by unfold g9;split;rfl;split;rw[Iv a,pC];rfl
def LI(d)(a):c (hF d a)=c d+1:=by simp[hF,Nl]
theorem Lz(d):c (hc d)=c d:=by simp[hc,Iv,pC]
def acE{d}(g:e<c d)(h:u<c d){a}:a∈jw d e u->a∈d:=by intro b;unfold jw at b;grind
def DP(a):hF [] a=[a]:=cS
def DQ(a b):hF [a] b=if b.1<a.1 then[b,a]else[a,b]:=FR
def LH(a i b):hF [a,i] b=if b.1<a.1 then[b,i,a]else[a,i,b]:=FR
def aaW(b i s a):hF [b,i,s] a=if a.1<i.1 then(if a.1<b.1 then[a,b,s,i]else[b,a,s,i])else[b,i,s,a]:=FR
def DO(a){d a'}{F}(e:c d=j+1)(b:hc d=a'++[F])(g:c a'=j):kQ (a+1) d=F::kQ a a':=by rw[kQ,bj w,b];grind
def aaP(a):kQ 1 [a]=[a]:=cS
def LA(b i):kQ 2 [b,i]=[b,i]:=by rw[DO 1 (a':=[i]) (F:=b) (j:=1) a cS a,aaP]
def LB(b i s):kQ 3 [b,i,s]=if i.1<s.1 then[b,i,s]else[b,s,i]:=by rw[DO 2 (a':=if i.1<s.1 then[i,s]else[s,i]) (F:=b) (j:=2) a (by simp[hc,g9,jw,jn,nB];split<;>rfl) (by split<;>rfl)];split<;>rw[LA]
def aaQ(d i s b):kQ 4 [d,i,s,b]=d::kQ 3 (if s.1<i.1 then(if s.1<b.1 then[s,i,b]else[b,i,s])else if i.1<b.1 then[i,b,s]else[b,i,s]):=by rw[DO 3 (a':=if s.1<i.1 then(if s.1<b.1 then[s,i,b]else[b,i,s])else if i.1<b.1 then[i,b,s]else[b,i,s]) (F:=d) (j:=3) a ?_ (by split<;>split<;>rfl)];by_cases e:s.1<i.1<;>by_cases g:s.1<b.1<;>by_cases h:i.1<b.1<;>simp[hc,g9,jw,jn,nB,e,g,h]
theorem aa0(d)(r:c d<=4)(i:d.Pairwise λa b=>a.1≠b.1):l6 d=d.foldl fB []:=by
  match d,r with
  |[],_=>rfl
  |[a],_=>exact cS
  |[a,b],_=>
    simp at i;simp[l6,List.foldl,DP,DQ,fB,fh,gK];split<;>simp[LA]
  |[a,b,e],_=>
    simp at i;obtain⟨⟨x,w⟩,y⟩:=i;simp[l6,List.foldl,DP,DQ,fB,fh,gK];by_cases o:b.1<a.1<;>by_cases h:e.1<a.1<;>by_cases p:e.1<b.1<;>first|omega |
      (have m:(a.1<b.1)=¬(b.1<a.1):=by grind
       have j:(a.1<e.1)=¬(e.1<a.1):=M;have k:(b.1<e.1)=¬(e.1<b.1):=M
       simp[o,h,p,m,j,k,LH,LB,fB])
  |[a,b,e,g],_=>
    simp at i;obtain⟨⟨x,w,y⟩,⟨C,D⟩,B⟩:=i;simp[l6,List.foldl,DP,DQ,fB,fh,gK];by_cases o:b.1<a.1<;>by_cases h:e.1<a.1<;>by_cases p:e.1<b.1<;>by_cases q:g.1<a.1<;>by_cases A:g.1<b.1<;>by_cases u:g.1<e.1<;>first|omega |
      (have m:(a.1<b.1)=¬(b.1<a.1):=by grind
       have j:(a.1<e.1)=¬(e.1<a.1):=M;have k:(b.1<e.1)=¬(e.1<b.1):=M;have s:(a.1<g.1)=¬(g.1<a.1):=M;have z:(b.1<g.1)=¬(g.1<b.1):=M;have t:(e.1<g.1)=¬(g.1<e.1):=M
       simp[o,h,p,q,A,u,m,j,k,s,z,t,LH,aaW,aaQ,LB,fB])
def yM{a:Type}[BEq a][LawfulBEq a]:∀(L b:m a),L.Nodup->(∀d∈L,d∈b)->c L<=c b
 |[],b,_,_=>gZ _
 |e::L,b,p,i=>by
  obtain⟨o,k⟩:=List.nodup_cons.1 p;have h:=i e ir;have:=yM L (b.erase e) k λd g=>by have:d≠e:=λj=>o (j▸g);exact(List.mem_erase_of_ne this).2 (i d (mh _ g))
  have j:=List.length_erase_of_mem h;have:=List.length_pos_of_mem h;simp[fh];omega
def A4:∀{j k:m Int},j.Pairwise (· < ·)->k.Pairwise (· < ·)->(∀e,e∈j↔e∈k)->j=k
 |[],[],_,_,_=>rfl
 |[],h::k,_,_,a=>by have:=(a h).2 ir;cases this
 |g::j,[],_,_,a=>by have:=(a g).1 ir;cases this
 |g::j,h::k,u,w,a=>by
  obtain⟨r,p⟩:=iG.1 u;obtain⟨s,q⟩:=iG.1 w;have d:=(a g).1 ir;have b:=(a h).2 ir;simp[e9]at d b;have t:g=h:=by
   rcases d with d|d
   .exact d
   rcases b with b|b
   .exact b.symm
   have:=r h b;have:=s g d;omega
  subst t;rw[A4 p q λe=>?_];have o:=a e;simp[e9]at o;constructor
  .intro C;have:=r e C;rcases o.1 (.inr C)with i|i
   .omega
   exact i
  intro C;have:=s e C;rcases o.2 (.inr C)with i|i
  .omega
  exact i
section
variable {q:af T}
def Br:bI:=λargs a=>match args,a with
 |[.n (.Q (.c (.T b)))],[]=>f (bf (fT b),[],[])
 |_,_=>n
def acW:bK q 72 Br:=by intro args g b d a e _;unfold Br at e;grind[W_]
def xq:bI:=λargs a=>match args,a with
 |[.n (.Q (.c (.T b)))],[]=>f (bf (fL b),[],[])
 |_,_=>n
def t73:bK q 73 xq:=by intro args g b d a e _;unfold xq at e;grind[X']
def Bs:bI:=λargs d=>match args,d with
 |[.n (.Q (.c (.T a))),.n (.Q (.c (.T b)))],[]=>f (bf (k7 a b),[],[a≠[],b≠[]])
 |_,_=>n
def t74:bK q 74 Bs:=by
 intro args h e g d b a;unfold Bs at b;split at b
 .cases b;exact Ug _ _ a.1 a.2
 grind
def Ia:m (Nat×bI):=(72,Br)::(73,xq)::(74,Bs)::H2
def lL:a_ q Ia:=a_.cons acW (a_.cons t73 (a_.cons t74 qe))
def cu(b:m cM)(a:Nat):bA:=(b.getD a ([],[])).1
def lr(b:m cM)(a:Nat):bA:=(b.getD a ([],[])).2
def ko(o)(e):(o.getD e bu.F).1=cu o e:=rfl
def tL(o)(e):(o.getD e bu.F).2=lr o e:=rfl
def i1(b:m cM)(a:Nat):Bool:=fT (cu b a)&&fL (lr b a)&&(a==0||aR (cu b (a-1)) (cu b a))&&(aB a).all λd=>!k7 (cu b d) (cu b a)
def dM(a:m cM):Bool:=(aB (c a)).all (i1 a)&&decide (c a<=6)
def fZ{b:Nat->Bool}:(aB j).all b=l↔∀a,a<j->b a=l:=M
def y0{b}(a:fT b=l):b≠[]:=by rintro rfl;exact cS
def zD{o}(b:e<c o)(d:i1 o e=v):dM o=v:=by
 cases a:dM o with
 |false=>rfl
 |true=>
  simp only[dM,ck]at a;grind
def Yc(o):X q 46 [bu.B o] [] (bf (dM o)) []:=by
 refine X.J func46 rfl λy=>?_;have E:=y.B 0 a;refine b8 lL a B (g.eh (λb=>b<=c o/\∀e,e<b->i1 o e=l) (λb:Nat=>[(0,bu.B o),(3,Q b)]) (λ_=>[]) (λb=>c o-b) 0 a FU ⟨by omega,by omega⟩ a ?_);rintro b ⟨u,x⟩;by_cases t:b<c o
 .by_cases i:fT (cu o b)=l
  .by_cases O:fL (lr o b)=l
   .by_cases j:b=0∨aR (cu o (b-1)) (cu o b)=l
    .apply g.cg [(0,bu.B o),(3,Q b),(4,Q 0)] []
     .intro bX;by_cases k:b=0
      .refine a8 lL [8,16,24,-29] a ?_ (bX _ _ a ?_)
       .simp[-ak,t,ko,tL,i,O];omega
       simp[bs]
      have C:=j.resolve_left k;have s:a7 .i64 ((b:Int)-1):=cS;have A:((b:Int)-1).toNat=b-1:=w;refine a8 lL [8,16,24,29,-42] a P3 (bX _ _ a ?_);simp[bs]
     ·
      have z:i1 o b=(aB b).all (λe=>!k7 (cu o e) (cu o b)):=by
       rcases j with rfl|C
       .simp[i1,i,O]
       simp[i1,i,O,C]
      refine g.eh (λe=>e<=b/\∀m,m<e->k7 (cu o m) (cu o b)=v) (λe:Nat=>[(0,bu.B o),(3,Q b),(4,Q e)]) (λ_=>[]) (λe=>b-e) 0 a FU ⟨by omega,by omega⟩ a ?_;rintro e ⟨I,F⟩;by_cases h:e<b
      .have d:fT (cu o e)=l:=by have:=x e h;simp only[i1,ck]at this;exact this.1.1.1
       cases p:k7 (cu o e) (cu o b)with
       |true=>
        refine a8 lL [47,60] a ?_ (g.bQ (g.dK (bY.zero a ?_)))
        .simp[-ak,t,h,ko,p,y0 i,y0 d];omega
        have:i1 o b=v:=M;simp[zD t this]
       |false=>
        refine a8 lL [47,-60] a ?_ (g.again (e+1) a ?_ ?_ ?_ a)
        .simp[-ak,t,h,ko,p,y0 i,y0 d,a7];omega
        .simp[bs]
        .grind
        omega
      have h:e=b:=w;subst h;refine a8 lL [-47] a D (g.bs a a ?_);exact b8 lL a cS (g.again (e+1) a FU M w a)
    have k:b≠0:=λr=>j (.inl r);have C:aR (cu o (b-1)) (cu o b)=v:=M;have s:a7 .i64 ((b:Int)-1):=cS;have A:((b:Int)-1).toNat=b-1:=w;refine a8 lL [8,16,24,29,42] a P3 (g.bQ (bY.zero a ?_));simp[U,zD t (by simp[i1,k,C])]
   refine a8 lL [8,16,-24] a ?_ (g.bQ (bY.zero a ?_))
   .simp[-ak,t,ko,tL,i,O]
   simp[U,zD t (by simp[i1,O])]
  refine a8 lL [8,-16] a ?_ (g.bQ (bY.zero a ?_))
  .simp[-ak,t,ko,i]
  simp[U,zD t (by simp[i1,i])]
 refine a8 lL [-8] a bQ (g.bs a a ?_);refine b8 lL a B (g.ao a ?_);simp only[U,dM];grind
end
section
open Go.Proofs Go.Conc.Lib
def qT:WgLink:={add:=185,done:=187,wait:=189,relMerge:=226,disable:=227,enable:=228,inBubble:=229,associate:=230,fatal:=231,uOr:=232,uAdd:=233,raceRead:=234,uLoad:=235,uStore:=236,disassociate:=237,semrelease:=238,acquire:=240,isAssociated:=241,uCas:=242,raceWrite:=243,semacquire:=244,orU64:=282,addU64:=283,loadU64:=284,storeU64:=285,casU64:=288,tWgP:=291,tUP:=218,tAssoc:=293,tWg:=242,tAU:=239,tU64:=237,tUint:=264,tU32:=240,tPU32:=297,tPAU:=346,tPU64:=348,tNoCopy:=234,tANoCopy:=235,tAlign64:=236}
def wc:WgLib T qT where
 f_add:=Tryz.func185.trans (eD f bU)
 f_done:=Tryz.func187.trans (eD f bU)
 f_wait:=Tryz.func189.trans (eD f bU)
 f_relMerge:=Tryz.func226.trans (eD f bU)
 f_disable:=Tryz.func227.trans (eD f bU)
 f_enable:=Tryz.func228.trans (eD f bU)
 f_inBubble:=Tryz.func229.trans (eD f bU)
 f_associate:=Tryz.func230.trans (eD f bU)
 f_fatal:=Tryz.func231.trans (eD f bU)
 f_uOr:=Tryz.func232.trans (eD f bU)
 f_uAdd:=Tryz.func233.trans (eD f bU)
 f_raceRead:=Tryz.func234.trans (eD f bU)
 f_uLoad:=Tryz.func235.trans (eD f bU)
 f_uStore:=Tryz.func236.trans (eD f bU)
 f_disassociate:=Tryz.func237.trans (eD f bU)
 f_semrelease:=Tryz.func238.trans (eD f bU)
 f_acquire:=Tryz.func240.trans (eD f bU)
 f_isAssociated:=Tryz.func241.trans (eD f bU)
 f_uCas:=Tryz.func242.trans (eD f bU)
 f_raceWrite:=Tryz.func243.trans (eD f bU)
 f_semacquire:=Tryz.func244.trans (eD f bU)
 f_orU64:=Tryz.func282.trans (eD f bU)
 f_addU64:=Tryz.func283.trans (eD f bU)
 f_loadU64:=Tryz.func284.trans (eD f bU)
 f_storeU64:=Tryz.func285.trans (eD f bU)
 f_casU64:=Tryz.func288.trans (eD f bU)
 underlying_tWgP:=Tryz.underlying291
 runUnderlying_tWgP:=Tryz.runUnderlying291
 sizeOf_tWgP:=Tryz.sizeOf291
 isAgg_tWgP:=Tryz.isAgg291
 zeroValue_tWgP:=Tryz.zeroValue291
 underlying_tUP:=Tryz.underlying218
 runUnderlying_tUP:=Tryz.runUnderlying218
 sizeOf_tUP:=Tryz.sizeOf218
 isAgg_tUP:=Tryz.isAgg218
 zeroValue_tUP:=Tryz.zeroValue218
 underlying_tI32:=Tryz.underlying293
 runUnderlying_tI32:=Tryz.runUnderlying293
 sizeOf_tI32:=Tryz.sizeOf293
 isAgg_tI32:=Tryz.isAgg293
 zeroValue_tI32:=Tryz.zeroValue293
 underlying_tWg:=Tryz.underlying242
 runUnderlying_tWg:=Tryz.runUnderlying242
 sizeOf_tWg:=Tryz.sizeOf242
 isAgg_tWg:=Tryz.isAgg242
 zeroValue_tWg:=Tryz.zeroValue242
 underlying_tAU:=Tryz.underlying239
 runUnderlying_tAU:=Tryz.runUnderlying239
 sizeOf_tAU:=Tryz.sizeOf239
 isAgg_tAU:=Tryz.isAgg239
 zeroValue_tAU:=Tryz.zeroValue239
 underlying_tU64:=Tryz.underlying237
 runUnderlying_tU64:=Tryz.runUnderlying237
 sizeOf_tU64:=Tryz.sizeOf237
 isAgg_tU64:=Tryz.isAgg237
 zeroValue_tU64:=Tryz.zeroValue237
 underlying_tSh:=Tryz.underlying264
 runUnderlying_tSh:=Tryz.runUnderlying264
 sizeOf_tSh:=Tryz.sizeOf264
 isAgg_tSh:=Tryz.isAgg264
 zeroValue_tSh:=Tryz.zeroValue264
 underlying_tU32:=Tryz.underlying240
 runUnderlying_tU32:=Tryz.runUnderlying240
 sizeOf_tU32:=Tryz.sizeOf240
 isAgg_tU32:=Tryz.isAgg240
 zeroValue_tU32:=Tryz.zeroValue240
 underlying_tPU32:=Tryz.underlying297
 runUnderlying_tPU32:=Tryz.runUnderlying297
 sizeOf_tPU32:=Tryz.sizeOf297
 isAgg_tPU32:=Tryz.isAgg297
 zeroValue_tPU32:=Tryz.zeroValue297
 underlying_tPAU:=Tryz.underlying346
 runUnderlying_tPAU:=Tryz.runUnderlying346
 sizeOf_tPAU:=Tryz.sizeOf346
 isAgg_tPAU:=Tryz.isAgg346
 zeroValue_tPAU:=Tryz.zeroValue346
 underlying_tPU64:=Tryz.underlying348
 runUnderlying_tPU64:=Tryz.runUnderlying348
 sizeOf_tPU64:=Tryz.sizeOf348
 isAgg_tPU64:=Tryz.isAgg348
 zeroValue_tPU64:=Tryz.zeroValue348
 underlying_t0:=Tryz.underlying0
 runUnderlying_t0:=Tryz.runUnderlying0
 sizeOf_t0:=Tryz.sizeOf0
 isAgg_t0:=Tryz.isAgg0
 zeroValue_t0:=Tryz.zeroValue0
 underlying_t3:=Tryz.underlying3
 runUnderlying_t3:=Tryz.runUnderlying3
 sizeOf_t3:=Tryz.sizeOf3
 isAgg_t3:=Tryz.isAgg3
 zeroValue_t3:=Tryz.zeroValue3
 underlying_t4:=Tryz.underlying4
 runUnderlying_t4:=Tryz.runUnderlying4
 sizeOf_t4:=Tryz.sizeOf4
 isAgg_t4:=Tryz.isAgg4
 zeroValue_t4:=Tryz.zeroValue4
 underlying_t9:=Tryz.underlying9
 runUnderlying_t9:=Tryz.runUnderlying9
 sizeOf_t9:=Tryz.sizeOf9
 isAgg_t9:=Tryz.isAgg9
 zeroValue_t9:=Tryz.zeroValue9
 underlying_t20:=Tryz.underlying20
 runUnderlying_t20:=Tryz.runUnderlying20
 sizeOf_t20:=Tryz.sizeOf20
 isAgg_t20:=Tryz.isAgg20
 zeroValue_t20:=Tryz.zeroValue20
 underlying_t21:=Tryz.underlying21
 runUnderlying_t21:=Tryz.runUnderlying21
 sizeOf_t21:=Tryz.sizeOf21
 isAgg_t21:=Tryz.isAgg21
 zeroValue_t21:=Tryz.zeroValue21
 room_tWg:=bU
 room_tU32:=bU
end
end R1
def b4.imp{h g}{bh a}(i:∀e,bx k b e h->bx k b e g)(j:∀z,b4 k b z bh->b4 k b z a):∀z,b4 k b z (h::bh)->b4 k b z (g::a)
 |[],d=>d.elim
 |e::z,d=>⟨i e d.1,j z d.2⟩
abbrev xT(a:cM):y:=.n (.agg [.c (.T a.1),.c (.T a.2)])
abbrev mT(a:m cM)(b:Bool):y:=.S [.Q (.c (.B v 2 (c a) (bu.fn a))),.Q (.c (.bool b))]
namespace R1
variable {q:af T}
def sD:bI:=λargs d=>match args,d with
 |[e],[]=>match js 2 e with
  |none=>n
  |some (a,b)=>f (bf (dM (bu.ad a b)),[],[bu.bK a b])
 |_,_=>n
def t46:bK q 46 sD:=by
 intro args j e g d a b;unfold sD at a;split at a
 .split at a
  .cases a
  rename_i k m h;cases a;exact(Yc _ ).args (λ_ z=>b4.imp (λ_=>bu.cv h b) (λ_ i=>i) z)
 grind
def Ib:m (Nat×bI):=(46,sD)::Ia
def S8:a_ q Ib:=a_.cons t46 lL
end R1
def c0.aX(a:c0 α)(d)(e):bs (c d+1) (cg (c d) (a.fn d) (λb=>[a.a7 e].getD b [])) (a.fn (d++[e])):=by intro b g;unfold cg c0.fn gF;grind
@[simp] theorem bs.same{a:Nat->m N}:bs j a a:=λ_ _=>rfl
@[simp] theorem bs.nil{a b:Nat->m N}:bs 0 a b:=λe d=>by omega
namespace R1
variable {q:af T}
def Ic:m (Nat×bI):=Ib
def S9:a_ q Ic:=S8
end R1
def kw.fX{args}(h:kw args k)(m:Nat){ah}(d:args[m]?=f (.n (.agg ah)))(i:Nat){o}{p}(b:ah[i]?=f (R.c (.B o p j V))):j<=9223372036854775807:=by obtain⟨q,s,g⟩:=h.at d;obtain⟨z,_,a⟩:=g;obtain⟨r,_,e⟩:=bM.get a b;cases e<;>omega
namespace R1
def lG{S:Nat->Bool}(a:e<j)(b:S e=v):(aB j).all S=v:=M
def je{S:Nat->Bool}(b:∀a,a<e->S a=l)(g:S e=l):∀a,a<e+1->S a=l:=λa d=>by grind
end R1
def dF.put(a b:Int):dF->dF
 |.nil=>.ay .nil a b .nil
 |.ay d F g e=>if a<F then .ay (d.put a b) F g e else if F<a then .ay d F g (e.put a b)else .ay d a b e
def dF.ad:dF->m (Int×Int)
 |.nil=>[]
 |.ay a d e b=>a.ad++(d,e)::b.ad
def dF.find(a:Int):dF->Int
 |.nil=>0
 |.ay d b g e=>if a=b then g else if a<b then d.find a else e.find a
namespace R1
theorem aa4{d}{b}(g:∀a∈d,a.1<b.1):d' d b=d++[b]:=by
 induction d with
 |nil=>rfl
 |cons i h e=>
  simp[d'];grind
def LM{d a}{b}(h:∀e∈d,e.1<b.1):d' (d++a) b=d++d' a b:=by
 induction d with
 |nil=>rfl
 |cons i d g=>
  simp[uw,d'];grind
def aa7{d a'}{b}(g:∀a∈a',b.1<a.1):d' (d++a') b=d' d b++a':=by
 have k:a'.filter (λh=>!(h.1==b.1))=a':=sh.2 λa j=>by grind
 induction d with
 |nil=>
  cases a' with
  |nil=>rfl
  |cons e a' =>
   have:=g e ir;simp[p1,d'];grind
 |cons e d i=>
  simp[uw,d'];grind
abbrev dF.fj(a:dF):Prop:=a.ad.Pairwise λb d=>b.1<d.1
theorem DT{g i}:∀{o:dF},dF.fj o->(o.put g i).ad=d' o.ad (g,i)
 |.nil,_=>rfl
 |.ay d e h a',q=>by
  obtain⟨s,p,t⟩:=m_.1 q;have r:=iG.1 p;have m:∀a∈d.ad,a.1<e:=λa b=>t a b (e,h) ir;simp[dF.put,dF.ad];split
  .rename_i j;simp[dF.ad];rw[DT (o:=d) s,aa7 (a':=(e,h)::a'.ad)];grind
  split
  .rename_i _ j;simp[dF.ad];rw[DT (o:=a') r.2,LM (d:=d.ad) λa b=>by grind];simp[d'];grind
  have k:g=e:=w;subst k;simp[dF.ad];rw[LM (d:=d.ad) λa b=>m a b];simp only[d'];rw[bj D,so,bj D,sh.2 λa b=>by grind]
theorem aa9{d}{b}(j:d.Pairwise λe a=>e.1<a.1):(d' d b).Pairwise (λe a=>e.1<a.1)/\∀g∈d' d b,g=b∨g∈d:=by
 induction d with
 |nil=>simp[d']
 |cons a p h=>
  obtain⟨m,i⟩:=iG.1 j;obtain⟨k,o⟩:=h i;simp[d'];grind[List.pairwise_cons]
def CM{j}:∀{o:dF},dF.fj o->o.find j=iU o.ad j
 |.nil,_=>rfl
 |.ay b d q p,m=>by obtain⟨h,e,i⟩:=m_.1 m;have g:=iG.1 e;have s:∀a∈b.ad,a.1<d:=λa k=>i a k (d,q) ir;simp[dF.find,dF.ad];have r:=CM (j:=j) (o:=b) h;have t:=CM (j:=j) (o:=p) g.2;unfold iU at *;grind
end R1
namespace R1
section
variable {q:af T}
def mI(b:cM)(a:m cM×Bool)(d:bA):m cM×Bool:=if a.2=l then a else if aR d b.1=l then a else(a.1++[b],l)
def y6(d:cM)(a:m cM×Bool)(b:cM):m cM×Bool:=if b.1=d.1 then a else(a.1++[b],a.2)
def rU(b:cM)(a:m cM×Bool)(d:cM):m cM×Bool:=y6 b (mI b a d.1) d
def mJ(a:cM)(b:m cM):m cM×Bool:=b.foldl (rU a) ([],v)
def ll(b:m cM)(a:cM):m cM:=if(mJ a b).2=l then(mJ a b).1 else(mJ a b).1++[a]
theorem o_{o}(b:e<c o):o[e]=(cu o e,lr o e):=by have a:o.getD e ([],[])=o[e]:=M;simp only[cu,lr,a]
def aaZ{a}{o}(b:e<c o):mJ a (o.take (e+1))=rU a (mJ a (o.take e)) (cu o e,lr o e):=by rw[uA,bH b,o_ b];simp[mJ]
def LJ(a)(uC)(C):(mI a uC C).1.length<=c uC.1+1:=z9
def aaY(a)(uC)(C):(y6 a uC C).1.length<=c uC.1+1:=by unfold y6;grind
def LK(b):∀e(a:m cM×Bool),(e.foldl (rU b) a).1.length<=c a.1+2*c e
 |[],a=>by simp
 |d::g,a=>by
  have h:=LK b g (rU b a d);have i:=LJ b a d.1;have j:=aaY b (mI b a d.1) d;simp only[iI,fh];have:(rU b a d).1.length<=c a.1+2:=by unfold rU;omega
  omega
abbrev xV(b:Nat)(a:m cM):y:=.n (.Q (.x b 2 (c a) (bu.fn a)))
abbrev nb(a:m cM):aq:=.x 45 2 (c a) (bu.fn a)
def Xm(o)(aj)(F:c o<=4000000):X q 111 [bu.B o,xT aj] [] (xV 0 (ll o aj)) [nb (ll o aj)]:=by
 refine X.J func111 rfl λE=>?_;refine aW a B (g.bG 5 45 2 a a ?_);let R:Nat->m cM×Bool:=λe=>mJ aj (o.take e);have s:∀e,e<=c o->(R e).1.length<=8000000:=by intro e k;have:=LK aj (o.take e) ([],v);simp at this;show(mJ aj (o.take e)).1.length<=_;unfold mJ;omega
 refine g.b6 (λe=>e<=c o) (λe:Nat=>[(0,bu.B o),(3,aI 0 0),(7,Q e),(5,xV 1 (R e).1),(6,bf (R e).2)]) (λe=>[.cells 45 [.c (.T aj.1),.c (.T aj.2)],nb (R e).1]) (λe=>c o-e) 0 a ?_ a ?_ w ?_
 .simp[bs,R,mJ]
 .simp[bs,R,mJ]
 intro e k;by_cases t:e<c o
 .have z:R (e+1)=rU aj (R e) (cu o e,lr o e):=aaZ t;have y:=s e k;generalize R e=b at *;have A:=LJ aj b (cu o e);apply g.cg [(0,bu.B o),(3,aI 0 0),(7,Q e),(5,xV 1 (mI aj b (cu o e)).1),(6,bf (mI aj b (cu o e)).2)] [.cells 45 [.c (.T aj.1),.c (.T aj.2)],nb (mI aj b (cu o e)).1]
  .intro bX;cases r:b.2 with
   |true=>
    have j:mI aj b (cu o e)=b:=z9;rw[j]at bX;refine bL [12,15,909] a gH (bX _ _ a ?_);exact bv
   |false=>
    cases x:aR (cu o e) aj.1 with
    |true=>
     have j:mI aj b (cu o e)=b:=z9;rw[j]at bX;refine bL [12,-15,-25,909] a ?_ (bX _ _ a ?_)
     .simp[-ak,t,ko,x]
     exact bv
    |false=>
     have j:mI aj b (cu o e)=(b.1++[aj],l):=z9;rw[j]at bX;refine bL [12,-15,25,909] a ?_ (g.bb _ a ?_ (bX _ _ a ?_))
     .simp[-ak,t,ko,x,show rG.bytes=32 from a];omega
     .exact QB
     exact QB
  have u:R (e+1)=y6 aj (mI aj b (cu o e)) (cu o e,lr o e):=z;generalize mI aj b (cu o e)=h at *;by_cases p:cu o e=aj.1
  .have i:R (e+1)=h:=by rw[u];exact bo p
   refine bL [-38] a ?_ (g.b1 (e+1) a ?_ a ?_ ?_ ?_)
   .simp[-ak,t,ko,p,a7];omega
   .simp_all
   .simp_all
   .omega
   omega
  have i:R (e+1)=(h.1++[(cu o e,lr o e)],h.2):=by rw[u];exact bj p
  refine bL [38] a ?_ (g.b1 (e+1) a ?_ a ?_ ?_ ?_)
  .simp[-ak,t,ko,p,a7,show rG.bytes=32 from a];omega
  .exact PZ
  .exact PZ
  .omega
  omega
 have:e=c o:=w;subst this;have C:R (c o)=mJ aj o:=M;have y:=s (c o) (bC _);refine a5 [-12] a D (g.bs a a ?_);have d:ll o aj=if(R (c o)).2=l then(R (c o)).1 else(R (c o)).1++[aj]:=hy;cases r:(R (c o)).2 with
 |true=>
  rw[r,bo a]at d;refine a5 [46] a D (g.bb [.cells 45 [.c (.T aj.1),.c (.T aj.2)],nb (ll o aj)] a ds (g.aH [1] a ds ?_));grind
 |false=>
  rw[r,bj D]at d;refine a5 [-46] a ?_ (g.bb [.cells 45 [.c (.T aj.1),.c (.T aj.2)],nb (ll o aj)] a ?_ (g.aH [1] a ?_ ?_))
  .simp[show rG.bytes=32 from a];omega
  .exact Pk
  .exact Pk
  grind
end
end R1
def bs.app0{b a:Nat->m N}:bs j (cg 0 b a) a:=λd _=>by simp[cg]
namespace R1
variable {q:af T}
def Ba:bI:=λargs g=>match args,g with
 |[h,.n (.agg [.c (.T a),.c (.T b)])],[]=>match js 2 h with
  |none=>n
  |some (d,e)=>f (xV 0 (ll (bu.ad d e) (a,b)) ,[ nb (ll (bu.ad d e) (a,b))],[bu.bK d e,c ((bu.ad d e))<=4000000])
 |_,_=>n
def acH:bK q 111 Ba:=by
 intro args j g h e a b;unfold Ba at a;split at a
 .split at a
  .cases a
  rename_i k m i;cases a;exact(Xm _ _ (b.2)).args (λ_ z=>b4.imp (λ_=>bu.cv i b.1) (b4.imp (λ_ d=>d) (λ_ d=>d)) z)
 cases a
def Id:m (Nat×bI):=(111,Ba)::Ic
def sG:a_ q Id:=a_.cons acH (S9)
def jx(a:m cM)(b d:bA):m cM×Bool:=
 if dM a=l/\fT b=l/\fL d=l then(if dM (ll a (b,d))=l then(ll a (b,d),l)else(a,v))else([],v)
abbrev adS(d:Nat)(a:m cM)(b:Bool):y:=.S [.Q (.x d 2 (c a) (bu.fn a)),.Q (.c (.bool b))]
def Nc{o}(a:dM o=l):c o<=6:=by simp only[dM,ck,bw]at a;omega
def Js(o)(b d):X q 68 [bu.B o,b1 b,b1 d] [] (adS 0 (jx o b d).1 (jx o b d).2) [nb (jx o b d).1]:=by
 refine X.J func68 rfl λr=>?_;have e:¬(dM o=l/\fT b=l/\fL d=l)->jx o b d=([],v):=λp=>bj p;cases h:dM o with
 |false=>
  rw[e M];refine a8 sG [-10] a ?_ ?_
  .simp[bu.l,bu.U,h]
  exact Fy
 |true=>
  have s:=Nc h;cases i:fT b with
  |false=>
   rw[e M];refine a8 sG [10,-14] a ?_ ?_
   .simp[bu.l,bu.U,h,i]
   exact Fy
  |true=>
   cases m:fL d with
   |false=>
    rw[e M];refine a8 sG [10,14,-19] a ?_ ?_
    .simp[bu.l,bu.U,h,i,m]
    exact Fy
   |true=>
    have j:jx o b d=if dM (ll o (b,d))=l then(ll o (b,d),l)else(o,v):=bo ⟨h,i,m⟩;cases k:dM (ll o (b,d))with
    |true=>
     rw[k,bo a]at j;rw[j];refine a8 sG [10,14,19,29] a ?_ (g.bb [nb (ll o (b,d))] a ?_ (g.aH [0] a ?_ ?_))
     .simp[bu.l,bu.U,h,i,m,k];omega
     .simp[bu.l]
     .simp[bu.l]
     grind
    |false=>
     rw[k,bj D]at j;rw[j];refine a8 sG [10,14,19,-29] a ?_ (g.bb [nb (ll o (b,d)),nb o] a ?_ (g.aH [1] a ?_ ?_))
     .simp[bu.l,bu.U,h,i,m,k,show rG.bytes=32 from a];omega
     .simp[bu.l,bs.app0]
     .simp[bs.app0]
     grind
def Yd(o)(b d):X q 68 [bu.B o,b1 b,b1 d] [] (mT (jx o b d).1 (jx o b d).2) []:=
 (Js o b d).b0 a D a
def Bq:bI:=λargs g=>match args,g with
 |[h,.n (.Q (.c (.T d))),.n (.Q (.c (.T e)))],[]=>match js 2 h with
  |none=>n
  |some (a,b)=>f (mT (jx (bu.ad a b) d e).1 (jx (bu.ad a b) d e).2,[],[bu.bK a b])
 |_,_=>n
def acV:bK q 68 Bq:=by
 intro args j g h e a d;unfold Bq at a;split at a
 .split at a
  .cases a
  rename_i k m i;cases a;exact(Yd _ _ _ ).args (λ_ z=>b4.imp (λ_=>bu.cv i d) (b4.imp (λ_ b=>b) (b4.imp (λ_ b=>b) (λ_ b=>b))) z)
 cases a
def Ie:m (Nat×bI):=(68,Bq)::Id
def S_:a_ q Ie:=a_.cons acV (sG)
end R1
def oD(a:m N)(d:Nat):Nat×(Nat->m N):=match c_ d a with|some (.B _ _ e b)=>(e,b)|_=>(0,λ_=>[])
def az:c0 Int:={bj:=1,a7:=λb=>[.int .i64 b],b9:=λa=>nw a 0,F:=0,inv:=λ_=>rfl,len:=λ_=>rfl}
def bR:c0 bA:={bj:=1,a7:=λb=>[.T b],b9:=λa=>tC a 0,F:=[],inv:=λ_=>rfl,len:=λ_=>rfl}
namespace R1
def bG:c0 cW:={bj:=2,a7:=λb=>[.int .i64 b.1,.T b.2],b9:=λa=>(nw a 0,tC a 1),F:=(0,[]),inv:=λ_=>rfl,len:=λ_=>rfl}
def e_:c0 fg:={bj:=2,a7:=λb=>[.int .i64 b.1,.int .i64 b.2],b9:=λa=>(nw a 0,nw a 1),F:=(0,0),inv:=λ_=>rfl,len:=λ_=>rfl}
abbrev lm(a:b'):N:=.B v 2 (c a.2) (bG.fn a.2)
def a2:c0 b':={bj:=2,a7:=λb=>[.int .i64 b.1,lm b],b9:=λa=>(nw a 0,bG.ad (oD a 1).1 (oD a 1).2),F:=(0,[]),inv:=λb=>by show(b.1,bG.ad (c b.2) (bG.fn b.2))=b;rw[bG.l],len:=λ_=>rfl}
def cw:c0 m2:={bj:=2,a7:=λd=>[.T d.1,.B v 1 (c d.2) (az.fn d.2)],b9:=λa=>(tC a 0,az.ad (oD a 1).1 (oD a 1).2),F:=([],[]),inv:=λb=>by show(b.1,az.ad (c b.2) (az.fn b.2))=b;rw[az.l],len:=λ_=>rfl}
def bg:c0 eh:={bj:=2,a7:=λd=>[.int .i64 d.1,.B v 2 (c d.2) (cw.fn d.2)],b9:=λa=>(nw a 0,cw.ad (oD a 1).1 (oD a 1).2),F:=(0,[]),inv:=λb=>by show(b.1,cw.ad (c b.2) (cw.fn b.2))=b;rw[cw.l],len:=λ_=>rfl}
def a3:c0 (Int×Int):=e_
abbrev fH(a:b'):y:=.n (.agg [.c (.int .i64 a.1),.c (lm a)])
abbrev xR(a:Option bA):y:=.n (.agg [.c (.T (a.getD [])),.c (.bool a.isSome)])
end R1
structure i7(α:Type) where
 a7:α->y
 dZ:y->Option (α×m Prop)
 ok:∀{O x r},dZ O=f (x,r)->U r->∀{k:m aq} {b:a6} {aa:Y},bx k b aa O->bx k b aa (a7 x)
def c1:i7 Int:=⟨Q,λa=>match a with|.n (.Q (.c (.int .i64 b)))=>f (b,[])|_=>n,λ{a d g} e _ _ _ _ h=>by grind⟩
def eE:i7 bA:=⟨b1,λa=>match a with|.n (.Q (.c (.T b)))=>f (b,[])|_=>n,λ{a d g} e _ _ _ _ h=>by grind⟩
def dA:i7 Bool:=⟨bf,λa=>match a with|.n (.Q (.c (.bool b)))=>f (b,[])|_=>n,λ{a d g} e _ _ _ _ h=>by grind⟩
def eK(b:c0 α):i7 (m α):=⟨b.B,λh=>match js b.bj h with|some (g,a)=>f (b.ad g a,[b.bK g a])|none=>n,λ{h j k} d e _ _ _ i=>by
 split at d
 .rename_i g a he;cases d;exact b.cv he e i
 .cases d⟩
def sg:i7 (Int×bA):=⟨λd=>.n (.agg [.c (.int .i64 d.1),.c (.T d.2)]),λb=>match b with|.n (.agg [.c (.int .i64 a),.c (.T e)])=>f ((a,e),[])|_=>n,λ{b a h} g _ _ _ _ i=>by grind⟩
def sf:i7 (Int×Int):=⟨λd=>.n (.agg [.c (.int .i64 d.1),.c (.int .i64 d.2)]),λb=>match b with|.n (.agg [.c (.int .i64 a),.c (.int .i64 e)])=>f ((a,e),[])|_=>n,λ{b a h} g _ _ _ _ i=>by grind⟩
def jB(e:c0 α):i7 (Int×m α):=⟨λj=>.n (.agg [.c (.int .i64 j.1),.c (.B v e.bj (c j.2) (e.fn j.2))]),λp=>match p with
 |.n (.agg [.c (.int .i64 o),.c q])=>match js e.bj (.n (.Q (.c q)))with|some (i,d)=>f ((o,e.ad i d),[e.bK i d])|none=>n
 |_=>n,λ{p o u} g h _ b _ t=>by
 split at g
 .split at g
  .rename_i i d he;cases g;obtain⟨z,r,a⟩:=t
   match z,a with
   |[],a=>exact a.elim
   |[_],a=>exact a.2.elim
   |_::_::_::_,a=>exact a.2.2.elim
   |[w,s],a=>exact⟨_,r,a.1,e.cv (k:=[]) (b:=b) (aa:=s) he h a.2.1,B⟩
  cases g
 .cases g⟩
def dc(d:i7 α)(a:α->y)(pre:α->m Prop):bI:=λargs e=>match args,e with
 |[g],[]=>match d.dZ g with
  |some (b,h)=>f (a b,[],gM h (pre b))
  |none=>n
 |_,_=>n
def ei{b:Type}(g:i7 α)(h:i7 b)(a:α->b->y)(pre:α->b->m Prop):bI:=λargs i=>match args,i with
 |[j,k],[]=>match g.dZ j with
  |some (d,o)=>match h.dZ k with
   |some (e,p)=>f (a d e,[],gM o (gM p (pre d e)))
   |none=>n
  |none=>n
 |_,_=>n
def j'{b d:Type}(i:i7 α)(j:i7 b)(k:i7 d)(a:α->b->d->y)(pre:α->b->d->m Prop):bI:=λargs o=>match args,o with
 |[p,q,r],[]=>match i.dZ p with
  |some (e,s)=>match j.dZ q with
   |some (g,t)=>match k.dZ r with
    |some (h,u)=>f (a e g h,[],gM s (gM t (gM u (pre e g h))))
    |none=>n
   |none=>n
  |none=>n
 |_,_=>n
section
variable {q:af P}{aj:a0}{e u:Type}{R:i7 α}{bS:i7 e}{N:i7 u}
def bK.a9{b:α->y}{pre:α->m Prop}(k:∀e,U (pre e)->X q aj [R.a7 e] [] (b e) []):bK q aj (dc R b pre):=by
 intro args o g j h a d;unfold dc at a;split at a
 .split at a
  .rename_i p e r i;cases a;rw[U.X]at d;exact(k e d.2).args λs z=>b4.imp (λ_ g=>R.ok i d.1 g) (λ_ g=>g) z
  cases a
 cases a
def bK.bk{d:α->e->y}{pre:α->e->m Prop}(o:∀h i,U (pre h i)->X q aj [R.a7 h,bS.a7 i] [] (d h i) []):bK q aj (ei R bS d pre):=by
 intro args p g k j a b;unfold ei at a;split at a
 .split at a
  .rename_i t u h r s;split at a
   .rename_i i w cT;cases a;rw[U.X,U.X]at b;exact(o h i b.2.2).args λx z=>b4.imp (λ_ g=>R.ok s b.1 g) (b4.imp (λ_ g=>bS.ok cT b.2.1 g) (λ_ g=>g)) z
   cases a
  cases a
 cases a
def bK.c5{j:α->e->u->y}{pre:α->e->u->m Prop}(t:∀k i s,U (pre k i s)->X q aj [R.a7 k,bS.a7 i,N.a7 s] [] (j k i s) []):bK q aj (j' R bS N j pre):=by
 intro args w g p o a b;unfold j' at a;split at a
 .split at a
  .rename_i x A C k r h;split at a
   .rename_i i B cT;split at a
    .rename_i s D d;cases a;rw[U.X,U.X,U.X]at b;exact(t k i s b.2.2.2).args λE z=>b4.imp (λ_ g=>R.ok h b.1 g) (b4.imp (λ_ g=>bS.ok cT b.2.1 g) (b4.imp (λ_ g=>N.ok d b.2.2.1 g) (λ_ g=>g))) z
    cases a
   cases a
  cases a
 cases a
end
namespace R1
def dU(d:m y)(a:y):bI:=λargs b=>match b with|[]=>f (a,[],[args=d])|_=>n
def ef{b:af T}{aj}{d}{res}(j:X b aj d [] res []):bK b aj (dU d res):=by
 intro args i k g e a h;unfold dU at a;split at a
 .cases a;simp_all
 cases a
def k4(g:m y)(d:m aq)(a:y)(b:m aq):bI:=λargs e=>f (a,b,[args=g,e=d])
def l7{d:af T}{aj}{e}{a aS}{res}(k:X d aj e a res aS):bK d aj (k4 e a res aS):=by intro args j m h g b i;cases b;simp_all
end R1
def lA(b:Mem):m Y->m N->Prop
 |[],[]=>True
 |e::z,d::a=>Rd b e d/\lA b z a
 |_,_=>False
structure q8(α:Type) where
 a7:α->m N
 b9:m N->Option (α×m Prop×m N)
 ok:∀{ah x r a'},b9 ah=f (x,r,a')->U r->∀{bB:Mem} {z:m Y},lA bB z ah->∃v1 v2,z=v1++v2/\lA bB v1 (a7 x)/\lA bB v2 a'
def lA.app{bB}:∀{g h:m Y}{a b:m N},lA bB g a->lA bB h b->lA bB (g++h) (a++b)
 |[],_,[],_,_,d=>d
 |_::_,_,_::_,_,e,i=>⟨e.1,e.2.app i⟩
 |[],_,_::_,_,d,_=>d.elim
 |_::_,_,[],_,d,_=>d.elim
def lA.Q{s}{e}(d:lA bB z (s::e)):∃a b,z=a::b/\Rd bB a s/\lA bB b e:=by
 cases z with
 |nil=>exact d.elim
 |cons a z=>exact⟨a,z,rfl,d⟩
def u9(e:c0 α):q8 (m α):=⟨λp=>[.B v e.bj (c p) (e.fn p)],λg=>match g with
 |t::q=>match js e.bj (.n (.Q (.c t)))with|some (o,d)=>f (e.ad o d,[e.bK o d],q)|none=>n
 |_=>n,λ{g x y q} h i r z j=>by
 split at h
 .split at h
  .rename_i o d he;cases h;obtain⟨aa,s,rfl,u,w⟩:=j.Q;exact⟨[aa],s,a,⟨e.cv (k:=[]) (b:=⟨[],r,default,λ_=>True⟩) (aa:=aa) he i u,B⟩,w⟩
  cases h
 .cases h⟩
def x'{k:Type}(R:q8 α)(e:q8 k):q8 (α×k):=⟨λp=>R.a7 p.1++e.a7 p.2,λb=>match R.b9 b with
 |some (j,m,o)=>match e.b9 o with|some (q,y,A)=>f ((j,q),gM m y,A)|none=>n
 |none=>n,λ{b j m o} d a B z g=>by
 split at d
 .rename_i u;split at d
  .rename_i C;cases d;rw[U.X]at a;obtain⟨h,D,rfl,t,s⟩:=R.ok u a.1 g;obtain⟨w,i,rfl,x,r⟩:=e.ok C a.2 s;exact⟨h++w,i,(mi _ _ _).symm,t.app x,r⟩
  cases d
 .cases d⟩
def zF:m R->Option (m N)
 |[]=>f []
 |.c d::b=>match zF b with|some a=>f (d::a)|none=>n
 |_=>n
def D2:m N->m R
 |[]=>[]
 |b::a=>.c b::D2 a
def Ni{k}{b}:∀{e:m R}{g:m N}{z:m Y},zF e=f g->bM k b z e->lA b.D z g
 |[],g,z,a,d=>by cases a;cases z with|nil=>trivial|cons=>exact d.elim
 |.c o::h,g,z,a,d=>by
  simp only[zF]at a;split at a
  .rename_i i;cases a;cases z with
   |nil=>exact d.elim
   |cons j z=>exact⟨d.1,Ni i d.2⟩
  cases a
 |.ptr ..::_,_,_,a,_=>by cases a
 |.x ..::_,_,_,a,_=>by cases a
 |.aM ..::_,_,_,a,_=>by cases a
 |.O ..::_,_,_,a,_=>by cases a
 |.any::_,_,_,a,_=>by cases a
def LX{k}{b}:∀{d:m N}{z:m Y},lA b.D z d->bM k b z (D2 d)
 |[],[],_=>trivial
 |_::_,_::_,a=>⟨a.1,LX a.2⟩
 |[],_::_,a=>a.elim
 |_::_,[],a=>a.elim
def Aw(d:q8 α):i7 α:=⟨λb=>.n (.agg (D2 (d.a7 b))),λj=>match j with
 |.n (.agg i)=>match zF i with
  |some e=>match d.b9 e with|some (b,k,[])=>f (b,k)|_=>n
  |none=>n
 |_=>n,λ{j b k} a g t u w s=>by
 split at a
 .split at a
  .rename_i C;split at a
   .rename_i p;cases a;obtain⟨z,rfl,r⟩:=s;obtain⟨h,q,rfl,o,m⟩:=d.ok p g (Ni C r);cases q with
    |nil=>exact⟨h,by simp,LX o⟩
    |cons=>exact m.elim
   cases a
  cases a
 .cases a⟩
namespace R1
section
variable {q:af T}
def VT(h):X q 52 [Q h] [] (bf (ce h)) []:=by
 refine X.J func52 rfl λd=>?_;by_cases b:1<=h
 .by_cases i:h<=99
  .refine a5 [4,7] a bv (g.ao a ?_);simp[ce,b,i]
  refine a5 [4,-7] a bv (g.ao a ?_);simp[ce,b,i]
 refine a5 [-4] a bQ (g.ao a ?_);simp[ce,b]
def oG:bK q 52 (dc c1 (λa=>bf (ce a)) λ_=>[]):=.a9 λa _=>VT a
def ZL{b}(a:e<c b):dV (b.take (e+1))=(dV (b.take e)&&jp (b.getD e 0)):=by unfold dV;grind[List.take_add_one]
def Dg{i}:jp i=l↔97<=(i.toNat:Int)/\(i.toNat:Int)<=122:=by simp[jp];omega
def Kt{b}(g:e<c b)(d:jp (b.getD e 0)=v):dV b=v:=by
 cases a:dV b with
 |false=>rfl
 |true=>
  have:=aX.1 a (b.getD e 0) M;grind
def Wa(b):X q 132 [b1 b] [] (bf (dV b)) []:=by
 refine X.J func132 rfl λo=>?_;have r:=o.T 0 a;refine aW a B (g.eh (λd=>d<=c b/\dV (b.take d)=l) (λd:Nat=>[(0,b1 b),(5,Q (c b)),(6,Q d)]) (λ_=>[]) (λd=>c b-d) 0 a D ⟨by omega,by simp[dV]⟩ a ?_);rintro d ⟨p,k⟩;by_cases e:d<c b
 .by_cases i:dq b d<97
  .refine a5 [7,12] a ?_ (g.bQ (bY.zero a ?_))
   .simp[-ak,e,j_,i]
   have:jp (b.getD d 0)=v:=by
    cases j:jp (b.getD d 0)with
    |false=>rfl
    |true=>have:=Dg.1 j;unfold dq at i;omega
   simp[Kt e this]
  by_cases h:dq b d<=122
  .refine a5 [7,-12,-17] a ?_ (g.again (d+1) a ?_ ?_ ?_ a)
   .simp[-ak,e,j_,i,h,a7];grind
   .simp
   .refine⟨by omega,?_⟩;rw[ZL e,k,fP];exact Dg.2 (by unfold dq at i h;omega)
   omega
  refine a5 [7,-12,17] a ?_ (g.bQ (bY.zero a ?_))
  .simp[-ak,e,j_,i];grind
  have:jp (b.getD d 0)=v:=by
   cases j:jp (b.getD d 0)with
   |false=>rfl
   |true=>have:=Dg.1 j;unfold dq at h;omega
  simp[Kt e this]
 have m:d=c b:=w;subst m;refine a5 [-7] a D (g.bs a a ?_);refine aW a B (g.ao a ?_);simp_all
def adh:bK q 132 (dc eE (λb=>bf (dV b)) λ_=>[]):=.a9 λa _=>Wa a
abbrev adU:m (Nat×bI):=[(52,dc c1 (λa=>bf (ce a)) λ_=>[]),(132,dc eE (λb=>bf (dV b)) λ_=>[])]
def BS:a_ q adU:=.cons oG (.cons adh .nil)
def Xc(b):X q 278 [b1 b] [] (bf (cB b)) []:=by
 refine X.J func278 rfl λe=>?_;by_cases d:1<=c b
 .by_cases i:c b<=8
  .refine a8 BS [5,9,11] a bQ (g.ao a ?_);simp[cB,d,i]
  refine a8 BS [5,-9,-11] a bQ (g.ao a ?_);simp[cB,d,i]
 refine a8 BS [-5,-11] a bQ (g.ao a ?_);simp[cB,d]
def Et:bK q 278 (dc eE (λb=>bf (cB b)) λ_=>[]):=.a9 λa _=>Xc a
def Uh(d:Nat)(i:d<=4000000):X q 280 [Q d] [] (Q (fa d)) []:=by
 refine X.J func280 rfl λk=>?_;by_cases h:d<1
 .refine a5 [5,9] a bQ (g.ao a ?_);simp[fa,h]
 by_cases e:8<d
 .refine a5 [-5,8] a bQ (g.ao a ?_);simp[fa,e]
 refine a5 [-5,-8] a bQ ?_;have m:fa d=2∨fa d=4∨fa d=8:=FX;refine g.eh (λb:Nat=>(b=2∨b=4∨b=8)/\b<=fa d) (λb:Nat=>[(0,Q d),(3,Q b)]) (λ_=>[]) (λb=>8-b) 2 a D ⟨by simp,by omega⟩ a ?_;rintro b ⟨j,x⟩;by_cases i:b<d
 .exact a5 [12] a lI (g.again (2*b) a bQ Oa w a)
 refine a5 [-12] a bQ (g.bs a a ?_);refine aW a B (g.ao a ?_);have:b=fa d:=Oa;simp[this]
theorem acB(b)(i):fo (b++[i])=if i=46 then fo b else b++[i]:=by unfold fo;grind[List.dropWhile_cons]
def MJ{b}(a:j<c b):fo (b.take (j+1))=if b.getD j 0=46 then fo (b.take j)else b.take (j+1):=by grind[List.take_add_one,acB]
theorem Yg(b):X q 311 [b1 b,u0 46] [] (b1 (fo b)) []:=by
 refine X.J func311 rfl λh=>?_;have o:=h.T 0 a;refine aW a B (g.eh (λj=>j<=c b/\fo (b.take j)=fo b) (λj:Nat=>[(0,b1 (b.take j)),(1,u0 46)]) (λ_=>[]) (λj=>j) (c b) a D ⟨by omega,by simp⟩ a ?_);rintro j ⟨p,d⟩;cases j with
 |zero=>
  refine a5 [-7,-16] a D (g.bs a a ?_);refine aW a B (g.ao a ?_);have:fo b=[]:=by rw[<-d];rfl
  simp[this]
 |succ j=>
  have O:c (b.take (j+1))=j+1:=M;have C:dq (b.take (j+1)) j=dq b j:=by simp[dq,ak,iq]
  have k:=MJ (b:=b) (j:=j) w;have i:((j:Int)+1-1).toNat=j:=w;by_cases e:b.getD j 0=46
  .refine a5 [7,15,16] a ?_ (g.again j a ?_ ?_ ?_ a)
   .have s:dq b j=46:=by unfold dq;exact bE
    exact Q4
   .simp;show(b.take (j+1)).take _=_;grind
   .grind
   simp
  refine a5 [7,-15,-16] a ?_ (g.bs a a ?_)
  .have s:dq b j≠46:=by unfold dq;intro m;exact e (uq.1 M)
   exact Q4
  refine aW a B (g.ao a ?_);rw[k,bj e]at d;simp[d]
def GZ:bI:=λargs a=>match args,a with
 |[.n (.Q (.c (.T b))),.n (.Q (.c (.int .u8 46)))],[]=>f (b1 (fo b),[],[])
 |_,_=>n
def MN:bK q 311 GZ:=by intro args g b d a e _;unfold GZ at e;grind[Yg]
theorem Yf(b):X q 295 [b1 b,b1 [46]] [] (b1 (fo b)) []:=by
 refine X.J func295 rfl λh=>?_;by_cases d:b=[]
 .subst d;refine a8 (a_.cons MN .nil) [8,12] a D (g.ao a ?_);exact bE
 refine a8 (a_.cons MN .nil) [-8,-11,-12,16,20,21] a ?_ (g.ao a);cases b with
 |nil=>grind
 |cons e i=>simp;decide
def Bn:bI:=λargs a=>match args,a with
 |[.n (.Q (.c (.T b))),.n (.Q (.c (.T [46])))],[]=>f (b1 (fo b),[],[])
 |_,_=>n
def acT:bK q 295 Bn:=by intro args g b d a e _;unfold Bn at e;grind[Yf]
def HT{a:bA}(b:e<c a):gj (a.take (e+1))=27*gj (a.take e)+(dq a e-97) % 256+1:=by unfold gj;rw[uA,bH b];simp only[uu,Option.toList_some,iI,List.foldl_nil,dq,ak,bH b,h0]
def xF{a:bA}(d:cB a=l)(k:e<=c a):0<=gj (a.take e)/\gj (a.take e)<282429536481:=by simp[cB,ck,bw]at d;obtain⟨i,b⟩:=BV (a.take e) 0 1 0 (λh g=>qx d.2 h (gY g)) w w w;have:=LC (j:=c (a.take e)) M;rw[Int.one_mul]at b;exact⟨i,Int.lt_of_lt_of_le b this⟩
def CY{a:bA}(b:e<c a):a.getD e 0∈a:=M
abbrev adV:m (Nat×bI):=[(52,dc c1 (λa=>bf (ce a)) λ_=>[]),(278,dc eE (λb=>bf (cB b)) λ_=>[])]
def hM:a_ q adV:=.cons oG (.cons Et .nil)
abbrev B_(a:Int):y:=.S [.Q (.c (.int .i64 a)),.Q (.c .bD)]
def WJ(d:Int)(b:bA)(m:ce d=l)(h:cB b=l):X q 273 [Q d,b1 b] [] (B_ (dW d b)) []:=by
 refine X.J func273 rfl λz=>?_;have j:=h;simp[cB,ck,bw]at j;have r:=m;simp[ce,ck,bw]at r;refine a8 hM [-8,-13] a ds (g.eh (λe=>e<=c b) (λe:Nat=>[(0,Q d),(1,b1 b),(6,Q (gj (b.take e))),(19,Q (c b)),(20,Q e)]) (λ_=>[]) (λe=>c b-e) 0 a (by simp[gj]) w a ?_);intro e k;by_cases i:e<c b
 .have p:=xF h k;have A:=xF h (e:=e+1) w;have o:=HT i;refine a5 [21] a ?_ (g.again (e+1) a ?_ ?_ ?_ a)
  .simp only[U,j_,a7];simp[-ak,i,j_];have x:=qx j.2 (b.getD e 0) (CY i);have s:97<=dq b e/\dq b e<=122:=EV;omega
  .have x:=qx j.2 (b.getD e 0) (CY i);have s:97<=dq b e/\dq b e<=122:=EV;have C:(dq b e-97) % 256=dq b e-97:=Int.emod_eq_of_lt w w;exact bE
  .grind
  grind
 have o:e=c b:=w;subst o;have p:=xE h;refine a5 [-21] a D (g.bs a a ?_);refine aW a ?_ (g.ao a ?_)
 .rw[c6];have u:0<=gj b*(2*d+1):=Int.mul_nonneg p.1 w;have t:gj b*(2*d+1)<=282429536481*199:=Int.mul_le_mul w w w w;generalize gj b*(2*d+1)=y at u t;exact wA
 rw[c6];refine U.X.2 ⟨?_,U.X.2 ⟨a,B⟩⟩;show(_:Int)=_;rw[Int.mul_comm 7919 d];rfl
def t273:bK q 273 (ei c1 eE (λa b=>B_ (dW a b)) λa b=>[ce a=l,cB b=l]):=.bk λa b d=>WJ a b d.1 d.2
def Dx{p:ae}(j:r.op=.binOp op o p (.const .nilIface) ty){t:Bool}{s:Array (String×al)}(x:P.underlying o=f (.interface s))(z:η p=ax .bD)(y:η (.const .nilIface)=ax .bD)(q:h9 op l=f t):a1 P r η k (ax (.bool t)) k:=by
 refine .aR λe g C w=>?_;have d:=w p;have b:=w (.const .nilIface);rw[z]at d;rw[y]at b;replace d:=b7 d;replace b:=b7 b;generalize h:g p=A at d;generalize i:g (.const .nilIface)=B at b;cases d;cases b;have m:(Op.equal o .nilIface .nilIface).run P e.a=.ok l e.a:=by show(aL (9999+1) o _ _).run P e.a=_;unfold aL;simp[underlying,x]
 have u:∀a,(Op.equal o .nilIface .nilIface).events P e.a a=a:=λa=>by show(aL (9999+1) o _ _).events P e.a a=a;unfold aL;simp[underlying,x]
 cases op<;>simp[h9,reduceCtorEq,e3]at q
 .subst q;exact⟨.bool l,by simp[ab,j,h,i,eqGuard,binOp,m],Rd.bool,by simp[ab,j,h,i,eqGuard,binOp,m,u]⟩
 subst q;exact⟨.bool v,by simp[ab,j,h,i,eqGuard,binOp,m],Rd.bool,by simp[ab,j,h,i,eqGuard,binOp,m,u]⟩
def WH(b:Int)(d:bA)(e:Int)(h:ce b=l)(i:cB d=l):X q 256 [Q b,b1 d,Q e] [] (bf (dW b d==e)) []:=by refine X.J func256 rfl λj=>?_;refine a8 (a_.cons t273 .nil) [17] a ds ?_;refine g.aK (Dx a underlying177 a a a) a a ?_;refine a8 (a_.cons t273 .nil) [17] a oM (g.ao a ?_);simp
def acP:bK q 256 (j' c1 eE c1 (λa b d=>bf (dW a b==d)) λa b _=>[ce a=l,cB b=l]):=.c5 λa b d e=>WH a b d e.1 e.2
abbrev mt(a:Int):y:=ax (.int .u64 a)
def _root_.Go.AM.b3.fv{r:af P}{aM}{J s}(C:b3 r E s aM I k):b3 r E (.cond (.const (.bool v)) J s) aM I k:=by intro K u A d w D i t m j;refine .ctl d a (λ_=>zg (o:=v) a) λy b=>?_;exact C y u (A.rely b d) (d.rely b) w D i t m λz e g p h F x B q=>j z e g p h F x B (b.aU.trans q)
def _root_.Go.AM.g.fv{P:aE}{a:af P}{E}{bd}{au}{I}{k}{e b}(d:g a E bd (.code b::au) .normal I k):g a E bd (.code (.cond (.const (.bool v)) e b)::au) .normal I k:=b3.fv d
def Kh{j m:ae}{h d}{p i}(s)(u:r.op=.binOp op o j m ty)(B:η j=ax (.int h p))(A:η m=ax (.int d i))(y:a7 h s)(q:∀g,(binOp op o (.int h p) (.int d i)).run P g=.ok (.int h s) g)(z:∀g,(binOp op o (.int h p) (.int d i)).events P g #[]=#[]):
  a1 P r η k (ax (.int h s)) k:=by refine .aR λE e F x=>?_;have b:=x j;have a:=x m;rw[B]at b;rw[A]at a;replace b:=b7 b;replace a:=b7 a;generalize t:e j=C at b;generalize w:e m=D at a;cases b;cases a;exact⟨.int h s,by simp only[ab,u,cJ,t,w,qg,c8,q,dY],.int y,by simp[ab,u,t,w,qg,x3,q,z]⟩
def WC:X q 317 [mt 1,mt 2] [] (.S [.Q (.c (.int .u64 0)),.Q (.c (.int .u64 2))]) []:=Rj
def WE:X q 317 [mt 1,mt 3] [] (.S [.Q (.c (.int .u64 0)),.Q (.c (.int .u64 3))]) []:=Rj
def G0:bI:=λargs b=>match args,b with
 |[.n (.Q (.c (.int .u64 1))),.n (.Q (.c (.int .u64 a)))],[]=>f (.S [.Q (.c (.int .u64 0)),.Q (.c (.int .u64 a))],[],[a=2∨a=3])
 |_,_=>n
def MO:bK q 317 G0:=by
 intro args h e g d a b;unfold G0 at a;split at a
 .cases a;rcases b with rfl|rfl
  .exact WC
  exact WE
 grind
def WB(b:Int)(d:b=2∨b=3):X q 305 [mt 1,mt b] [] (.S [.Q (.c (.int .u64 0)),.Q (.c (.int .u64 b))]) []:=by refine X.J func305 rfl λe=>?_;refine b8 (a_.cons MO .nil) a B ?_;refine g.fv ?_;refine b8 (a_.cons MO .nil) a ?_ (g.ao a);exact bv
def Bo:bI:=λargs b=>match args,b with
 |[.n (.Q (.c (.int .u64 1))),.n (.Q (.c (.int .u64 a)))],[]=>f (.S [.Q (.c (.int .u64 0)),.Q (.c (.int .u64 a))],[],[a=2∨a=3])
 |_,_=>n
def acU:bK q 305 Bo:=by
 intro args h e g d a b;unfold Bo at a;split at a
 .cases a;exact WB _ b
 grind
abbrev lH:bI:=dc eE (λa=>b1 (fK a)) λ_=>[]
abbrev iQ(a:Option bA):y:=.S [.Q (.c (.T (a.getD []))),.Q (.c (.bool a.isSome))]
def W3(h:bK q 219 lH)(i):X q 255 [b1 i] [] (iQ (hE i)) []:=by
 refine X.J func255 rfl λk=>?_;have d:a_ q [(295,Bn),(278,dc eE (λj=>bf (cB j)) λ_=>[]),(219,lH)]:=.cons acT (.cons Et (.cons h .nil));by_cases b:cB (fo i)=l
 .by_cases e:fK (fo i)=i
  .refine a8 d [-10,-15] a ds (g.ao a ?_);simp[hE,b,e]
  refine a8 d [-10,15] a ds (g.ao a ?_);simp[hE,b,e]
 refine a8 d [10,15] a ?_ (g.ao a ?_)
 .simp[b]
 simp[hE,b]
def adw(b:bK q 219 lH):bK q 255 (dc eE (λa=>iQ (hE a)) λ_=>[]):=.a9 λa _=>W3 b a
def Li{i a}(b:hE i=f a):cB a=l:=by unfold hE at b;grind
abbrev B9(a:cW):y:=sg.a7 a
def Ud(m:bK q 219 lH)(e)(h)(b:ce h=l):X q 204 [B9 e,Q h] [] (iQ (iM h e)) []:=by
 refine X.J func204 rfl λr=>?_;have i:a_ q [(255,dc eE (λk=>iQ (hE k)) λ_=>[]),(256,j' c1 eE c1 (λh d o=>bf (dW h d==o)) λh d _=>[ce h=l,cB d=l])]:=.cons (adw m) (.cons acP .nil);cases x:hE e.2 with
 |none=>
  refine a8 i [16,23] a oN (g.ao a ?_);simp[iM,x]
 |some d=>
  have p:=Li x;by_cases j:dW h d=e.1
  .refine a8 i [-16,-23] a ds (g.ao a ?_);simp[iM,x,j,b]
  refine a8 i [-16,23] a ds (g.ao a ?_);simp[iM,x,j,b]
def MP(d:bK q 219 lH):bK q 204 (ei sg c1 (λb a=>iQ (iM a b)) λ_ a=>[ce a=l]):=.bk λb a e=>Ud d b a e
def VI(b)(j):X q 287 [B9 b,ax (.R [.int .i64 j])] [] (bf (b.1==j)) []:=by refine X.J func287 rfl λd=>?_;exact aW a B (g.ao a)
def Bm:bI:=λargs d=>match args,d with
 |[.n (.agg [.c (.int .i64 b),.c (.T a)]),.n (.Q (.c (.R [.int .i64 e])))],[]=>f (bf (b==e),[],[a=a])
 |_,_=>n
def t287:bK q 287 Bm:=by
 intro args k d e b a h;unfold Bm at a;split at a
 .rename_i i g j;cases a;exact VI (i,g) j
 grind
abbrev Ij(a:Int):y:=ax (.fn (.func 287) [] [.R [.int .i64 a]])
def pd(b:m cW)(d:Int):Int:=match b.findIdx? (λe=>e.1==d)with|some a=>a|none=>-1
def Zd{o}{j}(a:e<c o)(i:(o.getD e (0,[])).1=j)(g:∀b,b<e->(o.getD b (0,[])).1≠j):pd o j=e:=by
 have:o.findIdx? (λd=>d.1==j)=f e:=by rw[uz];refine⟨a,M,λb h=>?_⟩;grind
 rw[pd,this]
def Zf{o}{j}(d:∀a,a<c o->(o.getD a (0,[])).1≠j):pd o j=-1:=by have:o.findIdx? (λb=>b.1==j)=n:=wz;rw[pd,this]
def Vo(o)(j):X q 286 [bG.B o,Ij j] [] (Q (pd o j)) []:=by
 refine X.J func286 rfl λi=>?_;have p:=i.B 0 a;have d:a_ q [(287,Bm)]:=.cons t287 .nil;refine b8 d a B (g.b6 (λb=>b<=c o/\∀e,e<b->(o.getD e (0,[])).1≠j) (λb:Nat=>[(0,bG.B o),(1,Ij j),(7,Q (c o)),(8,Q b)]) (λ_=>[]) (λb=>c o-b) 0 a D a B ⟨by omega,by omega⟩ ?_);rintro b ⟨m,h⟩;by_cases k:b<c o
 .by_cases s:(o.getD b (0,[])).1=j
  .refine a8 d [9,16] a ?_ (g.bQ (bY.zero a ?_))
   .simp only[U,cY];grind
   simp[Zd k s h]
  refine a8 d [9,-16] a ?_ (g.b1 (b+1) a ?_ a B ?_ ?_)
  .simp only[U,cY];exact⟨by exact bE,B,eZ.2 s,by omega,by omega,fi w⟩
  .simp
  .grind
  omega
 refine a8 d [-9] a bQ (g.bs a a ?_);refine b8 d a B (g.ao a ?_);simp[Zf (λe r=>h e w)]
def Bl:bI:=λargs d=>match args,d with
 |[e,.n (.Q (.c (.fn (.func 287) [] [.R [.int .i64 g]])))],[]=>match js 2 e with
  |none=>n
  |some (b,a)=>f (Q (pd (bG.ad b a) g),[],[bG.bK b a])
 |_,_=>n
def acS:bK q 286 Bl:=by
 intro args m h i g a d;unfold Bl at a;split at a
 .rename_i o j;split at a
  .cases a
  rename_i p k b;cases a;exact(Vo _ j).args (λ_ z=>b4.imp (λ_=>bG.cv b d) (b4.imp (λ_ e=>e) (λ_ e=>e)) z)
 grind
def Ze(o)(j):(pd o j=-1/\o.find? (λb=>b.1==j)=n)∨∃a:Nat,a<c o/\pd o j=a/\o.find? (λb=>b.1==j)=f (o.getD a (0,[])):=by unfold pd;grind[List.findIdx?_eq_some_iff_getElem,List.find?_eq_some_iff_getElem]
def WX(k:bK q 219 lH)(h)(b)(j)(o:ce h=l):X q 239 [Q h,fH b,Q j] [] (iQ (fS h b j)) []:=by
 refine X.J func239 rfl λs=>?_;have d:a_ q [(286,Bl),(204,ei sg c1 (λp h=>iQ (iM h p)) λ_ h=>[ce h=l])]:=.cons acS (.cons (MP k) .nil);have t:bG.ad (c b.2) (bG.fn b.2)=b.2:=bG.l _;refine gp [] 7 a B (g.freeze 5 1 a a a ?_);rcases Ze b.2 j with⟨m,i⟩|⟨e,bp,m,i⟩
 .refine a8 d [14] a bE (g.ao a ?_);simp[fS,i]
 refine a8 d [-14] a bE (g.ao a ?_);have r:fS h b j=iM h (b.2.getD e (0,[])):=by simp only[fS,i]
 simp_all
def adC(e:bK q 219 lH):bK q 239 (j' c1 (jB bG) c1 (λa d b=>iQ (fS a d b)) λa _ _=>[ce a=l]):=.c5 λa d b g=>WX e a d b g
def yx:∀b(a:UInt8),Lib.indexByte b a<c b∨Lib.indexByte b a=-1
 |[],a=>.inr (by rw[Lib.indexByte.eq_def])
 |e::b,a=>by have d:=yx b a;grind[Lib.indexByte.eq_def]
set_option maxRecDepth 20000 in
theorem VA(b)(s):X q 268 [b1 b,u0 s.toNat] [] (Q (Lib.indexByte b s)) []:=by
 refine X.J func268 rfl λM=>?_;have ae:=M.T 0 a;refine aW a B (g.Q (F:=Q (Lib.indexByte b s)) (ap:=[]) ?_ a ?_)
 .refine aZ.a0 (λ_ _ _ _=>i6 oM) ?_;refine a1.dt λe d W h=>?_;have p:=b7 (h (.tmp 5));have o:=b7 (h (.tmp 6));generalize m:d (.tmp 5)=N at p;generalize i:d (.tmp 6)=O at o;cases p with
  |T x J=>
  cases o with
  |int K=>
  have k:d (.func 302)=.func (.func 302) #[] #[]:=by
   have:=b7 (h (.func 302));generalize d (.func 302)=Z at this;cases this with
   |fn D w R r z C t u d1 d2=>
    grind
  have y:(callFunc 302 #[.string ‹ByteArray›,.int .u8 s.toNat]).run T e.a=.ok (.value (.int .i64 (Lib.indexByte b s))) e.a:=by rw[run_callFunc_extern func302 bU bU bU (e:=Extern.BytealgIndexByte.indexByte) bU,Lib.run_indexByteString];simp_all
  have I:dz T (Extern.BytealgIndexByte.indexByte #[.string ‹ByteArray›,.int .u8 s.toNat]):=by
   refine dz.bind (A:=Extern.Bytes.bytesOf (.string ‹ByteArray›)) (λ_ _=>rfl) λr=>dz.bind (A:=Extern.Bytes.asByte (.int .u8 s.toNat)) (λ_ _=>?_) λS=>?_
   .simp[Extern.Bytes.asByte]
   .skip
    split<;>exact .pure
  have E:=II func302 bU bU bU (aw:=Extern.BytealgIndexByte.indexByte) bU _ I e.a #[];refine⟨.int .i64 (Lib.indexByte b s),?_,Rd.int ?_,?_⟩
  rotate_left 2
  .intro V j;simp[ab,resolve,Deferred.ofValue,invoke,m,i,k,E]at j;subst j;exact .inr ⟨_,a⟩
  .simp[ab,resolve,Deferred.ofValue,invoke,m,i,k,y]
  have aa:=Lib.indexByte_ge b s;have Y:=yx b s;exact cS
 exact ww
def VK(b:Int)(e:N)(d:Int):X q 106 [.n (.agg [.c (.int .i64 b),.c e]),ax (.R [.int .i64 d])] [] (bf (b==d)) []:=by refine X.J func106 rfl λh=>?_;exact aW a B (g.ao a)
def A':bI:=λargs b=>match args,b with
 |[.n (.agg [.c (.int .i64 a),.c e]),.n (.Q (.c (.R [.int .i64 d])))],[]=>f (bf (a==d),[],[])
 |_,_=>n
def acG:bK q 106 A':=by
 intro args h d e b a g;unfold A' at a;split at a
 .cases a;exact VK _ _ _
 cases a
abbrev Ii(a:Int):y:=ax (.fn (.func 106) [] [.R [.int .i64 a]])
def oi(b:m eh)(d:Int):Int:=match b.findIdx? (λe=>e.1==d)with|some a=>a|none=>-1
def Zg{a:m eh}{d:Int}(g:e<c a)(o:(a.getD e (0,[])).1=d)(h:∀b,b<e->(a.getD b (0,[])).1≠d):oi a d=e:=by
 have:a.findIdx? (λk=>k.1==d)=f e:=by rw[uz];refine⟨g,ds,λb j=>?_⟩;have i:b<c a:=w;simpa[ak,bH i]using h b j
 rw[oi,this]
def Zi{a:m eh}{d:Int}(h:∀b,b<c a->(a.getD b (0,[])).1≠d):oi a d=-1:=by
 have:a.findIdx? (λe=>e.1==d)=n:=by rw[AF];intro e g;obtain⟨b,i,rfl⟩:=g4 g;simp_all
 rw[oi,this]
def Vu(d:m eh)(i:Int):X q 105 [bg.B d,Ii i] [] (Q (oi d i)) []:=by
 refine X.J func105 rfl λp=>?_;have t:=p.B 0 a;have e:a_ q [(106,A')]:=.cons acG .nil;refine b8 e a B (g.b6 (λb=>b<=c d/\∀h,h<b->(d.getD h (0,[])).1≠i) (λb:Nat=>[(0,bg.B d),(1,Ii i),(7,Q (c d)),(8,Q b)]) (λ_=>[]) (λb=>c d-b) 0 a D a B ⟨by omega,by omega⟩ ?_);rintro b ⟨s,k⟩;by_cases r:b<c d
 .by_cases o:(d.getD b (0,[])).1=i
  .refine a8 e [9,16] a bE (g.bQ (bY.zero a ?_));simp[Zg r o k]
  refine a8 e [9,-16] a ?_ (g.b1 (b+1) a ?_ a B ?_ ?_)
  .simp only[U,cY];exact⟨by exact bE,eZ.2 o,by omega,by omega,fi w⟩
  .simp
  .refine⟨by omega,λh j=>?_⟩;rcases wR.1 j with j|rfl
   .simp_all
   omega
  omega
 refine a8 e [-9] a bQ (g.bs a a ?_);refine b8 e a B (g.ao a ?_);simp[Zi (λh j=>k h w)]
def A_:bI:=λargs d=>match args,d with
 |[e,.n (.Q (.c (.fn (.func 106) [] [.R [.int .i64 g]])))],[]=>match js 2 e with
  |none=>n
  |some (b,a)=>f (Q (oi (bg.ad b a) g),[],[bg.bK b a])
 |_,_=>n
def acF:bK q 105 A_:=by
 intro args m h i g a d;unfold A_ at a;split at a
 .rename_i o j;split at a
  .cases a
  rename_i p k b;cases a;exact(Vu _ j).args (λ_ z=>b4.imp (λ_=>bg.cv b d) (b4.imp (λ_ e=>e) (λ_ e=>e)) z)
 cases a
def Zh(b:m eh)(h:Int):(oi b h=-1/\b.find? (λe=>e.1==h)=n)∨∃d:Nat,d<c b/\oi b h=d/\b.find? (λe=>e.1==h)=f (b.getD d (0,[])):=by
 unfold oi;cases i:b.findIdx? (λe=>e.1==h)with
 |none=>
  refine .inl ⟨a,?_⟩;rw[AF]at i;exact us.2 λe p=>by exact bE
 |some d=>
  rw[uz]at i;obtain⟨g,j,o⟩:=i;refine .inr ⟨d,g,a,?_⟩;rw[R_];refine⟨ds,d,g,ds,λq k=>?_⟩;simp_all
def qa(a:Nat->Int):Nat->m N:=λb=>[.int .u8 (a b)]
def Bytes(a:Nat->Int):Prop:=∀b,0<=a b/\a b<=255
abbrev e1(d:Nat)(a:Nat->Int)(b:Int):aq:=.cells 94 [.c (.B v 1 d (qa a)),.c (.int .i64 b)]
def bk.cd{e}{fn}{args}{a:ι->m aq}(p:Tryz.prog.funcs[e]?=f fn)(o:(fn.name== "runtime.NumGoroutine")=v)(d:fn.body=f s)(j:ay args.length fn.ntmps=l)(u:kw args k->g q fn.ntmps (λr i b=>∃h,bY fn k.length (res h) (a h) r i b) [.code s] .normal (h2 0 args) k):bk q e args k res a:=
 bk.e4 p o d j λt=>b3.bw (g.aO (u t))
def g.bu{fn}{d}{a:ι->m aq}(e)(j:g q E (bY fn d (res e) (a e)) au .normal I k):g q E (λi I b=>∃h,bY fn d (res h) (a h) i I b) au .normal I k:=
 g.bU (λ_ _ _ o=>⟨e,o⟩) j
def qH(b:Nat)(d:Nat->Int)(a:Nat)(e:Int):Int:=
 if b=0 then 0 else if a<b then d a % e else
  ((d ((a:Int) % b).toNat*131+d (((a:Int)*7+3) % b).toNat*1117+a*29+(a:Int) / b*53).toNat ^^^ ((d ((a:Int) % b).toNat*131+d (((a:Int)*7+3) % b).toNat*1117+a*29+(a:Int) / b*53) / 64).toNat:Nat) % e
set_option maxRecDepth 20000 in
def Je(A)(d:Nat->Int)(o:Bytes d)(b:Nat)(j)(s:b<=4000000)(B:A<=1048576)(M:1<=j/\j<=4000000):
  X q 16 [aI 0 0,Q j] [e1 A d b] (Q (qH A d b j)) [e1 A d (b+1)]:=by
 refine X.J func16 rfl λx=>?_;have i:∀e,e<c ([e1 A d b]:m aq)->([0]:m Nat)[e]?=f e:=λe D=>by grind
 by_cases k:A=0
 .subst k;refine a5 [-17,24] a cS (g.aH [0] a ?_ i);exact cS
 have h:((b:Int)+1-1)=b:=w;have z:((b:Int)+1-1).toNat=b:=w;have y:=o b;by_cases F:(b:Int)<A
 .refine a5 [-17,-24,36] a ?_ (g.aH [0] a ?_ i)
  .simp only[U,h,cY,bw,dp,eZ,a7];omega
  have:b<A:=w;simp[qH,k,this]
 refine bL [-17,-24,-36] a ?_ (g.aH [0] a ?_ i)
 .simp only[U,h,dp,eZ,a7];have r:(0:Int)<A:=w;have C:=sq (b:Int) (by omega:(A:Int)≠0);have E:=sk (b:Int) r;have u:=sq ((b:Int)*7+3) (by omega:(A:Int)≠0);have I:=sk ((b:Int)*7+3) r;have w1:0<=(b:Int) / A:=Int.ediv_nonneg w w;have w2:(b:Int) / A<=b:=Int.ediv_le_self _ w;generalize(b:Int) % A=t at *;generalize((b:Int)*7+3) % A=aa at *;generalize(b:Int) / A=p at *;have J:=o t.toNat;have K:=o aa.toNat;grind
 have:¬b<A:=w;simp[qH,k,this,h]
def Lp(A)(a:Nat->Int)(h)(j)(b:1<=j):0<=qH A a h j/\qH A a h j<j:=by
 unfold qH;split
 .omega
 split
 .exact⟨sq _ w,sk _ w⟩
 exact⟨sq _ w,sk _ w⟩
def gA(A)(a:Nat->Int)(s:Bytes a)(b:Nat)(j)(i:b<=4000000)(r:A<=1048576)(m:1<=j/\j<=4000000):
  bk (ι:={d:Int // 0<=d/\d<j}) q 16 [aI 0 0,Q j] [e1 A a b] (λd=>Q d.1) (λ_=>[e1 A a (b+1)]):=by have o:=Je (q:=q) A a s b j i r m;exact⟨o.1,λt z k h p e g=>o.2 t z k h p e (g ⟨_,Lp A a b j m.1⟩)⟩
def kI:∀a,a<1->([0]:m Nat)[a]?=f a:=λa b=>by grind
set_option maxRecDepth 20000 in
def Cr(A)(b:Nat->Int)(o:Bytes b)(e:Nat)(h:e<=4000000)(m:A<=1048576)(d)(t:1<=c d/\c d<=1000):
  bk (ι:={i:bA // i∈d}) q 71 [aI 0 0,bR.B d] [e1 A b e] (λi=>b1 i.1) (λ_=>[e1 A b (e+1)]):=by refine bk.cd func71 rfl rfl rfl λs=>?_;refine aW a B (g.a2 (gA A b o e (c d) h m w) [0] a bn ?_);rintro⟨j,p,r⟩;refine aW a bQ ?_;have k:d.getD j.toNat bR.F∈d:=M;refine g.bu ⟨d.getD j.toNat bR.F,k⟩ (g.aH [0] a ?_ kI);simp
def Ll:m bA:=[[],[102],[97,47],[97,98],[97,47,98,47,99],[47,97]]
def Lm:m bA:=[[97],[98],[99,47,97],[99,47,98],[100,47,97],[101],[97,47,98],[100]]
set_option maxRecDepth 20000 in
def Jd(A)(d:Nat->Int)(k:Bytes d)(h:Nat)(m:h<=100000)(j:A<=1048576):
  bk (ι:={b:bA // c b<=8}) q 69 [aI 0 0] [e1 A d h] (λb=>b1 b.1) (λ_=>[e1 A d (h+1+1)]):=by
 refine bk.cd func69 rfl rfl rfl λs=>?_;refine aW a B (g.a2 (gA A d k h 40 w j w) [0] a bn ?_);rintro⟨o,p,r⟩;by_cases t:o=0
 .refine a5 [5] a gH ?_;have:=Cr (q:=q) A d k (h+1) w j Ll ca;refine g.cb this [0] a a a a ?_ a a a bn a bn a ?_
  .refine⟨a,λe bp=>?_⟩;rcases e with _|_|_|_|_|_|e<;>first|rfl|omega
  rintro⟨b,i⟩;refine aW a B (g.bu ⟨b,(by decide:∀b∈Ll,c b<=8) b i⟩ (g.aH [0] a ?_ kI));simp
 refine a5 [-5] a gH ?_;have:=Cr (q:=q) A d k (h+1) w j Lm ca;refine g.cb this [0] a a a a P4 a a a bn a bn a ?_;rintro⟨b,i⟩;refine aW a B (g.bu ⟨b,(by decide:∀b∈Lm,c b<=8) b i⟩ (g.aH [0] a ?_ kI));simp
def Nz:m bA:=[[97,98,99],[104,101,108,108,111],[119,111,114,108,100],[97,97,97,97],[107,101,101,112],[122,122],[98,97,99,107,117,112],[113]]
abbrev R7(b:Nat):={a:bA×Nat // c a.1<=100000/\b<=a.2/\a.2<=b+60}
def I9(b)(j)(u:c b<=10)(A:0<=j/\j<=100):bk (ι:={o:bA // c o<=100000}) q 112 [b1 b,Q j] [] (λo=>b1 o.1) (λ_=>[]):=by
 refine bk.cd func112 rfl rfl rfl λx=>?_;refine aW a B (g.b6 (λk:Nat×bA×bA=>k.1<=100/\c k.2.2+c k.2.1*k.1<=1010) (λk=>[(0,b1 k.2.1),(1,Q k.1),(5,b1 k.2.2)]) (λ_=>[]) (λk=>k.1) (j.toNat,b,[]) a bQ a B ⟨by grind,?_⟩ ?_)
 .have:c b*j.toNat<=10*100:=Nat.mul_le_mul u w;grind
 rintro⟨d,h,i⟩ ⟨r,s⟩;simp only at r s;by_cases m:0<d
 .have e:c h<=c h*d:=uo _ m;have y:((d:Int) / 2)=((d / 2:Nat):Int):=w;by_cases z:d % 2=1
  .have p:c (h++h)*(d / 2)+c h=c h*d:=by have t:d=2*(d / 2)+1:=w;grind
   refine a5 [7,10] a bv (g.b1 (d / 2,h++h,i++h) a D a B M ?_);grind
  have p:c (h++h)*(d / 2)=c h*d:=by have t:d=2*(d / 2):=w;grind
  refine a5 [7,-10] a bv (g.b1 (d / 2,h++h,i) a D a B M ?_);grind
 obtain rfl:d=0:=w;refine a5 [-7] a D (g.bs a a ?_);exact aW a B (g.bu ⟨i,by omega⟩ (g.ao a))
set_option maxRecDepth 20000 in
def X_(A)(d:Nat->Int)(j:Bytes d)(h)(I:h<=100000)(k:A<=1048576):
  bk (ι:=R7 h) q 70 [aI 0 0] [e1 A d h] (λu=>b1 u.1.1) (λu=>[e1 A d u.1.2]):=by
 refine bk.cd func70 rfl rfl rfl λR=>?_;refine aW a B (g.a2 (gA A d j h 5 w k w) [0] a bn ?_);rintro⟨T,U,V⟩;refine aW a B (g.aC 1 (λb:Nat×bA×Nat=>b.1<=4/\c b.2.1+6*b.1<=24/\h<=b.2.2/\b.2.2+b.1<=h+5) (λb=>[(0,aI 0 0),(4,Q b.1),(3,b1 b.2.1)]) (λb=>[e1 A d b.2.2]) (λb=>b.1) (T.toNat,[],h+1) a bQ a D a ⟨by omega,by grind,by simp,by grind⟩ ?_);rintro⟨m,b,k1⟩ ⟨C,J,F,Z⟩;simp only at C J F Z;by_cases t:0<m
 .refine a5 [9] a gH ?_;have:=Cr (q:=q) A d j k1 w k Nz ca;refine g.cb this [0] a a a a P4 a a a bn a bn a ?_;rintro⟨i,r⟩;have af:c i<=6:=(by decide:∀i∈Nz,c i<=6) i r;refine aW a kT (g.av (m-1,b++i,k1+1) a bQ D M ?_);grind
 obtain rfl:m=0:=w;refine a5 [-9] a D (g.az ?_);refine aW a B (g.a2 (gA A d j k1 4 w k w) [0] a bn ?_);rintro⟨S,ab,ae⟩;by_cases z:S=0
 .refine a5 [19] a (by simp[z]) (g.a2 (gA A d j (k1+1) 12 w k w) [0] a bn ?_);rintro⟨W,X,w1⟩;refine aW a B (g.aC 1 (λb:Nat×bA×Nat=>b.1<=11/\c b.2.1+b.1<=36/\h<=b.2.2/\b.2.2+b.1<=h+20) (λb=>[(0,aI 0 0),(5,Q b.1),(3,b1 b.2.1)]) (λb=>[e1 A d b.2.2]) (λb=>b.1) (W.toNat,b,k1+2) a bQ a bQ a ⟨by omega,by grind,by grind,by grind⟩ ?_);rintro⟨m,o,p⟩ ⟨y,O,H,N⟩;simp only at y O H N;by_cases t:0<m
  .refine a5 [23] a gH (g.a2 (gA A d j p 26 w k w) [0] a bn ?_);rintro⟨Y,aa,L⟩;refine aW a kT (g.av (m-1,o++[UInt8.ofNat (97+Y).toNat],p+1) a bQ D M ?_);grind
  obtain rfl:m=0:=w;refine a5 [-23] a D (g.az ?_);refine a5 [-36] a bQ (g.a2 (gA A d j p 60 w k w) [0] a bn ?_);rintro⟨s,G,K⟩;by_cases E:s=0
  .refine a5 [41] a bv (g.bu ⟨(o++[65],p+1),by grind,by grind,by grind⟩ (g.aH [0] a ?_ kI));simp
  by_cases x:s=1
  .refine a5 [-41,45] a oN (g.a2 (I9 [97,98,99,100,101] 9 ca ca) [] a bn ?_);rintro⟨i,r⟩;refine aW a B (g.bu ⟨(i,p+1),r,by grind,by grind⟩ (g.aH [0] a ?_ kI));simp
  refine a5 [-41,-45] a bv (g.bu ⟨(o,p+1),by grind,by grind,by grind⟩ (g.aH [0] a ?_ kI));simp
 refine gp [-19] 2 a (by simp[z]) (a5 [-36] a bQ (g.a2 (gA A d j (k1+1) 60 w k w) [0] a bn ?_));rintro⟨s,G,K⟩;by_cases E:s=0
 .refine a5 [41] a bv (g.bu ⟨(b++[65],(k1+1)+1),by grind,by grind,by grind⟩ (g.aH [0] a ?_ kI));simp
 by_cases x:s=1
 .refine a5 [-41,45] a oN (g.a2 (I9 [97,98,99,100,101] 9 ca ca) [] a bn ?_);rintro⟨i,r⟩;refine aW a B (g.bu ⟨(i,(k1+1)+1),r,by grind,by grind⟩ (g.aH [0] a ?_ kI));simp
 refine a5 [-41,-45] a bv (g.bu ⟨(b,(k1+1)+1),by grind,by grind,by grind⟩ (g.aH [0] a ?_ kI));simp
def WU(A)(b:Nat->Int)(h:A<=1048576):bk (ι:={d:Nat // d<=1048576}) q 15 [ax (.B v 1 A (qa b))] [] (λ_=>aI 0 0) (λd=>[e1 d.1 b 0]):=by
 refine bk.cd func15 rfl rfl rfl λj=>?_;by_cases k:2000<A
 .refine a5 [5] a bQ (g.bb [e1 2000 b 0] a ?_ (g.bu ⟨2000,by decide⟩ (g.aH [0] a ?_ (λi e=>by grind))))
  .simp[bs,fA,bV]
  simp
 exact a5 [-5] a bQ (g.bu ⟨A,h⟩ (g.aH [0] a D (λi e=>by grind)))
def CN:∀a,a<1->([0]:m Nat)[a]?=f a:=ca
def sR:∀a,a<2->([0,1]:m Nat)[a]?=f a:=ca
def gB:m cW->m Y
 |[]=>[]
 |a::b=>.int .i64 a.1::ji a.2::gB b
def gu(b:m cW):Prop:=∀a∈b,a7 .i64 a.1/\c a.2<=9223372036854775807
theorem yf:∀a:m cW,c (gB a)=c a*2
 |[]=>rfl
 |d::b=>by simp only[gB,fh,yf b];omega
def JF:∀{d:m cW}{e:Nat},e<c d->(gB d)[e*2]?=f (.int .i64 (d.getD e (0,[])).1)/\(gB d)[e*2+1]?=f (ji (d.getD e (0,[])).2)
 |[],e,a=>absurd a (iH _)
 |g::b,0,_=>⟨rfl,rfl⟩
 |g::b,e+1,a=>by rw[show(e+1)*2=e*2+1+1 by omega];exact JF (d:=b) (e:=e) M
def CP:∀b a:m cW,gB (b++a)=gB b++gB a
 |[],a=>rfl
 |d::b,a=>by simp only[uw,gB,CP b a]
theorem JG:∀b(a:Nat)d,a<c b->gB (b.set a d)=(gB b).take (a*2)++[.int .i64 d.1,ji d.2]++(gB b).drop (a*2+2)
 |[],a,d,e=>absurd e (iH _)
 |g::b,0,d,_=>by simp[gB]
 |g::b,a+1,d,e=>by rw[List.set_cons_succ,gB,JG b a d M,gB,show(a+1)*2=a*2+1+1 by omega,show a*2+1+1+2=(a*2+2)+1+1 by omega];simp
theorem CQ{d}(o:gu d):eo 2 (c d) (bG.fn d) (gB d):=by
 refine⟨yf d,λb _=>rfl,λb e p q a=>?_⟩;obtain⟨i,j⟩:=JF e;obtain⟨m,g⟩:=o (d.getD b (0,[])) M;have k:bG.fn d b=[.int .i64 (d.getD b (0,[])).1,.T (d.getD b (0,[])).2]:=rfl;rw[k]at a
 match p,a with
 |0,a=>cases a;exact⟨_,i,λh=>Rd.int m⟩
 |1,a=>cases a;exact⟨_,j,λh=>Rd.T M g⟩
abbrev g8(a:Y):y:=ax (.val a)
abbrev aJ(a:fp)(d:Nat)(b:m cW):aq:=.K (cr 114 2 a d (gB b))
abbrev is(b:Nat)(a:fp)(d:Nat):aq:=.K (ed b 273 (cZ a d))
abbrev sH(a:cW):y:=ax (.cE 114 [.int .i64 a.1,.T a.2])
abbrev xS(a:cW):y:=.n (.agg [.c (.int .i64 a.1),.c (.T a.2)])
theorem aeb{a:cW}(m:m7 z [.c (.int .i64 a.1),.c (.T a.2)]):z=[.int .i64 a.1,ji a.2]:=by
 obtain⟨i,e⟩:=m
 match z,i with
 |[q,r],_=>
  obtain⟨o,h,b⟩:=e 0 _ rfl;obtain⟨p,j,d⟩:=e 1 _ rfl;cases h;cases j;have g:=b λ_ _=>n;have k:=(Ep (d λ_ _=>n)).1;cases g;rw[k]
def So{b d:ae}(e:r.op=.call {callee:=.builtin .append,args:=#[b,d],argTypes:=#[273,273]}):jY T r b d 114 mA:=
 ⟨⟨273,273,C5,C5,e,(bb _ _ a),rfl,(bb _ _ a),rfl⟩,(bb _ _ a),by decide,by decide⟩
def Ci(bO)(j)(d):X q 220 [g8 (cZ bO j)] [aJ bO j d] (Q j) [aJ bO j d]:=by refine X.J func220 rfl λb=>?_;refine gp [] 7 a B ?_;refine g.jk bb 0 a a a a a a a a ?_;exact aW a B (g.aH [0] a a CN)
def Cj(i cap){d}(k:gu d)(o:Nat)(b:e<c d)(j:u<c d):X q 350 [g8 (cZ (.row i cap) (c d)),Q e,Q u] [aJ (.row i cap) (c d) d] (bf (decide ((d.getD e (0,[])).1<(d.getD u (0,[])).1))) [aJ (.row i cap) (c d) d]:=by
 refine X.J func350 rfl λm=>?_
 have h:=CQ k;refine a5 [901] a B ?_;refine g.gd b6 [g8 (cZ (.row i cap) (c d)),Q e,g8 (.pointer (f ⟨i,0+(e:Int).toNat*2,n⟩)),g8 (.pointer (f ⟨i,0+(e:Int).toNat*2+0,n⟩)),Q (d.getD e (0,[])).1,g8 (cZ (.row i cap) (c d)),Q u,g8 (.pointer (f ⟨i,0+(u:Int).toNat*2,n⟩)),g8 (.pointer (f ⟨i,0+(u:Int).toNat*2+0,n⟩)),Q (d.getD u (0,[])).1,bf (decide ((d.getD e (0,[])).1<(d.getD u (0,[])).1))] 10 a a a a a ⟨
  aZ.w,aZ.w,aZ.eval (bh:=[]) bb a_.nil a bv,aZ.w,
  aZ.a0 (jW a) (a1.e8 (d:=0) (e:=e) (aj:=0) bb a a D a h a a b),
  aZ.w,aZ.w,aZ.eval (bh:=[]) bb a_.nil a bv,aZ.w,
  aZ.a0 (jW a) (a1.e8 (d:=0) (e:=u) (aj:=0) bb a a D a h a a j),
  aZ.w,B⟩ ?_
 exact aW a B (g.aH [0] a a CN)
def MI{g m:ae}{cap}{d}{aa}(u:r.op=.store o g m)(s:bZ eO o=f mA)(b:off=e*2)(t:bD I g=cL (.pointer (f ⟨i,off,n⟩)))(p:mn (bD I m)=f [.c (.int .i64 aa.1),.c (.T aa.2)])(z:c d=j)(w:e<c d)(y:r.guard=n):
  aZ q E all r I [aJ (.row i cap) j d] .any [aJ (.row i cap) j (d.set e aa)]:=by subst b;have x:=eg.eM (E:=E) (k:=[aJ (.row i cap) j d]) bb 0 (W:=114) (h:=2) (j:=j) (i:=i) (cap:=cap) (off:=e*2) (ag:=gB d) u s t p a a a (by grind[yf]);grind[aeb,JG,aZ.ev]
abbrev MM(d a:Nat)(b:m cW)(e g:Nat)(h i:Bool):m aq:=match h with
 |false=>[aJ (.row d a) (c b) b]
 |true=>match i with
  |false=>[aJ (.row d a) (c b) (b.set e (b.getD g (0,[])))]
  |true=>[aJ (.row d a) (c b) (jw b e g)]
def Ck(i cap){d}(o:gu d)(b:e<c d)(k:u<c d):X q 353 [g8 (cZ (.row i cap) (c d)),Q e,Q u] [aJ (.row i cap) (c d) d] (.S []) [aJ (.row i cap) (c d) (jw d e u)]:=by
 refine X.J func353 rfl λr=>?_;have x:=CQ o;refine a5 [900] a B ?_;let h:Nat->y:=λp=>([g8 (cZ (.row i cap) (c d)),Q e,g8 (cZ (.row i cap) (c d)),Q u,g8 (cZ (.row i cap) (c d)),Q u,g8 (.pointer (f ⟨i,0+(u:Int).toNat*2,n⟩)),xS (d.getD u (0,[])),g8 (cZ (.row i cap) (c d)),Q e,g8 (.pointer (f ⟨i,0+(e:Int).toNat*2,n⟩)),xS (d.getD e (0,[])),g8 (.pointer (f ⟨i,0+(e:Int).toNat*2,n⟩)),.any,g8 (.pointer (f ⟨i,0+(u:Int).toNat*2,n⟩))]:m y).getD p .any
 refine g.cc b6 h (ob (MM i cap d e u) 13 15) a a a a ⟨
  .bE,.bE,.bE,.bE,.bE,.bE,
  .ds bb a_.nil,
  cc.g9 a a a a (aZ.a0 (jW a) (a1.e8 (d:=0) (e:=u) (aj:=0) bb a a D a x a a k)),
  .bE,.bE,
  .ds bb a_.nil,
  cc.g9 a a a a (aZ.a0 (jW a) (a1.e8 (d:=0) (e:=e) (aj:=0) bb a a D a x a a b)),
  .ds bb a_.nil,
  cc.fK a a ?_,
  .ds bb a_.nil,
  cc.fL a a ?_,B⟩ ?_
 .exact MI a a D a a a b a
 .exact MI a a D a a D M a
 intro y j;show g q _ _ _ _ _ (MM i cap d e u (y 13) (y 15));rw[j 13 ca,j 15 ca];exact bY.di [0] a B a a a CN
def U5(C)(bO){d}(z:gu d)(D:c d<=1000){b}(A:c b.2<=9223372036854775807):
  bk (ι:=fp) q 352 [g8 (.pointer (f ⟨C,0,n⟩)),sH b] [is C bO (c d),aJ bO (c d) d] (λ_=>.S []) (λe=>[is C e (c d+1),aJ e (c d+1) (d++[b])]):=by
 refine bk.cd func352 rfl rfl rfl λx=>?_;refine a5 [900] a B ?_;have k:=tz bO (c d);refine g.eI (ι:=fp) b6 7 8 10 (λi=>ay i 6) (λi=>([g8 (.pointer (f ⟨C,0,n⟩)),g8 (.pointer (f ⟨C,0,n⟩)),g8 (.pointer (f ⟨C,0,n⟩)),g8 (cZ bO (c d)),sH b,xS b,ax (.B l 2 1 λp=>([[.int .i64 b.1,.T b.2]]:m (m N)).getD p [])]:m y).getD i .any) (λe _=>g8 (cZ e (c d+1))) (λe=>[is C bO (c d),.K (cr 114 2 e (c d+1) (gB d++[.int .i64 b.1,ji b.2]))])
  rfl rfl rfl rfl rfl rfl rfl (λi w=>by exact lI) rfl
  ⟨aZ.w,aZ.w,aZ.a0 (jW a) (a1.dT a a),aZ.eE bb 0 a a a a a k a,aZ.w,aZ.a0 (jW a) (a1.f' (ah:=[.int .i64 b.1,.T b.2]) bb a a a a),aZ.w,B,B,B,B⟩
  (λe=>⟨aZ.w,aZ.w,aZ.a0 (jW a) (a1.dT a a),aZ.eE bb 0 a a a a a k a,aZ.w,aZ.a0 (jW a) (a1.f' (ah:=[.int .i64 b.1,.T b.2]) bb a a a a),aZ.w,B,B⟩)
  (dX.ev a (eg.fu (d:=1) (bO:=bO) (ag:=gB d) (j:=c d) (hX:=[.int .i64 b.1,ji b.2]) (So a) a a a a a (λt E r u h s=>?_) z8)) λe=>?_
 .match r,h with
  |0,h=>cases h;cases s;exact bE
  |1,h=>grind[Ep]
 have o:=tz e (c d+1);refine g.aK (a1.dT a a) a a ?_;refine g.h0 bb 0 a a a a a (by cases e<;>rfl) o a a a ?_;refine aW a B ⟨e,bY.di [0,1] a B ?_ a a sR⟩;show f [_,aq.K (cr _ _ _ _ (gB d++_))]=f [_,aq.K (cr _ _ _ _ (gB (d++[b])))];rw[CP];rfl
def cr.cut{cap}{d}{e}(k:cr W 2 (.row i cap) (c d+1) (gB (d++[e])) aa k6):cr W 2 (.row i cap) (c d) (gB d) aa k6:=by obtain⟨a,b,r,p,h,j,o,q⟩:=k;rw[CP]at *;refine⟨a,λm g=>b m (AL _ g),yf d,by omega,h,gB [e]++j,M,?_⟩;grind
def U4(C i cap){d}{b}(p:gu (d++[b]))(r:c d<=1000)(h:c d+1<=cap):
  X q 351 [g8 (.pointer (f ⟨C,0,n⟩))] [is C (.row i cap) (c d+1),aJ (.row i cap) (c d+1) (d++[b])] (sH b) [is C (.row i cap) (c d),aJ (.row i cap) (c d) d]:=by
 refine X.J func351 rfl λo=>?_;have j:eo 2 (c d+1) (bG.fn (d++[b])) (gB (d++[b])):=by grind[CQ,List.length_append]
 refine aW a B (g.aK (a1.dT a a) a a ?_);refine g.Q (aZ.eE bb 0 a a a a a a a) a ?_;refine aW a bE (g.aK (a1.dT a a) a a ?_);refine g.Q (aZ.eE bb 0 a a a a a a a) a ?_;refine aW a bv (g.aK (a1.e8 (d:=1) (e:=c d) (aj:=0) bb a a (by simp[show mA.size=2 from a]) a j a a D) a a ?_);refine aW a B (g.aK (a1.dT a a) a a ?_);refine g.Q (aZ.eE bb 0 a a a a a a a) a ?_;refine aW a B (g.aK (a1.jT bb a a a a a a h w w) a a ?_);rw[show(((c d+1:Nat):Int)-1).toNat=c d from by omega];refine g.aK (a1.dT a a) a a ?_;refine g.h0 bb 0 a a a a a a a a a a ?_;refine gp [] 2 a B (g.gy (ι:=Unit) 1 (λ_=>cr 114 2 (.row i cap) (c d) (gB d)) a (λs k m=>⟨(),cr.cut m⟩) λ_=>?_);refine aW a B (g.aH [0,1] a ?_ sR);simp
end
end R1
end Go.AM
