/- Part 3. No condition. -/
import Derived.Test.YtmddllcadagmjaaGreatDoorA2
import Derived.Laws.Externs
import Derived.Conc.Beside
import Derived.Conc.CrowdRun
import Derived.Conc.WgGenN2
import Derived.Conc.WgGenN3
import Derived.Conc.LeavingOf
import Derived.Below
import Derived.ProofKit
import Derived.OpenShut
import Derived.OpenVars
import Derived.LaidMore
import Derived.Lay
import Derived.SevenTiedAt
import Derived.Lib.Bytealg
set_option linter.all false
set_option maxHeartbeats 8000000
open Go.Proofs
open Go.Proofs.Tryz
open Go.Conc (G)
open List renaming length → c, range → aA, replicate → aV, getD_eq_getElem?_getD → aj, all_eq_true → aW
open Go renaming Value → X, TypeId → ak, Event → aO, undef → J, World → au, Frame → aG, FuncId → a0, execOp → ab, Operand → ae, Program → aD, Goroutine → ai, stepG → ao, Oper → an
open Option renaming some → h, none → n
open Bool renaming true → l, false → v
open Nat renaming beq → ad, ble → ax
open Go.Region renaming wanted → aP
open Go.World renaming cell? → aI
open Go.Instr renaming sliceBounds → aT
open Go.Op renaming bytesLess → aS, equalIn → aL
open Go.Sem renaming events_bind → aC
open Go.Result renaming evThen_ok → aF
open Go.Proofs.Tryz renaming prog → T
open Go.MemAct renaming ofEvent → aK
open Go.Conc renaming stepG_seq → aw, stepG_region_end → aB
namespace Go.AM
variable {j A:Nat}{f:Int}{d i e u:Nat}{W:ak}{H:X->(Nat->Option Obj)->Prop}{L:Array Bool}{bB:Mem}{F:Nat}{P:aD}{br:ai->a6->Prop}{t:Code}{C:ai}{r:an}{b:a6}{o:ak}{aa:X}{p:au}{α:Type}{η:ae->y}{ι:Type}{k:m aq}{I:bL}{all:m an}{dt:Array ak}{cap:m M}{cS:m y}{ld:Nat->Option Obj}{ah:m aG}{bh:m (Nat×Bool)}{V:Nat->m M}{cQ:ae}{gs:Array ai}{aX:m Nat}{cq:m Prop}{off:Nat}{op:BinOp}{aR:Array an}{Z:m Prop}{bq:m an}{aE:a6}{ty:ak}{val:Nat->Nat->X}{z:m X}{bi:au}{ag:Array ae}{ar dj:m aq}{res:ι->y}{aU:ι->m aq}
variable {CT:m (Nat×bH)}{av:m iu}{be:fD}{ac:m (Nat×cr)}{a5:cr}
section
variable {q:af P}
def g.jA{K:ι->y}{e:ι->m aq}(R:dX q F all r I k K e)(Q:fp F r.dst=l)(T:∀p,g q F be (.al all bq::av) .normal (gh r.dst (K p) I) (e p)):g q F be (.al all (r::bq)::av) .normal I k:=by
  intro V M t d J j f E idx i a A;cases idx with
  |nil=>exact a.elim
  |cons S idx=>
  refine R V M t d J j f E S idx i a.1 λp X B w x b=>?_;refine T p B _ ?_ x J j f E idx i a.2 λN o C s U u z D=>A N o C s U u z (b.trans D);cases O:r.dst with
  |none=>exact t.mono b d.len
  |some W=>exact(t.mono b d.len).put (lh Q W O) w
def dX.gd[q.b1]{bn}(aN:bl q bn cS [] res aU){ae}(aS:oQ all I r=l)(bx:r.op=.call {callee:=.value cQ,args:=ag,argTypes:=dt})(V:g8 (bF I cQ)=h (bn,cap))(bu:pW k (ag.toList.map (bF I)++fg cap) ae)(bN:l2 ae (gr [] cS)=h Z)(a4:U Z)(a0:ho 0 cS=l)(bK:∀s,yH (res s)=l)(a3:∀s,qL (aU s)=l):dX q F all r I k res (λs=>k++aU s):=by
  intro b x bd ay i a7 ah bO bJ idx g aZ br;have ao:=eH bd cQ;unfold g8 at V;split at V
  case h_2=>cases V
  case h_1 vl u9 he=>
    cases V;rw[he]at ao;have bG:=b8 ao;generalize R:x.eval cQ=bW at bG;cases bG with
    |fn bp J a1 az bU bo e y bY bC=>
      have aP:bp=[]:=jJ a1;subst aP;have bR:b5 k b J (fg cap):=qj (λs t bt=>⟨bo s,y s N,bC s t bt⟩) az;have G:b5 k b (ag.toList.map x.eval++J) (ag.toList.map (bF I)++fg cap):=(m_ (eH bd) ag.toList).append bR;generalize bI:ag.toList.map x.eval++J=z at G;obtain⟨⟨fn,aO,aB,bS⟩,T⟩:=aN;have aD:∀aF,(ab x.eval r).run P aF=.ok (.enter bn z.toArray) aF:=λaF=>by grind[mR]
      have aw:∀aF,(ab x.eval r).events P aF #[]=#[]:=λaF=>(mR bx aO aB bS R aF).2;refine .next a λm a5=>?_;have W:=q.bJ a5;have u:=ay.rely W;have aH:=bd.rely W ay;have bM:b5 k m z (ag.toList.map (bF I)++fg cap):=G.mono W.aT.ext ay.len;obtain⟨Q,av,bH,a9,bz,a_,bX,bA⟩:=bu m z u bM;let O:a6:={m with s:=[],D:=av,own:=λi=>m.own i∨∃L∈m.s,i∈L.aj}
      have aY:bb [] O:=by
        refine⟨a_,a,by simp,by grind,by grind,λi g=>⟨?_,by grind⟩⟩;rcases g with g|⟨d,Y,g⟩
        · exact(u.own i g).1
        · exact u.lt d Y i g
      have aQ:e9 m O:=by refine⟨rfl,a9,λi g r=>bz i (λaJ=>by grind) r,a_,λi g=>?_⟩;grind
      have b0:b5 [] O z cS:=by have bg:=tm bN a4 bA;exact(b5.sub (aX:=[]) (k:=k) (ar:=[]) (b:={m with D:=av}) (lG:=[]) rfl rfl bg a0).mono (k:=[]) (b:={m with s:=[],D:=av}) (ar:=[]) (aE:=O) ⟨λ_ _ _ w=>w,λA Q L aJ bq=>by grind⟩ rfl
      refine⟨_,m,_,tP aZ (j5 aS _ _ _ aH) g (aD m.a),⟨⟨k,k,u,u,.refl _ _⟩,dv.seen (by rw[aw];exact .nil)⟩,.aP aQ (T O z b0 aY bO _ λs bV p bZ a2 aC K a'=>?_)⟩;refine uV (ah:=ah) (t:=i.U x (.inRegion all.toArray (bJ::idx)::a7)) K a2 λC bf=>?_;have X:=K.rely bf;have S:=a'.trans bf.aT;have bQ:=aC.mono bf.aT.ext K.len
      classical
      let aa:Mem:=λi r=>if Q i then m.D i r else C.D i r;have bB:∀i,(m.own i∨∃L∈m.s,i∈L.aj)->C.own i:=λi g=>by rw[S.own];exact g
      have ai:nY C {C with D:=aa}:=by
        refine⟨a,a,a,λi r p R=>?_,λi r p R=>?_⟩
        · grind
        grind
      refine .b2 af.b1.ok ai ?_;have ak:∀i r p,aa i r=h p->C.D i r=h p:=ai.e9;let B:a6:={C with D:=aa,s:=m.s++C.s,own:=m.own}
      have an:∀i r p,m.D i r=h p->aa i r=h p:=λi r p R=>by
        by_cases o:Q i
        · grind
        · simp[aa,o,dn];exact S.mem i r p (a9 i r p R)
      have al:∀i,i<m.a.heap.size->∀r,aa i r=m.D i r:=λi g r=>by
        by_cases o:Q i
        · grind
        · simp[aa,o,dn]
          rw[S.bA i g N r];grind
      have bP:c C.s=c (aU s):=X.len;have aG:fw k m (k++aU s) B:=by
        refine⟨an,λA Q L aJ bq=>⟨Q,L,?_,?_,.refl _ _⟩⟩
        · grind
        grind
      have aM:m.a.heap.size<=C.a.heap.size:=S.size;have bE:∀A d,(m.s++C.s)[A]?=h d->(A<c m.s/\m.s[A]?=h d)∨(c m.s<=A/\C.s[A-c m.s]?=h d):=λA d w=>by grind
      have aT:bb (k++aU s) B:=by
        refine⟨λi r p R=>X.mem i r p (ak i r p R),by simp[B,u.len,bP],?_,?_,?_,?_⟩
        · intro A Q d aJ Y
          rcases bE A d Y with⟨au,e⟩|⟨aq,e⟩
          · rw[jm (by rw[<-u.len];exact au)]at aJ
            exact(u.box A Q d aJ e).cc aG u.len λj o=>⟨S.a7 j (.inr ⟨d,b' e,o⟩),al j (u.lt d (b' e) j o)⟩
          · rw[hx (by rw[<-u.len];exact aq),<-u.len]at aJ
            have aL:=X.box _ Q d aJ e;rcases Lq (a3 s) Q (b' aJ)with⟨H,rfl⟩|rfl
            · obtain⟨bm,bh,bj,bk,bT⟩:=aL
              refine⟨bm,bh,bj,bk,λj o r=>?_⟩;grind
            · trivial
        · intro A a8 D E aI aK j M bc
          rcases bE A D aI with⟨au,e⟩|⟨aq,e⟩<;>rcases bE a8 E aK with⟨bw,y⟩|⟨bs,y⟩
          · exact u.a4 A a8 D E e y j M bc
          · exact absurd bc ((X.own j (bB j (.inr ⟨D,b' e,M⟩))).2 E (b' y))
          · exact absurd M ((X.own j (bB j (.inr ⟨E,b' y,bc⟩))).2 D (b' e))
          · have:=X.a4 _ _ D E e y j M bc;omega
        · intro d Y j o
          rcases e2.1 Y with w|w
          · exact eE (u.lt d w j o) aM
          · exact X.lt d w j o
        · intro j o
          refine⟨eE (u.own j o).1 aM,λd Y=>?_⟩;rcases e2.1 Y with w|w
          · exact(u.own j o).2 d w
          · exact(X.own j (bB j (.inl o))).2 d w
      have aR:e9 {C with D:=aa} B:=by refine⟨rfl,λ_ _ _ w=>w,λ_ _ _=>rfl,λi r p R=>X.mem i r p (ak i r p R),λj o=>?_⟩;grind
      have ba:dh k m (k++aU s) B:=by
        refine⟨aM,λj o=>S.a7 j (.inl o),an,λj o _ r=>al j o r,λd Y j o=>?_,aG.box,S.os,S.tape,S.output,a⟩;rcases e2.1 Y with w|w
        · grind
        · rcases S.bS d w j o with e|⟨bL,e,_⟩
          · grind
          grind
      refine .aP aR ?_;have bD:=qs (i:=i) (x:=x) (f:=a7) all.toArray bJ idx p;rw[aZ]at bD;simp[n5]at bD;rw[bD];exact br s p B (Zn (bK s) bQ) aT (W.aT.trans ba)
def g.gd[q.b1]{e:Type}{cQ}{ag}{dt}{o}{cap}{cS}{a:e->y}{b:e->m aq}(A:bl q o cS [] a b){t}(w:oQ all I r=l)(i:r.op=.call {callee:=.value cQ,args:=ag,argTypes:=dt})(B:g8 (bF I cQ)=h (o,cap))(f:pW k (ag.toList.map (bF I)++fg cap) t){Z}(p:l2 t (gr [] cS)=h Z)(u:U Z)(x:ho 0 cS=l)(s:∀d,yH (a d)=l)(z:∀d,qL (b d)=l)(C:fp F r.dst=l)(j:∀d,g q F be (.al all bq::av) .normal (gh r.dst (a d) I) (k++b d)):g q F be (.al all (r::bq)::av) .normal I k:=.jA (dX.gd A w i B f p u x s z) C j
def g.iz[q.b1]{m}(y:bl q m cS [] res aU)(A i){o}{f}(t:oQ all I r=l)(d:r.op=.call {callee:=.value cQ,args:=ag,argTypes:=dt})(B:g8 (bF I cQ)=h (m,cap))(z:(ag.toList.map (bF I)++fg cap)[i]?=h (cN o))(b:AG k A o f j V)(p:l2 ((ag.toList.map (bF I)++fg cap).set i (ay (.B v f j V))) (gr [] cS)=h Z)(u:U Z)(w:ho 0 cS=l)(s:∀a,yH (res a)=l)(x:∀a,qL (aU a)=l)(C:fp F r.dst=l)(e:∀a,g q F be (.al all bq::av) .normal (gh r.dst (res a) I) (k++aU a)):g q F be (.al all (r::bq)::av) .normal I k:=
  g.gd y t d B ((pW.refl _ _).step i A z b) p u w s x C e
end
section
variable {q:af P}
theorem dX.eo{z:ι->y}{a:ι->m aq}(M:r.guard=n)(D:ei P F r I k z a):dX q F all r I k z a:=by intro T A C b Q S B O R s o p j;refine ry o p (jf M) λJ e=>?_;have f:=b.rely e;obtain⟨w,N,d,x,g,i,K,t,u,E⟩:=D J A (C.rely e b) f;exact⟨N,d,x,g,i,⟨⟨k,a w,f,t,u⟩,E⟩,j w x d K t (e.aT.trans (u.too0 f))⟩
def dX.eZ{D}(K:bl q D cS dj res aU)(aX)(ah:r.guard=n)(e:r.op=.call {callee:=.value cQ,args:=ag,argTypes:=dt})(g:g8 (bF I cQ)=h (D,cap))(Y:∀f z,b5 k f z (ag.toList.map (bF I)++fg cap)->b5 k f z (gr aX cS))(al:ho (c aX) cS=l)(an:dy aX k=h dj)(Q:ew dj=l)(ai:∀a,ew (aU a)=l)(w:fi aX=l)(ao:∀a,ax (c aX) (c (aU a))=l):
  dX q F all r I k (λa=>fk (aX++gZ (c k) (c (aU a)-c aX)) (res a)) (λa=>de aX (aU a) k):=by
 intro f S J p ar ab U aq au y o s m;have M:=eH J cQ;unfold g8 at g;split at g
 case h_2=>cases g
 case h_1 vl u9 he=>
  cases g;rw[he]at M;have C:=b8 M;generalize R:S.eval cQ=X at C;cases C with
  |fn W b u d V i Z j af x=>
   have ak:=jJ u;subst ak;have aa:b5 k f b (fg cap):=qj (λa T t=>⟨i a,j a N,x a T t⟩) d;have ae:=Y f _ ((m_ (eH J) ag.toList).append aa);obtain⟨fn,O,E,B⟩:=K.1;exact Bf o s (jf ah) p (λA=>(mR e O E B R A).1) (λA=>(mR e O E B R A).2) K ae al an Q ai w (λa=>fz (ao a)) m
def dX.dY{e}(s:bl q e cS dj res aU)(aX)(g:r.guard=n)(d:r.op=.call {callee:=.value cQ,args:=ag,argTypes:=dt})(u:g8 (bF I cQ)=h (e,cap))(f:lc (ag.toList.map (bF I)++fg cap)=gr aX cS)(j:ho (c aX) cS=l)(m:dy aX k=h dj)(t:ew dj=l)(i:∀a,ew (aU a)=l)(b:fi aX=l)(o:∀a,ax (c aX) (c (aU a))=l):
  dX q F all r I k (λa=>fk (aX++gZ (c k) (c (aU a)-c aX)) (res a)) (λa=>de aX (aU a) k):=.eZ s aX g d u (λ_ _ p=>f▸u7 p) j m t i b o
def dX.bI{e}(t:bl q e cS dj res aU)(aX)(i:r.guard=n)(d:r.op=.call {callee:=.value cQ,args:=ag,argTypes:=dt})(u:g8 (bF I cQ)=h (e,cap))(f:l2 (ag.toList.map (bF I)++fg cap) (gr aX cS)=h Z)(g:U Z)(m:ho (c aX) cS=l)(o:dy aX k=h dj)(w:ew dj=l)(j:∀a,ew (aU a)=l)(b:fi aX=l)(s:∀a,ax (c aX) (c (aU a))=l):
  dX q F all r I k (λa=>fk (aX++gZ (c k) (c (aU a)-c aX)) (res a)) (λa=>de aX (aU a) k):=.eZ t aX i d u (λ_ _ p=>tm f g p) m o w j b s
def ei.fE{E aa:ae}(J:j_ P r E aa W a5){aH f}{U}{d:Nat->m M}(Q:a5.size=f)(ag:bF I E=ay (.B l aH 0 V))(az:bF I aa=ay (.B U f A d))(j:0<A)(i:A*a5.bytes<=140737488355328)(aN:∀C,C<A->∀ai∈d C,nv ai=l):
  ei P F r I k (ι:={D:fv×m X // eo f A d D.2}) (λD=>cN (c6 D.1.1 A)) (λD=>k++[.K (cu W f D.1.1 A D.1.2)]):=by
 intro b aB O g;obtain⟨a3,t2,C,aX,ar,e,aF,G,y⟩:=J.op;have K:=eH O E;rw[ag]at K;have Z:=Rd.fS (f:=aH) (gn:=a5.size) (.inr a) (b8 K);have t:=eH O aa;rw[az]at t;have t:=b8 t;obtain⟨a2,aI,z,S,a1,aK,aw,aU,aO⟩:=Z.b0;have aM:=aw a;subst aM;rw[S]at Z;have aD:Rd b.D (aB.eval aa) (.B U a5.size A d):=N;obtain⟨s,ab,Y,q,aC,aT,aR,aS⟩:=wa (P:=P) (ty:=r.type) e aF G y J.elem g Z aD w N J.bytes;have aL:=vi (P:=P) (ty:=r.type) e aF G y J.elem g Z aD w N J.bytes;have al:ck 0 V d=d:=by funext C;simp[ck]
 rw[Q,cZ,al]at q;rw[Q]at aR;rw[cZ]at aC aS;have aE:eo f A d s:=⟨q.len,q.bF,λC e aY ai u=>by
  obtain⟨aZ,af,aG⟩:=q.rd C e aY ai u
  grind[vt]⟩
 have R:∀E∈s,dT E=l:=λE ag=>by
  obtain⟨x,av,rfl⟩:=hd ag;have aq:0<f:=N;have aQ:=q.len;have e:x / f<A:=sz N;have L:x / f*f+x % f=x:=uJ x f;have u:x % f<c (d (x / f)):=by rw[q.bF _ e];exact p7 _ aq
  obtain⟨aZ,af,aG⟩:=aE.bU _ e _ _ (bJ u);rw[L,bJ av]at af;cases af;exact(aG b.D).cell
 let o:au:=b.a.drew.alloc (.cells (s++ab).toArray W);have aJ:eA (k++[.K (cu W f (.row b.a.heap.size Y) A s)]) {b with a:=o,s:=b.s++[⟨.nilFunc,[b.a.heap.size]⟩]} (.K (cu W f (.row b.a.heap.size Y) A s)) ⟨.nilFunc,[b.a.heap.size]⟩:=by
  refine⟨λB=>if B=b.a.heap.size then h (.cells (s++ab).toArray W (0,0))else n,⟨a,R,q.len,aC,aT,ab,aR,a⟩,λB r T=>?_,λB=>?_,λB T r=>?_⟩
  .by_cases ak:B=b.a.heap.size
   .subst ak;simp only[dw]at T;cases T;exact lY b.a.drew _
   grind
  .by_cases ak:B=b.a.heap.size<;>simp[ak]
  simp at T;subst T;cases j:b.D b.a.heap.size r with
  |none=>rfl
  |some a0=>have:=g.block j;omega
 have aP:o.heap.size=b.a.heap.size+1:=Oc;have H:bb k {b with a:=o}/\cO k b k {b with a:=o}:=
  g.cY w (λah i=>i7 b.a.drew _ i) (λah i r=>rfl) (λah i r a0 j=>by have:=g.block j;omega) a a a
 obtain⟨an,ao⟩:=H.1.bY H.2 rfl g aJ (λah i=>by grind);refine⟨⟨(.row b.a.heap.size Y,s),aE⟩,.value (.slice (h ⟨b.a.heap.size,0,n⟩) A Y),_,_,?_,.inl a,Rd.val a,an,ao,?_⟩
 .rw[ll ar,S];simp[aS];rfl
 grind[ll,i4]
def g.fE{s t}{W}{a5}(C:j_ P r s t W a5){y f A}{o}{d a:Nat->m M}(z:a5.size=f)(D:bF I s=ay (.B l y 0 d))(w:bF I t=ay (.B o f A a))(i:0<A)(e:A*a5.bytes<=140737488355328)(u:∀p,p<A->∀x∈a p,nv x=l)(B:r.guard=n)(E:fp F r.dst=l)(j:∀b:{b:fv×m X // eo f A a b.2},g q F be (.al all bq::av) .normal (gh r.dst (cN (c6 b.1.1 A)) I) (k++[.K (cu W f b.1.1 A b.1.2)])):g q F be (.al all (r::bq)::av) .normal I k:=
 g.cD _ _ B E (ei.fE C z D w i e u) j
def g.fh(W)(f)(i:g q F be (.code t::av) .normal I (k++[.K (cu W f (.nil n) 0 [])])):g q F be (.code t::av) .normal I k:=by refine g.aP (λj p b a=>?_) i;obtain⟨m,d⟩:=a.bY (bU:=.K (cu W f (.nil n) 0 [])) (L:=⟨.nilFunc,[]⟩) (.refl _ _) rfl a ⟨λ_=>n,⟨rfl,by simp,by simp,rfl,rfl⟩,by simp,by simp,by simp⟩ D;exact⟨{j with s:=j.s++[⟨.nilFunc,[]⟩]},rfl,⟨b.size,b.defers.imp λ_ e=>e.mono d.ext,λo=>(b.aL o).mono d.ext a.len⟩,m,d⟩
end
def Gd(g:X)(e f:Nat)(a:Nat->m M)(d b:M):Prop:=b=d∨(d=.val g/\b=.B v e f a)
def bb.fA{aU fl}{f}{bP}{ag}(q:bb (aU++[.K (cu W f bP j ag)]) b)(aw:eo f j V ag){s}{eR}{A p}{C lU:Nat->m M}(y:aU[s]?=h (.q eR A p C))(aT:fl=aU.set s (.q eR A p lU))(az:kt (c fl) fl=l)(ab:∀k,k<p->c (lU k)=c (C k))(Z:∀k,k<p->∀(u:Nat) (K:M),(lU k)[u]?=h K->∃x,(C k)[u]?=h x/\Gd (c6 bP j) f j V x K):
  ∃r:a6,bb fl r/\e9 b r/\(∀ak O,bx (aU++[.K (cu W f bP j ag)]) b ak O->hX (c fl) O=l->bx fl r ak O)/\∀{o:m aq} {w:a6},dh o w (aU++[.K (cu W f bP j ag)]) b->o.length<=c fl->dh o w fl r:=by
 have G:=(cP.1 y).1;have aJ:(aU++[aq.K (cu W f bP j ag)])[c aU]?=h (.K (cu W f bP j ag)):=D
 obtain⟨L,cl,ar,au,an,S,aI,aK⟩:=cu.fJ aJ V (λk g=>⟨aw.ez k g,λaS u x aX t aH=>by
  obtain⟨aY,aO,aP⟩:=aw.bU k g u x t
  grind⟩) b q
 obtain⟨E,F⟩:=q.b5 (cl:=cl) (bi:=b.a) (ed:=.N) (cw:=⟨L.v,[]⟩) aJ ar rfl (bC _) (λ_ _ _=>rfl) (λi _ e ae=>an i e ae) au S D rfl rfl rfl B;have R:(aU++[aq.K (cu W f bP j ag)]).set (c aU) .N=aU++[.N]:=D;rw[R]at E F;have ay:(aU++[aq.N])[s]?=h (.q eR A p C):=N;have aQ:=E.len;have Q:=bJ (l:=b.s.set (c aU) ⟨L.v,[]⟩) (i:=s) N;generalize(b.s.set (c aU) ⟨L.v,[]⟩)[s]'_=sr at Q;have H:=E.box s _ sr ay Q;have af:fQ (.q eR A p C) sr (.q eR A p lU) sr:=⟨λ_=>rfl,bC _⟩
 have aR:(b.s.set (c aU) ⟨L.v,[]⟩).set s sr=b.s.set (c aU) ⟨L.v,[]⟩:=m3;obtain⟨ao,I⟩:=E.b5 (cl:=cl) (bi:=b.a) (ed:=.q eR A p lU) (cw:=sr) ay Q af (bC _) (λ_ _ _=>rfl) (λ_ _ _ _=>rfl) (λ_ _ _ aF=>aF) S
  (λi e=>⟨.inl e,E.lt sr (b' Q) i e⟩) a a a (by
   rcases H with⟨dM,e'⟩|⟨i,T,z,al,dM,e',jU,U,X,av,Y⟩
   .exact .inl ⟨dM,e'⟩
   .refine .inr ⟨i,T,z,al,dM,e',jU,U,X,⟨av.len,λk g=>by rw[ab k g];exact av.bF k g,λk g u K t=>?_⟩,Y⟩;obtain⟨x,aE,aB⟩:=Z k g u K t;obtain⟨aN,ah,ai⟩:=av.rd k g u x aE;refine⟨aN,ah,?_⟩;rcases aB with rfl|⟨rfl,rfl⟩
    .exact ai
    grind[Rd.bd])
 have aD:(aU++[aq.N]).set s (.q eR A p lU)=fl++[.N]:=N;rw[aD]at ao I;have J:=F.trans I;refine⟨_,ao.drop (bq:=[.N]) az,⟨a,au,λi e ae=>an i (e L (b' ar)) ae,S,λi e=>?_⟩,λak O aL aa=>(aL.mono J.ext q.len).drop (bq:=[.N]) aa,λ{o w} aM af=>(aM.trans (J.too0 q)).drop (bq:=[.N]) af⟩;rcases e with e|⟨cw,aC,e⟩
 .exact .inl e
 have aG:=gN aC;grind
def bl.fA{P:aD}{d:Type}{I:af P}{K}{args}{k}{b:d->y}{aU fl:d->m aq}{W f j}{bP:d->fv}{ag:d->m X}{o:Nat->m M}(N:bl I K args k b (λa=>aU a++[.K (cu W f (bP a) j (ag a))]))(ab:∀a,eo f j o (ag a))(Q){eR}{R q:Nat}{r:d->Nat->m M}{lU:Nat->m M}(ae:∀a,(aU a)[Q]?=h (.q eR R q (r a)))(Y:∀a,fl a=(aU a).set Q (.q eR R q lU))(aa:∀a,kt (c (fl a)) (fl a)=l)(V:∀a,hX (c (fl a)) (b a)=l)(Z:∀a,c k<=c (fl a))(ak:∀a g,g<q->c (lU g)=c (r a g))(al:∀a g,g<q->∀(O:Nat) (S:M),(lU g)[O]?=h S->∃J,(r a g)[O]?=h J/\Gd (c6 (bP a) j) f j o J S):bl I K args k b fl:=by refine⟨N.1,λah z D B U w A=>N.2 ah z D B U w λa x T ai C e p F=>?_⟩;obtain⟨E,s,i,t,u⟩:=p.fA (ab a) (ae a) (Y a) (aa a) (ak a) (al a);exact .aP i (A a x T E (C.mono i.mem) (t T _ e (V a)) s (u F (Z a)))
def Th(aZ:bZ P ac){parts}(s:r.op=.buildSlice o j parts){f}{V}(g:rZ ac η o j parts.toList=h (f,V)){e}(u:bX ac o=h e)(ag:e.desc=.slice W){ρ:ae->X}(M:∀au,bx k b (ρ au) (η au)):
  ∃t:m X,e0 b.D f j (λe=>V.getD e []) t/\j<=16777216/\0<f/\(ab ρ r).run P b.a=.ok (.value (.slice (h ⟨b.a.heap.size,0,n⟩) j j)) (b.newRow W t).a/\(ab ρ r).events P b.a #[]=#[]:=by
 unfold rZ at g;simp[u,ag]at g
 .skip
  cases A:bX ac W with
  |none=>grind
  |some d=>
   simp[A]at g;cases C:ad d.size 0 with
   |true=>grind
   |false=>
    simp[C]at g;cases G:ax (j*d.size) 16777216 with
    |false=>grind
    |true=>
     simp[G]at g;cases aa:py η parts.toList with
     |none=>grind
     |some T=>
      simp[aa]at g;cases ar:rN (λf=>h (f*d.size,d.size)) T (aV (j*d.size) R.any)with
      |none=>grind
      |some F=>
       simp[ar]at g;cases H:h' F with
       |none=>grind
       |some aF=>
        simp[H]at g;cases af:rG d.size j aF with
        |none=>grind
        |some ak=>
         simp only[af,e_,lL]at g;obtain⟨rfl,rfl⟩:=g;have aL:d.size≠0:=λaC=>by rw[aC]at C;cases C
         have aD:=fz G;obtain⟨aq,q,N5,aH,aI,a,ah,aJ,aK⟩:=(aZ W d A).cK;have ao:q.cells.size=d.size:=by have:=eF List.length ah;grind
         have an:∀i∈q.cells.toList,dT i=l:=by intro i L;have ai:k' i∈q.cells.toList.map k':=g4.2 ⟨i,L,rfl⟩;rw[ah]at ai;obtain⟨aN,_,J⟩:=g4.1 ai;exact(Rd.fr (bB:=b.D) J.symm).cell
         have y:∀aE,(∀i∈(aA aE).map (λx=>q.cells[x % q.cells.size]!),dT i=l):=by grind[Nat.mod_lt]
         have av:∀z:m X,(∀i∈z,dT i=l)->bN k b z (aV (c z) R.any):=by
          intro z;induction z with
          |nil=>intro _;trivial
          |cons i z O=>intro L;exact⟨L i D,O λaG B=>L aG N⟩
         obtain⟨Q,S⟩:=zd (k:=k) (b:=b) M aa;have aM:bN k b ((Array.range (j*d.size)).map (λx=>q.cells[x % q.cells.size]!)).toList (aV (j*d.size) R.any):=by have:=av _ (y (j*d.size));simpa using this
         obtain⟨t,U,Y⟩:=yv (k:=k) (b:=b) (v6:=λf=>h (f*d.size,d.size)) (λf aO K=>K) ar Q S aM;have nO:=rI H Y;obtain⟨aB,E⟩:=B7 (bB:=b.D) (z:=t.toList) af (by simpa using nO.cL) nO.e0;refine⟨t.toList,E,e3 (uG j w) aD,by omega,?_,?_⟩
         rotate_left
         .exact RU
         have B:=(aZ o e u).run_underlying (p:=b.a);rw[ag]at B;have aw:(zeroValue W).run P b.a=.ok q b.a:=Oy;have I:Instr.fill (λf=>h (f*d.size,d.size)) ((Array.range (j*d.size)).map (λx=>q.cells[x % q.cells.size]!)) (parts.map λ(e,Z)=>(e,ρ Z)).toList=h t:=by simpa using U
         by_cases az:j*d.size=0
         .have ay:j=0:=by grind[Nat.mul_eq_zero]
          subst ay;have al:Array.range 0=#[]:=rfl;simp[al]at I;simp[ab,s,Instr.buildSlice,B,(aZ W d A).bb,al,I,Go.newRow,a6.newRow]
         rw[show ab ρ r=(do pure (.value (<-Instr.buildSlice o j (parts.map λ(e,Z)=>(e,ρ Z))))) by simp[ab,s]];simp only[Instr.buildSlice,cL,B,c',(aZ W d A).bb,az,dn,aw,show¬j*d.size>2 ^ 24 by omega,sJ,I,d_];simp[Go.newRow,a6.newRow]
section
variable {q:af P}
def g.gM(aZ:bZ P ac){parts}(C:r.op=.buildSlice o j parts){f}{V}{e}(u:bX ac o=h e)(M:e.desc=.slice W)(s:rZ ac (bF I) o j parts.toList=h (f,V))(S:r.guard=n)(U:fp F r.dst=l)(w:g q F be (.al all bq::av) .normal (gh r.dst (cF (c k) (.B j f 0 j)) I) (k++[.q W f j (λe=>V.getD e [])])):g q F be (.al all (r::bq)::av) .normal I k:=by
 refine g.cD (ι:=Unit) (λ_=>cF (c k) (.B j f 0 j)) (λ_=>k++[.q W f j (λe=>V.getD e [])]) S U (λb A O i=>?_) λ_=>w;obtain⟨p,y,E,D,B,K⟩:=Th (k:=k) (b:=b) (ρ:=A.eval) aZ C s u M (λX=>eH O X);have aJ:eA (k++[.q W f j (λe=>V.getD e [])]) {b with a:=(b.newRow W p).a,s:=b.s++[⟨.slice (h ⟨b.a.heap.size,0,n⟩) 0 j,[b.a.heap.size]⟩]} (.q W f j (λe=>V.getD e [])) ⟨.slice (h ⟨b.a.heap.size,0,n⟩) 0 j,[b.a.heap.size]⟩:=by
  refine .inr ⟨b.a.heap.size,j,p,[],a,by rw[g3];exact lY b.a _,by rw[g3];exact y.len,bC _,by omega,y,λr=>?_⟩;cases m:b.D b.a.heap.size r with
  |none=>rfl
  |some T=>have:=i.block m;omega
 have z:bb k {b with a:=(b.newRow W p).a}/\cO k b k {b with a:=(b.newRow W p).a}:=
  i.cY (by simp[a6.newRow]) (λt d=>i7 b.a _ d) (λt d r=>rfl) (λt d r T m=>by have:=i.block m;omega) a a a
 obtain⟨R,Q⟩:=z.1.bY z.2 rfl i aJ (λt d=>by simp at d;subst d;exact⟨bC _,by simp[a6.newRow]⟩);refine⟨(),.value (.slice (h ⟨b.a.heap.size,0,n⟩) j j),{b with a:=(b.newRow W p).a,s:=b.s++[⟨.slice (h ⟨b.a.heap.size,0,n⟩) 0 j,[b.a.heap.size]⟩]},_,B,.inl rfl,?_,R,Q,by rw[K];exact .nil⟩;refine⟨.slice (h ⟨b.a.heap.size,0,n⟩) 0 j,⟨_,_,j,j,a,bC _,by simp,by omega,a,λ_=>⟨_,a,by simp⟩⟩,by simp,λY J N x s=>?_⟩;simp at s;obtain⟨_,_,rfl,_⟩:=s;exact⟨bC _,λ_=>⟨_,by show(b.s++[_])[c k]?=_;rw[<-i.len,AR],a⟩⟩
end
def vb(o i j:Nat)(f:Nat->m M):R->R×m Prop
 |.O b (.B g a e d)=>match ad b o with
  |true=>match ad a i with
   |true=>(.c (.B v i d (ii e f)),[g=j,e+d<=j])
   |false=>(.O b (.B g a e d),[])
  |false=>(.O b (.B g a e d),[])
 |k=>(k,[])
def o'(f e g:Nat)(a:Nat->m M):m R->m R×m Prop
 |[]=>([],[])
 |i::o=>match vb f e g a i with
  |(b,j)=>match o' f e g a o with
   |(d,k)=>(b::d,gQ j k)
def Cj(g f i:Nat)(a:Nat->m M):E1->E1×m Prop
 |.Q j=>match vb g f i a j with|(b,e)=>(.Q b,e)
 |.agg d=>match o' g f i a d with|(k,e)=>(.agg k,e)
def Ci(f e g:Nat)(a:Nat->m M):y->y×m Prop
 |.n j=>match Cj f e g a j with|(b,i)=>(.n b,i)
 |d=>(d,[])
def vc(e d f:Nat)(a:Nat->m M):bL->bL×m Prop
 |[]=>([],[])
 |(p,i)::o=>match Ci e d f a i with
  |(g,j)=>match vc e d f a o with
   |(b,k)=>((p,g)::b,gQ j k)
def iX(f j k:Nat)(b:Nat->m M):Nat->m aq->m aq×m Prop
 |_,[]=>([],[])
 |i,d::r=>match iX f j k b (i+1) r with
  |(a,g)=>match ad i f with
   |true=>(.N::a,g)
   |false=>match d with
    |.cells o e=>match o' f j k b e with|(p,q)=>(.cells o p::a,gQ q g)
    |d=>(d::a,g)
section
variable {b6:a6}{W f:Nat}
structure md(k:m aq)(b:a6)(d f j:Nat)(V:Nat->m M)(ar:m aq)(b6:a6):Prop where
 a7:∀aa x,cC k b aa x->cC ar b6 aa x
 e3:∀aa gn r A,cC k b aa (.O d (.B j gn r A))->gn=f->r+A<=j->Rd b6.D aa (.B v f A (ii r V))
def md.cP(g:md k b d f j V ar b6){aa}{x}(m:U (vb d f j V x).2)(i:cC k b aa x):cC ar b6 aa (vb d f j V x).1:=by
 unfold vb at m⊢;split
 .rename_i q C p r A;split
  .rename_i a;split
   .rename_i e;simp[a,e]at m;have a:=dp a;have e:=dp e;subst a;obtain⟨rfl,o⟩:C=j/\r+A<=j:=m;exact g.e3 aa _ _ _ i e o
   exact g.a7 aa _ i
  exact g.a7 aa _ i
 exact g.a7 aa _ i
def md.gq(i:md k b d f j V ar b6):∀{z:m X}{a:m R},U (o' d f j V a).2->bN k b z a->bN ar b6 z (o' d f j V a).1
 |[],[],_,_=>trivial
 |[],_::_,_,e=>e.elim
 |_::_,[],_,e=>e.elim
 |p::z,o::a,g,e=>by simp only[o']at g⊢;rw[U.Y]at g;exact⟨i.cP g.1 e.1,i.gq g.2 e.2⟩
def md.n(g:md k b d f j V ar b6){a}(e:U (Cj d f j V a).2)(i:eB k b aa a):eB ar b6 aa (Cj d f j V a).1:=by
 cases a with
 |Q q=>exact g.cP e i
 |agg o=>obtain⟨z,p,m⟩:=i;exact⟨z,p,g.gq e m⟩
def md.c'(m:md k b d f j V ar b6)(a:c b.s=c k)(i:fw k b ar b6){aa}{O}(g:U (Ci d f j V O).2)(e:bx k b aa O):bx ar b6 aa (Ci d f j V O).1:=by
 cases O with
 |n p=>exact m.n g e
 |S o=>exact e.mono i a
 |any=>trivial
def md.b'(q:md k b d f j V ar b6)(g:c b.s=c k)(p:fw k b ar b6):∀{I:bL}{o:Nat}{m:X},U (vc d f j V I).2->bx k b m (look I o)->bx ar b6 m (look (vc d f j V I).1 o)
 |[],_,_,_,_=>trivial
 |(r,s)::t,o,m,i,a=>by
  simp only[vc]at i⊢;rw[U.Y]at i;simp[look]at a⊢;cases e:ad r o with
  |true=>rw[e]at a;exact q.c' g p i.1 a
  |false=>rw[e]at a;exact q.b' g p i.2 a
theorem Cg:∀{k:m aq}{e u:Nat},(iX d f j V e k).1[u]?=match k[u]? with
  |none=>n
  |some a=>h (match ad (e+u) d with|true=>.N|false=>match a with|.cells i b=>.cells i (o' d f j V b).1|a=>a)
 |[],e,u=>by simp[iX]
 |a::g,e,0=>by simp[iX,kk,ml];grind
 |a::g,e,u+1=>by have o:=Cg (k:=g) (e:=e+1) (u:=u);have p:e+1+u=e+(u+1):=w;rw[p]at o;simp[iX,n8];grind
def Id:∀{k:m aq}{e u:Nat}{g:ak}{a:m R},U (iX d f j V e k).2->k[u]?=h (.cells g a)->e+u≠d->U (o' d f j V a).2
 |[],e,u,_,_,_,b,_=>by grind
 |p::o,e,0,g,a,i,b,q=>by simp at b;subst b;simp[iX]at i;grind[Nat.eq_of_beq_eq_true,U.Y]
 |p::o,e,u+1,g,a,i,b,q=>by simp at b;refine Id (k:=o) (e:=e+1) (u:=u) ?_ b w;simp[iX]at i;grind[U.Y]
theorem Ch:∀{k:m aq}{e:Nat},(iX d f j V e k).1.length=c k
 |[],_=>rfl
 |g::a,e=>by simp[iX];have b:=Ch (k:=a) (e:=e+1);grind
def bb.bM(r:bb k b)(aJ:k[d]?=h (.q W f j V))(aq:U (iX d f j V 0 k).2):
  ∃p:a6,p.a=b.a/\bb (iX d f j V 0 k).1 p/\cO k b (iX d f j V 0 k).1 p/\md k b d f j V (iX d f j V 0 k).1 p:=by
 have y:d<c k:=(cP.1 aJ).1;have af:b.s[d]?=h (b.s[d]'(by rw[r.len];exact y)):=bJ _;generalize b.s[d]'N=L at af;have a0:=r.box _ _ L aJ af;obtain⟨cl,av,aw,ay,az⟩:∃cl:Mem,(∀m e q,b.D m e=h q->cl m e=h q)/\(∀m,m∉L.aj->∀e,cl m e=b.D m e)/\(∀m e q,cl m e=h q->b.a.cell? ⟨m,e,n⟩=h q) /\
   (∀q o e I,cC k b q (.O d (.B j o e I))->o=f->e+I<=j->Rd cl q (.B v f I (ii e V))):=by
  rcases a0 with⟨rfl,rfl⟩|⟨m,al,z,a9,rfl,hw,aU,aX,aT,aL,a5⟩
  .refine⟨b.D,λ_ _ _ S=>S,λ_ _ _=>rfl,r.mem,λq o e I K s aF=>?_⟩;obtain⟨au,⟨aP,ak,Z,al,X,t,u,G,aH,aM⟩,_,aN⟩:=K;grind[Rd.dI]
  let cl:Mem:=λA e=>if A=m then z[e]? else b.D A e;have aO:∀A e q,b.D A e=h q->cl A e=h q:=λA e q X=>by grind
  refine⟨cl,aO,λA aS e=>N,λA e q X=>?_,λq o e I K s aF=>?_⟩
  .by_cases s:A=m
   .subst s;simp[cl,dw]at X;simp[aI,hw];grind
   simp[cl,s,dn]at X;exact r.mem A e q X
  subst s;obtain⟨au,⟨aP,ak,Z,a4,X,t,u,G,aH,aM⟩,_,aN⟩:=K;obtain⟨cw,E,aG⟩:=(aN _ _ _ _ aJ).2 rfl;rw[af]at E;cases E;rw[aH]at aG;cases aG;rw[X];have ag:∀i,i<I->∀F Q,(ii e V i)[F]?=h Q->∃aC,z[(e+i)*o+F]?=h aC/\Rd b.D aC Q:=λi g F Q x=>by rw[y5]at x;exact aL.rd (e+i) w F Q x
  refine .B m (e*o) (λi F=>(z[(e+i)*o+F]?).getD J) t w D (λi g=>by rw[y5];exact aL.bF _ w) (λa7=>N) (λi g F Q x=>N) (λi g F Q x=>?_);obtain⟨aC,aD,aE⟩:=ag i g F Q x;rw[aD];exact aE.mono aO
 obtain⟨M,aB⟩:=r.b5 (cl:=cl) (bi:=b.a) (ed:=.N) (cw:=⟨L.v,[]⟩) aJ af B (bC _) (λ_ _ _=>rfl) (λm _ T e=>aw m T e) av ay D rfl rfl rfl B;let p:a6:=⟨b.s.set d ⟨L.v,[]⟩,cl,b.a,b.own⟩
 have ag:∀i O,k[i]?=h O->i≠d->(iX d f j V 0 k).1[i]?=h (match O with|.cells W aa=>.cells W (o' d f j V aa).1|m=>m):=λi O g aY=>by grind[Cg,Nat.eq_of_beq_eq_true]
 have aK:(iX d f j V 0 k).1[d]?=h .N:=by
  rw[Cg,aJ];have:ad (0+d) d=l:=by rw[cZ];exact sM d
  grind
 have r9:cO (k.set d .N) p (iX d f j V 0 k).1 p:=by
  refine⟨bC _,λ_ _ _=>rfl,λ_ _ _ S=>S,λ_ _ _ _=>rfl,λcw E m T=>.inr ⟨cw,E,T⟩,λi O cw g E=>?_,a,a,a,a⟩;by_cases s:i=d
  .subst s;rw[ix y]at g;cases g;exact⟨.N,cw,aK,E,a⟩
  rw[kJ (λS=>s S.symm)]at g;refine⟨_,cw,ag i O g s,E,?_⟩;cases O<;>first|exact fQ.refl _ _|rfl
 have ae:=aB.trans r9;have ab:md k b d f j V (iX d f j V 0 k).1 p:=⟨λq aP K=>K.mono ae.ext r.len,λq o e I K s aF=>az q o e I K s aF⟩
 refine⟨p,a,⟨M.mem,by rw[Ch,<-r.len];grind,λi O cw g E=>?_,M.a4,M.lt,M.own⟩,ae,ab⟩;by_cases s:i=d
 .subst s;rw[aK]at g;cases g;trivial
 have R:i<c k:=by grind[Ch]
 have ah:=bJ R;have a2:b.s[i]?=h cw:=N;have a3:=r.box i _ cw ah a2;have Y:=M.box i _ cw (by rw[kJ (λS=>s S.symm)];exact ah) E;have C:=ag i _ ah s;rw[g]at C;have C:=sF C;generalize aR:k[i]=ai at *;cases ai with
 |cells eR aa=>
  subst C;obtain⟨m,z,t,u,G,aM⟩:=a3;obtain⟨A,aZ,H,aQ,_,a1⟩:=Y;rw[t]at H;cases H;exact⟨m,z,t,u,ab.gq (Id aq ah w) G,a1⟩
 |x=>subst C;exact Y
 |K=>subst C;exact Y
 |N=>subst C;trivial
 |loop a' a_ K=>
  subst C;obtain⟨ar,tmps,fn,an,t,u,G,aM,ao⟩:=Y;exact⟨ar,tmps,fn,an,t,u,G,λa8=>(aM a8).mono r9.ext M.len,ao⟩
 |bn=>subst C;exact Y
 |q=>subst C;exact Y
end
section
variable {q:af P}{dE:bL}
def g.bM(d){W f j}{a:Nat->m M}{Z cT}(s:db d k=h (.q W f j a))(B:vc d f j a I=(dE,Z))(y:iX d f j a 0 k=(ar,cT))(C:U Z)(D:U cT)(u:g q F be (.code t::av) .normal dE ar):g q F be (.code t::av) .normal I k:=by refine g.aP (λE A p e=>?_) u;obtain⟨w,r,b,i,x⟩:=e.bM (er s) N;rw[y]at b i x;refine⟨w,r,⟨p.size,p.defers.imp λ_ z=>z.mono i.ext,λo=>?_⟩,b,i⟩;have:=x.b' e.len i.ext (I:=I) (o:=o) N (p.aL o);grind
end
def bb.e4{aU}{f}{bP}{ag}(i:bb (aU++[.K (cu W f bP j ag)]) b)(t:eo f j V ag)(I:kt (c aU) aU=l):
  ∃g:a6,bb aU g/\e9 b g/\Rd g.D (c6 bP j) (.B v f j V)/\∀{e:m aq} {k:a6},dh e k (aU++[.K (cu W f bP j ag)]) b->e.length<=c aU->dh e k aU g:=by
 have aJ:(aU++[aq.K (cu W f bP j ag)])[c aU]?=h (.K (cu W f bP j ag)):=D
 obtain⟨L,cl,A,z,w,x,T,Q⟩:=cu.fJ aJ V (λu o=>⟨t.ez u o,λS O E U r N=>by
  obtain⟨X,Y,R⟩:=t.bU u o O E r
  grind⟩) b i
 obtain⟨y,p⟩:=i.b5 (cl:=cl) (bi:=b.a) (ed:=.N) (cw:=⟨L.v,[]⟩) aJ A rfl (bC _) (λ_ _ _=>rfl) (λq _ d s=>w q d s) z x D rfl rfl rfl B;have C:(aU++[aq.K (cu W f bP j ag)]).set (c aU) .N=aU++[.N]:=D;rw[C]at y p;refine⟨_,y.drop (bq:=[.N]) I,⟨a,z,λq d s=>w q (d L (b' A)) s,x,λq d=>?_⟩,Q,λ{e k} K J=>(K.trans (p.too0 i)).drop (bq:=[.N]) J⟩;rcases d with d|⟨cw,F,d⟩
 .exact .inl d
 have M:=gN F;grind
def bl.e4{P:aD}{b:Type}{C:af P}{D}{args}{k}{aU:b->m aq}{W f}{j:b->Nat}{d:b->fv}{o:b->m X}{V:b->Nat->m M}(E:bl C D args k (λa=>cN (c6 (d a) (j a))) (λa=>aU a++[.K (cu W f (d a) (j a) (o a))]))(K:∀a,eo f (j a) (V a) (o a))(N:∀a,kt (c (aU a)) (aU a)=l)(J:∀a,c k<=c (aU a)):bl C D args k (λa=>ay (.B v f (j a) (V a))) aU:=by refine⟨E.1,λQ z y w I s u=>E.2 Q z y w I s λa t F R x e i B=>?_⟩;obtain⟨A,p,g,q,r⟩:=i.e4 (K a) (N a);have O:F=c6 (d a) (j a):=Rd.bd e;exact .aP g (u a t F A (x.mono g.mem) (by rw[O];exact q) p (r B (J a)))
section
variable {q:af P}
def iQ.cG{y}{bh}{res}{bq:ι->m aq}(p:iQ q y bh k res λa=>aU a++bq a)(f:∀a,c (aU a)=c k)(I:∀a (j:Nat)(w:aq),(aU a)[j]?=h w->Ay (c (aU a)) k j w):iQ q y bh k res aU:=by
 intro K z j D e g;obtain⟨fn,tmps,B,x,r,s,E⟩:=p K z j D e g;refine⟨fn,tmps,B,x,r,s,λA C o t=>E A C o λa i b u=>?_⟩;have J:e9 i (i.cut (c (aU a))):=⟨rfl,λ_ _ _ p=>p,λ_ _ _=>rfl,b.mem,λx d=>d.imp id λ⟨L,F,d⟩=>⟨L,gN F,d⟩⟩
 exact .aP J (t a _ (e.gV (f a).symm (I a) b) (u.drop (Nat.le_of_eq (f a).symm)))
end
section
variable {q:af P}
def g.e5(o d){ah}{gR}(f:look I o=aH d 0)(a:db d k=h (.cells W ah))(e:h' ah=h gR)(b:g q F be (.al all bq::av) .normal ((o,ay (.R gR))::I) (de.cp d .N k)):g q F be (.al all bq::av) .normal I k:=by grind[mT,g.g',bY.freeze]
def iO.cons{a}{o}{b}(j:look I o=b)(f:iO I a):iO I ((o,b)::a):=by
 intro i k m g d;simp only[look];cases e:ad o g with
 |false=>exact f _ _ _ _ d
 |true=>
  exact um
end
section
variable {q:af P}
def S0{i:aG}{f}{x}{bq}{T}(F:i.kind≠.early)(w:aR[e]?=h r)(K:aP r (yielded aR x.tmps)=l)(p:bb k b)(U:∀d,bb k d->(ab x.eval r).run P d.a=.ok (.enter T z.toArray) d.a/\dv d ((ab x.eval r).events P d.a #[]))(aM:bl q T cS dj res aU)(au:b5 k b z (gr aX cS))(al:ho (c aX) cS=l)(A:dy aX k=h dj)(J:ew dj=l)(Y:∀g,ew (aU g)=l)(u:fi aX=l)(s:∀g,c aX<=c (aU g))(D:∀g y aE,bx (de aX (aU g) k) aE y (fk (aX++gZ (c k) (c (aU g)-c aX)) (res g))->bb (de aX (aU g) k) aE->dh k b (de aX (aU g) k) aE->cj q br (G (i.U (x.put r.dst y) (.inRegion aR bq::f)) ah) aE):
  cj q br (G (i.U x (.inRegion aR (e::bq)::f)) ah) b:=by obtain⟨_,ay⟩:=aM;refine .next a λd an=>?_;have C:=q.bJ an;have j:=p.rely C;obtain⟨m,Q⟩:=we (kS:=d.s) A j.len;obtain⟨H,o⟩:=j.sub A Q J u;have aq:b5 k d z (gr aX cS):=au.mono C.aT.ext p.len;have X:b5 dj {d with s:=m,own:=oG d m} z cS:=(aq.sub (b:=d) A Q al).mono (k:=dj) (b:={d with s:=m}) (ar:=dj) (aE:={d with s:=m,own:=oG d m}) ⟨λ_ _ _ D=>D,λaB V L aJ E=>⟨V,L,aJ,E,.refl _ _⟩⟩ H.len;refine⟨_,d,_,tP w K F (U d j).1,⟨⟨k,k,j,j,.refl _ _⟩,dv.seen (U d j).2⟩,.aP o (ay _ z X H br _ λg ao y av I W N ag=>?_)⟩;refine uV (ah:=ah) (t:=i.U x (.inRegion aR (e::bq)::f)) N I λaw S=>?_;have M:=N.rely S;have R:=ag.trans S.aT;obtain⟨O,ae,Z,ak,aa,af,ai,az⟩:=frame j A Q u (Y g) M R (s g) (W.mono S.aT.ext N.len);refine .aP (e9.cT j M R ae af ai az) ?_;have B:=qs (i:=i) (x:=x) (f:=f) aR e bq y;rw[w]at B;simp[n5]at B;rw[B];exact D g y O Z ak (C.aT.trans aa)
def ef.cell(aZ:bZ P ac){d o C}{W}{aa}{e}(r:db d k=h (.K (ef C W aa)))(f:bX ac o=h e)(O:dT aa=l)(u:ht e [.c (.val aa)]=h (.Q (.c (.val aa)))){b}(bQ:bb k b):
  (loadVar o ⟨C,0,n⟩).run P b.a=.ok aa b.a/\dv b ((loadVar o ⟨C,0,n⟩).events P b.a #[]):=by
 have aJ:=er r;have A:d<c b.s:=h7;have p:=bJ A;generalize b.s[d]=L at p;obtain⟨y,⟨E,q,Q⟩,I,J,R⟩:=bQ.box d _ L aJ p;have t:=I C _ q;have M:=(J C).2 N
 have F:bN k b [aa] [.c (.val aa)]:=⟨Rd.val O,B⟩;obtain⟨w,D,x⟩:=tL (b:=b) (k:=k) (P:=P) (aZ o e f) (i:=C) (off:=0) (z:=[aa]) (ah:=[.c (.val aa)]) (ap:=.Q (.c (.val aa))) (λs S g=>by
  simp[aI,t]
  grind) F u
 have K:w=aa:=Rd.bd x;subst K;refine⟨D,λm a=>?_⟩;obtain⟨s,g,rfl⟩:=pc (aZ o e f) (j:=1) (λs g=>⟨w,by simp[aI,t];grind⟩) (by have:=se u;grind) m a;exact qp (b' p) M
def aY.eE(aZ:bZ P ac){o C}(d){E}{e}(K:oQ all I r=l)(s:r.op=.load o E)(N:bF I E=ay (.val (.pointer (h ⟨C,0,n⟩))))(p:db d k=h (.K (ef C W aa)))(m:bX ac o=h e)(z:dT aa=l)(M:ht e [.c (.val aa)]=h (.Q (.c (.val aa)))):
  aY q F all r I k (ay (.val aa)) k:=by
 intro U A w j Q S B O T u i t g;refine ry i t (j5 K _ _ _ w) λy x=>?_;have b:=j.rely x;have f:=eH w E;rw[N]at f;have f:=Rd.bd (b8 f);obtain⟨D,J⟩:=ef.cell aZ p m z M b;have R:ab A.eval r=(do pure (.value (<-loadVar o ⟨C,0,n⟩))):=by simp[ab,s,f,Instr.loadAt,Instr.sureAddr]
 refine⟨.value aa,y,aa,by simp_all,.inl a,⟨⟨k,k,b,b,.refl _ _⟩,?_⟩,g aa y (Rd.val z) b x.aT⟩;simp_all
def NZ(o)(a)(b):Builtin.ssaWrapNilChk_ #[o] o #[.pointer (h a),strVal "",strVal b]=pure (.pointer (h a)):=rfl
def nX(P:aD)(f:m aq)(b:ak)(e:X)(name:String)(g:a0)(i:X):Prop:=∀a,bb f a->∀d,(Go.method (d+1) b e name).run P a.a=.ok (g,i) a.a/\dv a ((Go.method (d+1) b e name).events P a.a #[])
def nX.ptr{f}{name}{j}{e}{A}{q}(m:P.info? f=h e)(i:e.methods.find? (·.name==name)=h A)(o:A.path=#[])(p:A.func=h (j,l))(r:P.underlying f=h (.pointer q)):nX P k f aa name j aa:=by
 intro t s u;have g:∀d,(typeInfo f).run P d=.ok e d:=λd=>by simp[typeInfo,m]
 have b:∀d,(underlying f).run P d=.ok (.pointer q) d:=λd=>by simp[underlying,r]
 unfold Go.method;constructor
 .simp only[cL,g,i,o,p,c',follow,d_,receiverAt,b];rfl
 have:∀a,((do pure (j,<-receiverAt f (.val aa) l (if A.path.isEmpty then h ((name.splitOn ".").getLastD name)else n))):Sem (a0×X)).events P t.a a=a:=λa=>by simp[receiverAt,b,Place.get]
 simp[aC,cL,g,i,o,p,c',aF,follow,d_,Sem.events_pure,receiverAt,b,events_typeInfo,events_underlying,Place.get];exact .nil
def nX.deref(aZ:bZ P ac){C}{f}{name}{u}{e}{A}{w:cr}(q:P.info? f=h e)(j:e.methods.find? (·.name==name)=h A)(s:A.path=#[])(t:A.func=h (u,v))(D:P.underlying f=h (.pointer o))(r:db d k=h (.K (ef C W aa)))(y:bX ac o=h w)(E:dT aa=l)(B:ht w [.c (.val aa)]=h (.Q (.c (.val aa)))):nX P k f (.pointer (h ⟨C,0,n⟩)) name u aa:=by
 intro J p F;have g:∀b,(typeInfo f).run P b=.ok e b:=λb=>by simp[typeInfo,q]
 have i:∀b,(underlying f).run P b=.ok (.pointer o) b:=λb=>by simp[underlying,D]
 obtain⟨x,z⟩:=ef.cell aZ r y E B p;have I:A.path.isEmpty=l:=N;unfold Go.method;constructor
 .simp only[cL,g,j,s,t,c',follow,d_,receiverAt,i,Place.get];simp[NZ,asAddr,x]
 intro m a;refine z m ?_;simp[aC,cL,g,j,s,t,c',aF,follow,d_,Sem.events_pure,receiverAt,i,events_typeInfo,events_underlying,Place.get]at a;simpa[NZ,asAddr,x]using a
def CU{a:ae->X}{E}{b}{name}(e:r.op=.call {callee:=.invoke E name,args:=b,argTypes:=dt}){i}{d}(k:a E=.iface i d):
  ab a r=callMethod (.iface i d) name (b.toList.map a).toArray:=by
 have f:#[a E]++b.map a=(.iface i d::b.toList.map a).toArray:=N;have g:(Value.iface i d::b.toList.map a).toArray.extract 1 (Value.iface i d::b.toList.map a).toArray.size=(b.toList.map a).toArray:=N;have j:ab a r=invoke (.fn (.method name) #[]) (#[a E]++b.map a):=by simp[ab,e];rfl
 rw[j,f];show callMethod (.iface i d) name ((Value.iface i d::b.toList.map a).toArray.extract 1 (Value.iface i d::b.toList.map a).toArray.size)=_;rw[g]
def g.dk{ao:ak}{name}{au}{aB x}(aC:bl q au cS dj res aU)(aX)(V:nX P k ao aB name au x)(aE:oQ all I r=l){E}{M:Array ae}(w:r.op=.call {callee:=.invoke E name,args:=M,argTypes:=dt})(aa:bF I E=ay (.cg ao (.val aB)))(Y:dT x=l)(aP:lc (ay (.val x)::M.toList.map (bF I))=gr aX cS)(L:ho (c aX) cS=l)(aG:dy aX k=h dj)(X:ew dj=l)(G:∀f,ew (aU f)=l)(W:fi aX=l)(aH:∀f,ax (c aX) (c (aU f))=l)(S:fp F r.dst=l)(aO:∀f,g q F be (.al all bq::av) .normal (gh r.dst (fk (aX++gZ (c k) (c (aU f)-c aX)) (res f)) I) (de aX (aU f) k)):g q F be (.al all (r::bq)::av) .normal I k:=by
 intro b C R j aK ab s aI idx t d T;cases idx with
 |nil=>exact d.elim
 |cons a0 idx=>
 have A:=eH R E;rw[aa]at A;have A:=b8 A;generalize aq:C.eval E=aY at A;cases A with
 |@cg _ aT _ O aN=>
  have Z:=Rd.bd O;subst Z;obtain⟨fn,an,aZ,aM⟩:=aC.1;have aw:fn.name≠ "runtime.NumGoroutine":=N;have ar:fn.body≠n:=N;obtain⟨af,al⟩:∃af,P.types.size+Made.depth=af+1:=⟨P.types.size+Made.depth-1,by exact cV⟩
  have az:∀p,(program:Sem aD).run P p=.ok P p:=λp=>by simp
  have aQ:∀p i,(program:Sem aD).events P p i=i:=λp i=>by simp
  have aL:b5 k b (x::M.toList.map C.eval) (gr aX cS):=by rw[<-aP];exact u7 (k:=k) (b:=b) ⟨Rd.val Y,m_ (eH R) M.toList⟩
  refine S0 (aX:=aX) t d.1 (j5 aE _ _ _ R) j (z:=x::M.toList.map C.eval) (λah aF=>?_) aC aL L aG X G W (λf=>fz (aH f)) λf aY ag m u o=>?_
  .obtain⟨ac,a⟩:=V ah aF af;constructor
   .rw[CU w aq];simp[callMethod,az,al,ac,callFunc,an,aw,ar]
   intro J e;refine a J ?_;rw[CU w aq]at e;simpa[callMethod,az,aQ,al,ac,callFunc,an,aw,ar]using e
  refine aO f ag _ ?_ u aK ab s aI idx t d.2 λH B ai D aR K Q y=>T H B ai D aR K Q (o.trans y);cases aJ:r.dst with
  |none=>exact R.mono o j.len
  |some aS=>exact(R.mono o j.len).put (lh S aS aJ) m
def a2.dP{E}(f:r.op=.nilCheck E){g}(i:η E=ay (.val (.pointer (h g)))):a2 P r η k (ay (.val (.pointer (h g)))) k:=by refine .aQ λm d j b=>?_;have a:=b E;rw[i]at a;have e:=Rd.bd (b8 a);exact⟨d E,by simp[ab,f,e],a,by simp[ab,f,e]⟩
def a2.fa(aZ:bZ P ac){E}(ae:r.op=.load o E){cap al f}{ag}{x:cr}{ap}(a:η E=ay (.val (.pointer (h ⟨i,off,n⟩))))(av:off=e*f+al)(z:k[d]?=h (.K (cu W f (.row i cap) j ag)))(T:eo f j V ag)(w:bX ac o=h x)(F:ht x ((gf al (V e)).map R.c)=h ap)(S:e<j):a2 P r η k (.n ap) k:=by
 refine .dr λb D bQ B=>?_;have M:=B E;rw[a]at M;have M:=Rd.bd (b8 M);have ah:d<c b.s:=h7;have y:=bJ ah;generalize b.s[d]=L at y;obtain⟨Z,Y,aa,Q,az⟩:=bQ.box d _ L z y;obtain⟨ar,aw,ao,au⟩:=cu.lookup Y;have H:i∈L.aj:=(Q i).2 N;have ai:=aa i _ ao;let C:Nat->X:=λg=>ag.getD (e*f+g) J;have aM:∀g q,(gf al (V e))[g]?=h q->ag[e*f+(al+g)]?=h (C (al+g))/\Rd b.D (C (al+g)) q:=by intro g q m;rw[rK,p6]at m;obtain⟨s,ak,an⟩:=T.bU e S (al+g) q m;grind
 have U:=Eg (k:=k) (b:=b) (C:=C) (bh:=gf al (V e)) (A:=al) (λg q m=>(aM g q m).2);have I:∀g s,((aA (c (gf al (V e)))).map λg=>C (al+g))[g]?=h s->b.a.cell? ⟨i,off+g,n⟩=h s:=by
  intro g s m;simp[nd]at m;by_cases K:g<c (gf al (V e))
  .simp[K]at m;subst m;have af:=(aM g _ (bJ K)).1;simp[aI,ai];grind
  grind
 obtain⟨s,O,G⟩:=tL (b:=b) (k:=k) (P:=P) (aZ o x w) (i:=i) (off:=off) (ap:=ap) I U F;have t:ab D r=(do pure (.value (<-loadVar o ⟨i,off,n⟩))):=by simp[ab,ae,M,Instr.loadAt,Instr.sureAddr]
 refine⟨s,by rw[t];simp[O],G,λu p=>?_⟩;rw[t]at p;have aq:u∈(loadVar o ⟨i,off,n⟩).events P b.a #[]:=by simpa[O]using p
 obtain⟨g,m,rfl⟩:=pc (aZ o x w) (j:=c (gf al (V e))) (λg m=>⟨_,I g (C (al+g)) N⟩) (by have:=se F;grind) u aq;exact qp (b' y) H
def a2.jS(aZ:bZ P ac){y s:ae}(C:r.op=.slice o y n (h s) n){e}(F:bX ac o=h e)(K:e.desc=.slice W)(M:bX ac W=h a5){cap}{kd}{A}(R:η y=ay (.val (.slice (h ⟨i,0,n⟩) j cap)))(N:η s=ay (.int kd A))(B:j<=cap)(O:0<=A)(w:A<=j):a2 P r η k (ay (.val (.slice (h ⟨i,0,n⟩) A.toNat cap))) k:=by
 refine .aQ λb t E d=>?_;have g:=d y;rw[R]at g;have g:=Rd.bd (b8 g);have m:kL η n=h n:=rfl;have D:kL η (h s)=h (h A):=by simp[kL,N]
 have q:U (jq j n (h A)):=⟨O,w⟩;obtain⟨x,Q,S⟩:=wb (P:=P) (ku:=l) B (km d m) (km d D) q b.a;have u:=(aZ o e F).run_underlying (p:=b.a);rw[K]at u;have z:(aT l j cap n (h (t s)) n).run P b.a=.ok (0,A.toNat,cap) b.a:=x;have J:=vj (P:=P) (ku:=l) B (km d m) (km d D) q b.a;have I:∀f,(aT l j cap n (h (t s)) n).events P b.a f=f:=J;refine⟨_,?_,Rd.val a,?_⟩
 .simp[ab,C,g,Instr.sliceAt,u,Instr.slice,z,(aZ W a5 M).bb,g6]
 simp[ab,C,g,Instr.sliceAt,u,Instr.slice,z,I]
def Mf{b}:∀{z:m X}{d:m M},c z=c d->∀f:Nat->X,(∀a,a<c z->z[a]?=h (f a))->(∀a(e:M),d[a]?=h e->Rd b.D (f a) e)->bN k b z (d.map R.c)
 |[],[],_,_,_,_=>trivial
 |[],_::_,g,_,_,_=>by grind
 |_::_,[],g,_,_,_=>by grind
 |q::z,e::d,g,f,j,i=>⟨by have:=j 0 D;cases this;exact i 0 e rfl,Mf N (λa=>f (a+1)) (λa o=>by grind) λa p o=>i (a+1) p N⟩
def a2.f_(aZ:bZ P ac){E}{m:ak}(t:r.op=.typeAssert E m o v){e}(g:bX ac o=h e)(u:vD e.desc=v){ah}(I:η E=ay (.cE o ah)):a2 P r η k (.n (.agg (ah.map R.c))) k:=by
 refine .aQ λd q D j=>?_;have b:=j E;rw[I]at b;replace b:=b8 b;generalize s:q E=K at b;have x:=(aZ o e g).run_underlying (p:=d.a);have M:∀w,e.desc≠.interface w:=by intro w A;rw[A]at u;cases u
 cases b with
 |@cE J z ah i B F C=>
  have f:(Instr.typeAssert (.iface o (.agg z.toArray)) m o v).run P d.a=.ok (.agg z.toArray) d.a/\(Instr.typeAssert (.iface o (.agg z.toArray)) m o v).events P d.a #[]=#[]:=by
   constructor
   .unfold Instr.typeAssert;simp only[cL,x,c'];cases y:e.desc<;>first|simp|simp
   unfold Instr.typeAssert;simp only[x,aC,aF,events_underlying];cases y:e.desc<;>first|simp|simp
  exact⟨.agg z.toArray,by simp[ab,t,s,cL,f.1,c',d_],⟨z,a,Mf i B F C⟩,by simp[ab,t,s,aC,f.1,f.2,aF,Sem.events_pure]⟩
def g.hV(aZ:bZ P ac)(d){o C}{Q S:ae}{b}{e}(ao:r.op=.store o Q S)(u:bX ac o=h e)(Y:e.size=1)(ai:bF I Q=ay (.val (.pointer (h ⟨C,0,n⟩))))(ah:bF I S=ay (.val b))(U:b.cells=#[b])(aE:dT b=l)(m:db d k=h (.K (ef C W aa)))(ag:r.guard=n)(ak:fp F r.dst=l)(E:g q F be (.al all bq::av) .normal (gh r.dst .any I) (k.set d (.K (ef C W b)))):g q F be (.al all (r::bq)::av) .normal I k:=by
 refine g.cD (ι:=Unit) (λ_=>.any) (λ_=>k.set d (.K (ef C W b))) ag ak (λi al T bQ=>?_) λ_=>E;have w:=eH T Q;rw[ai]at w;have w:=Rd.bd (b8 w);have x:=eH T S;rw[ah]at x;have x:=Rd.bd (b8 x);have m:=er m;have Z:d<c i.s:=h7;have M:=bJ Z;generalize i.s[d]=L at M;obtain⟨an,⟨z,A,aq⟩,aw,G,af⟩:=bQ.box d _ L m M;have X:C∈L.aj:=(G C).2 N;have y:=aw C _ A;have R:∀O∈[b],O.oneCell'=l:=λO au=>by have:dT O=l:=N;exact this
 have H:=run_storeCells_at P C 0 W [b] 0 #[aa] i.a y D R;have aB:∀f,f≠C->(i.a.setRow C #[b]).heap[f]?=i.a.heap[f]?:=λf p=>setRow_other i.a C f _ p;have aM:=setRow_heap i.a C #[aa] #[b] W (0,0) y;obtain⟨K,t2⟩:=bQ.b8 (d:=d) (j':=ef C W b) (cw:=L) (bi:=i.a.setRow C #[b]) m M rfl D
  (λf p ar=>aB f N) (λf p=>.inl p)
  ⟨λf=>if f=C then h (.cells #[b] W (0,0))else n,⟨z,by simp,λf p=>by grind⟩,λf r p=>by grind,λf=>by grind⟩ a a a
 have s:ab al.eval r=(do storeVar o ⟨C,0,n⟩ b;pure .skip):=by simp[ab,ao,w,x,Instr.storeAt,Instr.sureAddr]
 have V:(storeCells ⟨C,0,n⟩ [b] 0).run P i.a=.ok () (i.a.setRow C #[b]):=H;refine⟨(),.skip,_,J,?_,.inr ⟨a,a⟩,B,K,t2,?_⟩
 .rw[s];simp[storeVar,(aZ o e u).bb,U,Y,V]
 intro t j;rw[s]at j;have az:t∈(storeCells ⟨C,0,n⟩ [b] 0).events P i.a #[]:=by simp[storeVar,aC,(aZ o e u).bb,Y,U,aF,events_sizeOf,d',hG,dn,cL,c',Sem.events_pure]at j;simpa[V]using j
 rcases np [b] 0 #[aa] i.a #[] y D R t az with aD|⟨aG,_,_,rfl⟩
 .grind
 exact oi (b' M) X (af C X _)
def g.jC(o d)(C A:Nat){R:Nat}(N:look I o=aH d 0)(j:db d k=h (.cells W [.c (.B l R 0 V)]))(B:∀f b,g q F be (.code t::av) .normal ((o,cN (.pointer (h ⟨f,0,n⟩)))::I) (k.set d (.K (ef f W (c6 (.nil b) 0)))++[.K (cu C A (.nil b) 0 [])])):g q F be (.code t::av) .normal I k:=by
 refine b1.e6 (ι:=Nat×Option Addr) (dE:=λp=>(o,cN (.pointer (h ⟨p.1,0,n⟩)))::I) (ar:=λp=>k.set d (.K (ef p.1 W (c6 (.nil p.2) 0)))++[aq.K (cu C A (.nil p.2) 0 [])]) (λr ai x bQ=>?_) λp=>B p.1 p.2;have j:=er j;have T:d<c r.s:=h7;have w:=bJ T;generalize r.s[d]=L at w;obtain⟨f,z,rfl,af,ab,aM⟩:=bQ.box d _ L j w
 match z,ab with
 |[Z],⟨O,_⟩=>
  obtain⟨b,u,ae,rfl,_,_,Y,_,_⟩:=(show Rd r.D Z (.B l R 0 V)from O).b0;have Q:u=0:=Y a;subst Q;obtain⟨M,E⟩:=bQ.b5 (cl:=r.D) (bi:=r.a) (ed:=.K (ef f W (c6 (.nil b) 0))) (cw:=⟨.pointer (h ⟨f,0,n⟩),[f]⟩) j w rfl (bC _) (λ_ _ _=>rfl) (λ_ _ _ _=>rfl) (λ_ _ _ S=>S) bQ.mem (λm e=>⟨.inl e,bQ.lt _ (b' w) m e⟩) rfl rfl rfl
   ⟨λm=>if m=f then h (.cells #[.slice b 0 0] W (0,0))else n,⟨rfl,by simp[c6],λm e=>by grind⟩,λm X e=>by grind,λm=>by by_cases y:m=f<;>simp[y],λm e X=>by grind⟩
  obtain⟨H,G⟩:=M.bY (bU:=.K (cu C A (.nil b) 0 [])) (L:=⟨.nilFunc,[]⟩) (.refl _ _) rfl M ⟨λ_=>n,⟨rfl,by simp,by simp,rfl,rfl⟩,by simp,by simp,by simp⟩ D;have s:=E.trans G;refine⟨(f,b),{r with s:=r.s.set d ⟨.pointer (h ⟨f,0,n⟩),[f]⟩++[⟨.nilFunc,[]⟩]},rfl,⟨x.size,x.defers.imp λ_ i=>i.mono s.ext,λK=>?_⟩,H,s⟩;simp only[look];cases e:ad o K with
  |false=>exact(x.aL K).mono s.ext bQ.len
  |true=>
   have y:=dp e;subst y;have i:=x.aL o;rw[N]at i;obtain⟨_,ah,ag,J,aa,U⟩:=(i:cC k r _ (.ptr d 0));rw[w]at J;cases J;cases aa;rw[U];exact Rd.val a
theorem aY.eo{ι:Type}{E}{ar}(p:r.guard=n)(t:ei P F r I k (λ_:ι=>E) λ_=>ar):aY q F all r I k E ar:=λw m s f o i b j u a e g d=>dX.eo p t w m s f o i b j u a e g λ_=>d
section
variable {E:Nat->y}{b6:Bool->Bool->m aq}{f1 f2:Nat}
abbrev ns(d:Bool->Bool->m aq)(a b:Nat):(Nat->Bool)->m aq:=λy=>d (y a) (y b)
def cg.fO(c8:ad f1 e=v)(dG:ad f2 e=v)(g:∀a b,aY q F all r (ek all I E e) (b6 a b) (E e) (b6 a b)):cg q F all I E (ns b6 f1 f2) e r:=by intro y _ _;have d:dV e y f1=y f1:=Fh;have f:dV e y f2=y f2:=Fg;grind
def cg.de(aZ:bZ P ac)(lV:a_ q CT)(s:∀x i,iJ ac CT [] all (ek all I E e) (b6 x i) r=h (E e,n,cq):=by intro x i;cases x<;>cases i<;>rfl)(c8:ad f1 e=v:=by rfl)(dG:ad f2 e=v:=by rfl)(cy:U cq:=by simp only[U,a9];omega):cg q F all I E (ns b6 f1 f2) e r:=.fO c8 dG λx i=>aY.eval aZ lV (s x i) cy
def cg.bo(aZ:bZ P ac:=by exact bc)(lV:a_ q CT:=by first|assumption|exact a_.nil)(s:∀x i,iJ ac CT [] all (ek all I E e) (b6 x i) r=h (E e,n,[]):=by intro x i;cases x<;>cases i<;>rfl)(c8:ad f1 e=v:=by rfl)(dG:ad f2 e=v:=by rfl):cg q F all I E (ns b6 f1 f2) e r:=.de (cq:=[]) aZ lV s c8 dG B
def cg.g_(c8:ad f1 e=v)(dG:ad f2 e=v)(g:hy all f1 e=l)(f:hy all f2 e=l)(i:aY q F all r (ek all I E e) (b6 v v) (E e) (b6 v v)):cg q F all I E (ns b6 f1 f2) e r:=by intro y _ d;have a:dV e y f1=y f1:=Fh;have b:dV e y f2=y f2:=Fg;grind
def cg.fe(dG:ad f2 f1=v)(d:hy all f2 f1=l)(f:aY q F all r (ek all I E f1) (b6 v v) (E f1) (b6 l v)):cg q F all I E (ns b6 f1 f2) f1 r:=by intro y _ e;have a:dV f1 y f1=l:=Aj;have b:dV f1 y f2=y f2:=Fg;grind
def cg.ff(c8:ad f1 f2=v)(e:hy all f2 f1=l)(f:aY q F all r (ek all I E f2) (b6 l v) (E f2) (b6 l l)):cg q F all I E (ns b6 f1 f2) f2 r:=by intro y aZ d;have a:dV f2 y f1=y f1:=Fh;have b:dV f2 y f2=l:=Aj;grind
end
end
inductive dJ where
 |nil
 |ax (d:dJ) (x i:Int) (ba:dJ)
def eC(j:ak):dJ->X->(Nat->Option Obj)->Prop
 |.nil,k,a=>k=.pointer n/\∀i,a i=n
 |.ax q m i r,k,a=>∃g p o e b,k=.pointer (h ⟨g,0,n⟩)/\(a7 .i64 m/\a7 .i64 i)/\eC j q p e/\eC j r o b/\a g=h (.cells #[.int .i64 m,.int .i64 i,p,o] j (0,0))/\e g=n/\b g=n /\
   (∀d f,e d=h f->b d=n/\a d=h f)/\(∀d f,b d=h f->a d=h f)/\∀d f,a d=h f->d=g∨e d=h f∨b d=h f
def eC.cell{o}(a:eC W o aa ld):dT aa=l:=by
 cases o with
 |nil=>rw[a.1];rfl
 |ax=>obtain⟨_,_,_,_,_,rfl,_⟩:=a;rfl
section
def bb.hI{ac:Nat->Prop}(o:bb k b)(C:aE.a=b.a)(M:aE.D=b.D)(F:aE.own=b.own)(S:c aE.s=c ar)(X:c k<=c ar)(z:∀a,a<c k->¬ac a->ar[a]?=k[a]?/\aE.s[a]?=b.s[a]?)(T:∀a d,(ac a∨c k<=a)->aE.s[a]?=h d->∀e∈d.aj,∃x L,ac x/\b.s[x]?=h L/\e∈L.aj)(J:∀a g L d,(ac a∨c k<=a)->(ac g∨c k<=g)->aE.s[a]?=h L->aE.s[g]?=h d->∀e∈L.aj,e∈d.aj->a=g)(box:∀a r L,ac a->k[a]?=h r->b.s[a]?=h L->∃s d,ar[a]?=h s/\aE.s[a]?=h d/\fQ r L s d)(ok:fw k b ar aE->∀a r L,(ac a∨c k<=a)->ar[a]?=h r->aE.s[a]?=h L->eA ar aE r L):bb ar aE/\cO k b ar aE:=by
 have K:=o.len;have Q:∀(a:Nat) r (L:Loc),k[a]?=h r->b.s[a]?=h L->∃s d,ar[a]?=h s/\aE.s[a]?=h d/\fQ r L s d:=λa r L aJ i=>by
  by_cases y:ac a
  .grind
  obtain⟨j,p⟩:=z a (cP.1 aJ).1 y;exact⟨r,L,j.trans aJ,p.trans i,.refl _ _⟩
 have D:fw k b ar aE:=⟨λe N R y=>M▸y,Q⟩
 have u:∀(a:Nat) (d:Loc),aE.s[a]?=h d->(ac a∨c k<=a)∨(a<c k/\¬ac a/\b.s[a]?=h d):=λa d y=>by grind
 have I:∀(a:Nat) (d:Loc),aE.s[a]?=h d->∀e∈d.aj,∃(x:Nat) (L:Loc),b.s[x]?=h L/\e∈L.aj:=λa d y e f=>by grind
 have Y:∀(a g:Nat) (L d:Loc),(ac a∨c k<=a)->¬ac g->aE.s[a]?=h L->b.s[g]?=h d->∀e∈L.aj,e∈d.aj->False:=λa g L d j p i m e f w=>by obtain⟨x,A,B,q,O⟩:=T a L j i e f;exact p (o.a4 x g A d q m e O w▸B)
 refine⟨⟨λe N R y=>?_,S,λa r L aJ i=>?_,λa g L d i m e f w=>?_,λL i e f=>?_,λe f=>?_⟩,⟨?_,?_,D.mem,?_,λd m e f=>?_,Q,?_,?_,?_,F⟩⟩
 .rw[M]at y;rw[C];exact o.mem e N R y
 .rcases u a L i with j|⟨j,p,W⟩
  .grind
  rw[(z a j p).1]at aJ;exact(o.box a r L aJ W).cc D K λe _=>⟨by rw[C],λN=>by rw[M]⟩
 .rcases u a L i with j|⟨_,j,p⟩<;>rcases u g d m with V|⟨_,V,U⟩
  .grind
  .grind
  .grind
  exact o.a4 a g L d p U e f w
 .obtain⟨a,t,rfl⟩:=hd i;obtain⟨x,A,B,q⟩:=I a _ (bJ t) e f;rw[C];exact o.lt A (b' B) e q
 .rw[F]at f;refine⟨C▸(o.own e f).1,λL i E=>?_⟩;obtain⟨a,t,rfl⟩:=hd i;obtain⟨x,A,B,q⟩:=I a _ (bJ t) e E;exact(o.own e f).2 A (b' B) q
 .grind
 .grind
 .grind
 .obtain⟨a,t,rfl⟩:=hd m;obtain⟨x,A,B,q⟩:=I a _ (bJ t) e f;grind
 all_goals rw[C]
def bb.jZ(s:bb k b){A g}{L e}{bD}{p}(aJ:k[d]?=h A)(ae:b.s[d]?=h L)(aa:fQ A L g e)(Y:c p=bD.length)(sub:∀w∈e::p,∀x∈w.aj,x∈L.aj)(U:(e::p).Pairwise λw F=>∀x∈w.aj,x∉F.aj)(ok:∀m:a6,m.a=b.a->m.D=b.D->m.s=b.s.set d e++p->eA (k.set d g++bD) m g e/\∀(E:Nat) u B,bD[E]?=h u->p[E]?=h B->eA (k.set d g++bD) m u B):
  bb (k.set d g++bD) {b with s:=b.s.set d e++p}/\cO k b (k.set d g++bD) {b with s:=b.s.set d e++p}:=by
 have T:=s.len;have X:d<c k:=(cP.1 aJ).1;have Z:=iy.1 U;have q:∀f o,(f=d∨c k<=f)->(b.s.set d e++p)[f]?=h o->(f=d/\o=e)∨(c k<=f/\p[f-c k]?=h o):=λf o i j=>by grind
 refine bb.hI (ac:=λf=>f=d) s a a a N D (λf i C=>N) (λf o i j W S=>N) (λf z o V i t j r W S ab=>?_) (λf u o i y j=>?_) (λQ f u o i y j=>?_)
 .rcases q f o i j with⟨c8,rfl⟩|⟨c8,dG⟩<;>rcases q z V t r with⟨R,rfl⟩|⟨R,O⟩
  .omega
  .grind
  .grind
  obtain⟨I,J⟩:=cP.1 dG;obtain⟨K,M⟩:=cP.1 O;exact FI
 .grind
 grind
def iE:dJ->Nat->R
 |.nil,_=>.c .bp
 |.ax ..,a=>.aY a
def hz(a:ak):dJ->m aq
 |.nil=>[]
 |.ax e b d f=>[.K (eC a (.ax e b d f))]
def mu(a:m Nat):dJ->X->(Nat->Option Obj)->m Loc
 |.nil,_,_=>[]
 |.ax ..,d,b=>[⟨d,a.filter λe=>(b e).isSome⟩]
def js:dJ->Nat->m aq->m aq
 |.nil,_,a=>a
 |.ax ..,b,a=>a.set b .N
def bb.gw(bQ:bb k b){lt cA}{q r:Int}(aJ:k[d]?=h (.K (eC W (.ax lt q r cA)))):
  ∃f,f.a=b.a/\(∃j L,b.s[d]?=h L/\L.v=.pointer (h ⟨j,0,n⟩)/\f.s[d]?=h ⟨L.v,[j]⟩)/\bb (k.set d (.cells W [.c (.int .i64 q),.c (.int .i64 r),iE lt (c k),iE cA (c k+c (hz W lt))])++(hz W lt++hz W cA)) f /\
   cO k b (k.set d (.cells W [.c (.int .i64 q),.c (.int .i64 r),iE lt (c k),iE cA (c k+c (hz W lt))])++(hz W lt++hz W cA)) f:=by
 have ar:d<c k:=(cP.1 aJ).1;have Y:d<c b.s:=h7;have F:=bJ Y;generalize b.s[d]=L at F;obtain⟨J,⟨j,E,D,i,z,A,⟨Z,y⟩,t,u,ak,af,aM,V,ag,ah⟩,aa,K,ae⟩:=bQ.box d _ L aJ F;have aq:=bQ.len;have R:j∈L.aj:=(K j).2 N;refine⟨{b with s:=b.s.set d ⟨.pointer (h ⟨j,0,n⟩),[j]⟩++(mu L.aj lt E i++mu L.aj cA D z)},rfl,⟨j,L,F,A,N⟩,bQ.jZ aJ F (show _=_ from A.symm) ?_ ?_ ?_ λf X e o=>?_⟩
 .cases lt<;>cases cA<;>rfl
 .intro bB e g C;rcases eT.1 e with rfl|e
  .grind
  rcases e2.1 e with e|e
  .cases lt with
   |nil=>cases e
   |ax=>rw[mu,fU]at e;grind
  cases cA with
  |nil=>cases e
  |ax=>rw[mu,fU]at e;grind
 .refine iy.2 ⟨λbB e g C au=>?_,?_⟩
  .rw[fU]at C;subst C;rcases e2.1 e with e|e
   .cases lt with
    |nil=>cases e
    |ax=>rw[mu,fU]at e;grind
   cases cA with
   |nil=>cases e
   |ax=>rw[mu,fU]at e;grind
  cases lt<;>cases cA<;>simp[mu,n7,g3,sE,iy,List.Pairwise.nil,fU,forall_eq,rq,false_implies,implies_true,a9]
  exact Fk
 have H:∀g p,i g=h p->J g=h p:=λg p m=>(V g p m).2;have ab:eA (k.set d (.cells W [.c (.int .i64 q),.c (.int .i64 r),iE lt (c k),iE cA (c k+c (hz W lt))])++(hz W lt++hz W cA)) f (.K (eC W lt)) ⟨E,L.aj.filter λg=>(i g).isSome⟩:=
  ⟨i,t,λg p m=>by grind,λg=>⟨λm=>(hg.1 m).2,λm=>hg.2 ⟨(K g).2 Fk,m⟩⟩,λg C p=>by rw[e];grind⟩
 have ai:eA (k.set d (.cells W [.c (.int .i64 q),.c (.int .i64 r),iE lt (c k),iE cA (c k+c (hz W lt))])++(hz W lt++hz W cA)) f (.K (eC W cA)) ⟨D,L.aj.filter λg=>(z g).isSome⟩:=
  ⟨z,u,λg p m=>by grind,λg=>⟨λm=>(hg.1 m).2,λm=>hg.2 ⟨(K g).2 Fk,m⟩⟩,λg C p=>by rw[e];grind⟩
 have I:=t.cell;have x:=u.cell;have O:f.a.heap[j]?=h (.cells (List.toArray [.int .i64 q,.int .i64 r,E,D]) W (0,0)):=N;have Q:∀p,f.D j p=n:=λp=>by rw[e];grind
 have S:∀w,(b.s.set d ⟨.pointer (h ⟨j,0,n⟩),[j]⟩++(mu L.aj lt E i++mu L.aj cA D z))[c k+w]?=(mu L.aj lt E i++mu L.aj cA D z)[w]?:=λw=>by grind
 have s:∀w,(k.set d (.cells W [.c (.int .i64 q),.c (.int .i64 r),iE lt (c k),iE cA (c k+c (hz W lt))])++(hz W lt++hz W cA))[c k+w]?=(hz W lt++hz W cA)[w]?:=λw=>by grind
 refine⟨⟨j,_,a,O,⟨Rd.int Z,Rd.int y,?_,?_,B⟩,Q⟩,?_⟩
 .cases lt with
  |nil=>rw[t.1];exact Rd.bp
  |ax=>exact⟨λT aJ=>by have G:=(s 0).symm.trans aJ;cases G;rfl,_,by rw[o];exact S 0,rfl,I⟩
 .cases cA with
  |nil=>rw[u.1];exact Rd.bp
  |ax=>
   cases lt with
   |nil=>exact⟨λT aJ=>by rw[s]at aJ;cases aJ;rfl,_,by rw[o];exact S 0,rfl,x⟩
   |ax=>exact⟨λT aJ=>by rw[s]at aJ;cases aJ;rfl,_,by rw[o];exact S 1,rfl,x⟩
 intro ao al an U M;cases lt<;>cases cA<;>simp only[hz,mu,n7,g3,sE,List.getElem?_nil]at U M
 .cases U
 .grind
 .grind
 grind
def H0(s:bb k b){o}(j:cC k b aa (iE o e))(m:o≠.nil->k[e]?=h (.K (eC W o))):
  ∃g d,eC W o aa g/\(∀f i,g f=h i->b.a.heap[f]?=h i)/\(∀f,f∈d↔(g f).isSome=l)/\(∀f∈d,∀i,b.D f i=n)/\(match o with|.nil=>d=[]|.ax ..=>b.s[e]?=h ⟨aa,d⟩):=by
 cases o with
 |nil=>
  have j:Rd b.D aa .bp:=j;cases j;exact⟨λ_=>n,[],⟨a,λ_=>rfl⟩,by simp,by simp,by simp,a⟩
 |ax=>
  obtain⟨_,L,q,rfl,_⟩:=j;obtain⟨g,r,t,p,u⟩:=s.box e _ L (m nofun) q;exact⟨g,L.aj,r,t,p,u,q⟩
def rX:dJ->Nat->X->m Loc->m Loc
 |.nil,_,_,a=>a
 |.ax ..,b,d,a=>a.set b ⟨d,[]⟩
def bb.cU(s:bb k b){lt cA}{F i}(aJ:k[d]?=h (.cells W [.c (.int .i64 F),.c (.int .i64 i),iE lt e,iE cA u]))(I:lt≠.nil->k[e]?=h (.K (eC W lt)))(J:cA≠.nil->k[u]?=h (.K (eC W cA)))(G:lt≠.nil->cA≠.nil->e≠u):
  ∃q,q.a=b.a/\(∃L,b.s[d]?=h L/\∃U,q.s[d]?=h U/\U.v=L.v)/\bb (js cA u (js lt e (k.set d (.K (eC W (.ax lt F i cA)))))) q/\cO k b (js cA u (js lt e (k.set d (.K (eC W (.ax lt F i cA)))))) q:=by
 have aT:d<c k:=(cP.1 aJ).1;have aS:=s.len;have M:d<c b.s:=w;have ab:=bJ M;generalize b.s[d]=L at ab;obtain⟨p,z,rfl,aI,t,aK⟩:=s.box d _ L aJ ab
 match z,t with
 |[aC,aB,O,Q],⟨ae,af,aM,ay,_⟩=>
 obtain⟨r,B,ah,aD,aE,aF,X⟩:=H0 s aM I;obtain⟨T,C,d1,d2,d3,d4,eW⟩:=H0 s ay J;have ae:Rd b.D aC (.int .i64 F):=ae;have af:Rd b.D aB (.int .i64 i):=af;cases ae with|int al=>
 cases af with|int an=>
 have aQ:p∉B:=λm=>by
  cases lt with
  |nil=>grind
  |ax=>have:=s.a4 d e _ _ ab X p D m;grind
 have aR:p∉C:=λm=>by
  cases cA with
  |nil=>grind
  |ax=>have:=s.a4 d u _ _ ab eW p D m;grind
 have aO:∀g∈B,g∉C:=λg m az=>by
  cases lt with
  |nil=>grind
  |ax=>
   cases cA with
   |nil=>grind
   |ax=>exact G nofun nofun (s.a4 e u _ _ X eW g m az)
 have y:r p=n:=by cases m:r p with|none=>rfl|some A=>grind
 have aP:T p=n:=by cases m:T p with|none=>rfl|some A=>grind
 have av:∀g A,r g=h A->T g=n:=λg A m=>by
  cases t:T g with
  |none=>rfl
  |some K=>grind
 have ok:∀V q,q.a=b.a->q.D=b.D->eA V q (.K (eC W (.ax lt F i cA))) ⟨.pointer (h ⟨p,0,n⟩),p::(B++C)⟩:=λV q ak ai=>by
  refine⟨λg=>if g=p then h (.cells #[.int .i64 F,.int .i64 i,O,Q] W (0,0))else(r g).or (T g),⟨p,O,Q,r,T,a,⟨al,an⟩,ah,d1,bo a,y,aP,λg A m=>⟨av g A m,N⟩,λg A m=>?_,λg A m=>?_⟩,λg A m=>?_,λg=>?_,λg E A=>?_⟩
  .have:g≠p:=N;dsimp only;rw[bj this,m];cases t:r g with
   |none=>rfl
   |some K=>grind
  .by_cases Z:g=p
   .grind
   dsimp only at m;rw[bj Z]at m;cases t:r g with
   |none=>grind
   |some K=>grind
  .rw[ak];by_cases Z:g=p
   .grind
   dsimp only at m;rw[bj Z]at m;cases t:r g with
   |none=>grind
   |some K=>grind
  .grind
  rw[ai];grind
 refine⟨{b with s:=rX cA u Q (rX lt e O (b.s.set d ⟨.pointer (h ⟨p,0,n⟩),p::(B++C)⟩))},rfl,?_⟩
 classical
 have aX:lt≠.nil->e<c k/\e≠d:=λm=>⟨(cP.1 (I m)).1,λZ=>by grind⟩
 have aL:cA≠.nil->u<c k/\u≠d:=λm=>⟨(cP.1 (J m)).1,λZ=>by grind⟩
 have aq:b.s[d]?=h ⟨.pointer (h ⟨p,0,n⟩),[p]⟩:=ab;let ac:Nat->Prop:=λo=>o=d∨(lt≠.nil/\o=e)∨(cA≠.nil/\o=u);have R:∀o,(js cA u (js lt e (k.set d (.K (eC W (.ax lt F i cA))))))[o]?=if o=d then h (.K (eC W (.ax lt F i cA)))else if(lt≠.nil/\o=e)∨(cA≠.nil/\o=u)then h .N else k[o]?:=λo=>by cases lt<;>cases cA<;>simp[js,o1,xb]<;>grind
 have Y:∀o,(rX cA u Q (rX lt e O (b.s.set d ⟨.pointer (h ⟨p,0,n⟩),p::(B++C)⟩)))[o]?=if o=d then h ⟨.pointer (h ⟨p,0,n⟩),p::(B++C)⟩else if cA≠.nil/\o=u then h ⟨Q,[]⟩else if lt≠.nil/\o=e then h ⟨O,[]⟩else b.s[o]?:=λo=>by cases lt<;>cases cA<;>simp[rX,o1,xb]<;>grind
 have Z3:∀S e d,c (js S e d)=c d:=λS e d=>by cases S<;>simp[js]
 have Z4:∀S e ar d,c (rX S e ar d)=c d:=λS e ar d=>by cases S<;>simp[rX]
 have aG:∀g∈B,lt≠.nil/\b.s[e]?=h ⟨O,B⟩:=λg E=>by grind
 have aH:∀g∈C,cA≠.nil/\b.s[u]?=h ⟨Q,C⟩:=λg E=>by grind
 refine⟨⟨_,aq,_,(Y d).trans (bo a),a⟩,bb.hI (ac:=ac) s a a a N N (λo x aZ=>N) (λo ag x j g E=>?_) (λo aN ag aw x ao j aa g E aU=>?_) (λo au ag x f j=>?_) (λ_ o au ag x f j=>?_)⟩
 .rw[Y]at j;split at j
  .cases j;rcases eT.1 E with rfl|E
   .grind
   rcases e2.1 E with E|E
   .grind
   grind
  have:o<c b.s∨c b.s<=o:=dY _ _;grind
 .rw[Y]at j aa;grind
 .rw[R,Y];rcases x with rfl|⟨m,rfl⟩|⟨m,rfl⟩
  .rw[aq]at j;cases j;rw[aJ]at f;cases f;exact⟨_,_,bo a,bo a,a⟩
  .have H:b.s[o]?=h ⟨O,B⟩:=N;rw[I m]at f;rw[H]at j;cases f;cases j;grind[fQ]
  have H:b.s[o]?=h ⟨Q,C⟩:=N;rw[J m]at f;rw[H]at j;cases f;cases j;grind[fQ]
 rw[R]at f;rw[Y]at j;split at f
 .grind
 split at f
 .cases f;trivial
 grind
def eP:dJ->M
 |.nil=>.bp
 |.ax d a b e=>.R [.int .i64 a,.int .i64 b,eP d,eP e]
def eC.rd{W}{bB}:∀{p:dJ}{r:X}{e:Nat->Option Obj},eC W p r e->(∀d z b i,e d=h (.cells z b i)->∀o q,z[o]?=h q->bB d o=h q)->Rd bB r (eP p)
 |.nil,_,_,f,_=>by rw[f.1];exact .bp
 |.ax K t u N,_,e,⟨s,F,E,x,Q,y,⟨C,B⟩,k,m,I,_,_,A,D,_⟩,j=>by
  subst y;have O:=k.rd (bB:=bB) λd z b i f=>j d z b i (A d _ f).2;have M:=m.rd (bB:=bB) λd z b i f=>j d z b i (D d _ f);have R:=j s _ _ _ I;refine Rd.R s 0 (λg=>[Value.int .i64 t,.int .i64 u,F,E].getD g J) (λg w a=>?_) (λg w a=>?_)
  .match g,a with
   |0,_|1,_|2,_|3,_=>grind
  .match g,a with
   |0,a=>cases a;exact Rd.int C
   |1,a=>cases a;exact Rd.int B
   |2,a=>grind
   |3,a=>grind
def bb.gj(g:bb k b){o}(aJ:k[d]?=h (.K (eC W o))):
  ∃j,j.a=b.a/\j.s=b.s/\(∀L,b.s[d]?=h L->Rd j.D L.v (eP o))/\bb (k.set d .N) j/\cO k b (k.set d .N) j:=by
 have N:d<c k:=(cP.1 aJ).1;have M:=g.len;have x:=bJ (show d<c b.s by omega);generalize b.s[d]=L at x;obtain⟨w,T,E,K,R⟩:=g.box d _ L aJ x;let i:Mem:=λe f=>match w e with|some (.cells z _ _)=>z[f]?|_=>b.D e f
 have D:∀e,e∉L.aj->∀f,i e f=b.D e f:=λe t f=>by grind
 have O:∀e f u,b.D e f=h u->i e f=h u:=λe f u r=>by grind
 have A:cO k b (k.set d .N) {b with D:=i}:=by
  refine⟨bC _,λ_ _ _=>rfl,O,λe _ F f=>D e (F L (b' x)) f,λp m e t=>.inr ⟨p,m,t⟩,λy B p q m=>?_,a,a,a,a⟩;by_cases s:d=y
  .subst s;rw[aJ]at q;cases q;exact⟨.N,p,by grind,m,a⟩
  exact⟨B,p,by grind,m,.refl _ _⟩
 refine⟨{b with D:=i},rfl,rfl,λp m=>?_,⟨λe f u r=>?_,by grind,λy B p q m=>?_,g.a4,g.lt,g.own⟩,A⟩
 .rw[x]at m;cases m;exact T.rd λe z C U t f V X=>by grind
 .by_cases t:e∈L.aj
  .have r:i e f=h u:=r;cases I:w e with
   |none=>grind
   |some S=>
    have Q:=E e S I;simp[i,I]at r;split at r
    .rename_i z C U s;cases s;show b.a.cell? _=_;simp[aI,Q,r]
    grind
  exact g.mem e f u ((D e t f).symm.trans r)
 by_cases s:d=y
 .subst s;rw[ix N]at q;cases q;trivial
 rw[kJ s]at q;exact(g.box y B p q m).cc A.ext M λe t=>⟨a,λf=>D e (λJ=>s (g.a4 d y L p x m e J t)) f⟩
end
section
variable {q:af P}
def bY.gv{d}{o}{i}(e:bY F k b I d)(g:c b.s=c k)(a:cO k b ar aE)(p:bx ar aE (d.tmps.getD o J) i):bY F ar aE ((o,i)::I) d:=
 ⟨e.size,e.defers.imp λ_ f=>f.mono a.ext,λj=>by
  simp only[look];cases m:ad o j with
  |false=>exact(e.aL j).mono a.ext g
  |true=>grind[Nat.eq_of_beq_eq_true]⟩
def g.gw(o d){W}{lt cA}{p i}(B:look I o=.n (.Q (.aY d)))(e:db d k=h (.K (eC W (.ax lt p i cA))))(j:g q F be (.code t::av) .normal ((o,aH d 0)::I) (k.set d (.cells W [.c (.int .i64 p),.c (.int .i64 i),iE lt (c k),iE cA (c k+c (hz W lt))])++(hz W lt++hz W cA))):g q F be (.code t::av) .normal I k:=by refine g.aP (λM K r b=>?_) j;have w:=r.aL o;rw[B]at w;obtain⟨_,L,C,y,_⟩:=w;obtain⟨m,f,⟨D,J,a,u,z⟩,A,s⟩:=b.gw (er e);rw[C]at a;cases a;have x:d<c k:=(cP.1 (er e)).1;refine⟨m,f,r.gv b.len s ⟨λE aJ=>?_,_,D,z,u,y.trans u⟩,A,s⟩;rw[jm N,ix x]at aJ;cases aJ;rfl
def g.cU(o d e u){W}{lt cA}{a i}(S:look I o=aH d 0)(p:db d k=h (.cells W [.c (.int .i64 a),.c (.int .i64 i),iE lt e,iE cA u]))(z:lt≠.nil->db e k=h (.K (eC W lt)))(A:cA≠.nil->db u k=h (.K (eC W cA)))(O:lt≠.nil->cA≠.nil->e≠u)(C:g q F be (.code t::av) .normal ((o,.n (.Q (.aY d)))::I) (js cA u (js lt e (k.set d (.K (eC W (.ax lt a i cA))))))):g q F be (.code t::av) .normal I k:=by
 refine g.aP (λaa Z E m=>?_) C;have K:=E.aL o;rw[S]at K;obtain⟨_,L,ae,V,R,af⟩:=K;obtain⟨D,x,⟨M,j,w,T,y⟩,Q,J⟩:=m.cU (er p) (λf=>er (z f)) (λf=>er (A f)) O;rw[V]at j;cases j;have N:d<c k:=(cP.1 (er p)).1;have r:(js cA u (js lt e (k.set d (.K (eC W (.ax lt a i cA))))))[d]?=h (.K (eC W (.ax lt a i cA)))∨(js cA u (js lt e (k.set d (.K (eC W (.ax lt a i cA))))))[d]?=h .N:=by
  have ab:(k.set d (.K (eC W (.ax lt a i cA))))[d]?=h (.K (eC W (.ax lt a i cA))):=ix N;have Y:∀s B b,b[d]?=h (.K (eC W (.ax lt a i cA)))∨b[d]?=h .N->(js s B b)[d]?=h (.K (eC W (.ax lt a i cA)))∨(js s B b)[d]?=h .N:=λs B b f=>by
   cases s with
   |nil=>exact f
   |ax=>simp[js,o1];grind
  grind
 refine⟨D,x,E.gv m.len J ⟨λX aJ=>?_,w,T,?_,?_⟩,Q,J⟩
 .rcases r with r|r<;>(rw[r]at aJ;cases aJ;rfl)
 .grind
 exact hI
def g.gj(o d){W}{r}(w:look I o=.n (.Q (.aY d)))(f:db d k=h (.K (eC W r)))(b:g q F be (.code t::av) .normal ((o,ay (eP r))::I) (de.cp d .N k)):g q F be (.code t::av) .normal I k:=by rw[mT]at b;refine g.aP (λA z j a=>?_) b;have p:=j.aL o;rw[w]at p;obtain⟨_,L,y,s,_⟩:=p;obtain⟨i,e,_,x,u,m⟩:=a.gj (er f);exact⟨i,e,j.gv a.len m (show Rd _ _ _ from s▸x L y),u,m⟩
end
section
variable {q:af P}{aM:fD}{ap:Exit}
def nZ(g:Nat)(aM:fD):fD:=λk j f=>∃d a,(∀e i,bY g f e j i->bb f e->∃b:a6,b.a=e.a/\bY g a b d i/\bb a b/\cO f e a b)/\aM k d a
def nZ.of(d:aM ap I k):nZ F aM ap I k:=⟨I,k,λe f b a=>⟨e,rfl,b,a,.refl _ _⟩,d⟩
def nZ.step{d}(w:∀b e,bY F k b I e->bb k b->∃a:a6,a.a=b.a/\bY F ar a d e/\bb ar a/\cO k b ar a)(z:nZ F aM ap d ar):nZ F aM ap I k:=by obtain⟨r,f,o,A⟩:=z;refine⟨r,f,λb e t p=>?_,A⟩;obtain⟨x,g,j,m,q⟩:=w b e t p;obtain⟨u,i,f3,y,s⟩:=o x e j m;exact⟨u,i.trans g,f3,y,q.trans s⟩
theorem nZ.freeze(o d){W}{ah}{gR}(i:look I o=aH d 0)(b:db d k=h (.cells W ah))(f:h' ah=h gR)(e:nZ F aM ap ((o,ay (.R gR))::I) (de.cp d .N k)):nZ F aM ap I k:=by rw[mT]at e;exact .step (λm j g a=>bY.freeze o d i b f g a) e
def dg.iU(M:dg q F t (nZ F aM) I k):dg q F t aM I k:=by
 intro T J R u K O o E s d r;refine M T J R u K O o E s d λB U D f b y p a g=>?_;obtain⟨j,m,S,y⟩:=y;obtain⟨e,Q,N,A,z⟩:=S f b p a;have C:=z.too0 a;have i:=r B j m e b y N A (g.trans C);have x:e9 f e:=.of a A Q C;cases B<;>first
  |exact i.elim
  |exact .aP x i
  |exactλpre=>.aP x (i pre)
  |exactλpre w=>.aP x (i pre w)
def dg.bc(d)(ar){cT}(p:i' I d=h Z)(E:U Z)(b:jw k ar=h cT)(K:U cT)(M:dg q F t aM d ar):dg q F t aM I k:=by intro w A J a B u j z s e r;have m:=jX b K;have y:=(m w a).2.1;exact M w A ((J.le (eu p E)).aj m a) (m w a).1 B u j z s e λC D g x i N o b f=>r C D g x i N o b ((y.too0 a).trans f)
def dg.jI{o}{Z}{assign body}{f}{o9}{d:ι->m aq}(p:∀e g,bY F k e I g->bb k e->∃i:m X,g.eval o=.func (.func f) #[] i.toArray/\b5 k e i o9)(r:bl q f (.n (.Q (.aY (c k)))::o9) (k++[.loop F I {state:=.ready,pending:=n,fn:=0,tmps:=#[],params:=Z,assign:=assign,body:=body,defers:=0}]) res d)(a:∀b,∃gi,(d b)[c k]?=h (.loop F I gi)/\gi.state≠.busy/\∃j,zf gi.pending=h j/\aM j I ((d b).set (c k) .N++[.bn])):dg q F (.rangeFunc o Z assign body) aM I k:=
 dg.rangeFunc (gi:=λb=>(a b).choose) p r (λb=>⟨(a b).choose_spec.1,(a b).choose_spec.2.1⟩) λb=>(a b).choose_spec.2.2
def bl.jd{d}{fn}{args}{ar:ι->m aq}(B:P.funcs[d]?=h fn)(x:(fn.name== "runtime.NumGoroutine")=v)(g:fn.body=h t)(u:ax args.length fn.ntmps=l)(y:dg q fn.ntmps t (nZ fn.ntmps λw o b=>∃j,k7 P fn k.length (res j) (ar j) w o b) (h_ 0 args) k):bl q d args k res ar:=
 bl.gu B x g (fz u) λC r d z s A e p i a f=>dg.iU y C r d z s A e p i a f
def k7.cells(aZ:bZ P ac){fn}{d}{res}(aX)(e:tH ac fn.results.toList aX I res=h Z)(m:U Z)(j:dy aX k=h ar)(i:l7 ar=l)(g:fi aX=l)(f:∀b,b<d->aX[b]?=h b):k7 P fn d res ar .ret I k:=by refine⟨.inl a,aX,?_⟩;unfold tH at e;grind[oV.fb]
end
def yp:R->Option X
 |.c (.val a)=>h a
 |_=>n
def vk:m R->Option (m X)
 |[]=>h []
 |a::d=>match yp a with
  |some e=>match vk d with
   |some b=>h (e::b)
   |none=>n
  |none=>n
def yq:y->Option X
 |.n (.Q b)=>yp b
 |.n (.agg a)=>match vk a with
  |some d=>h (.agg d.toArray)
  |none=>n
 |_=>n
def s8:m y->Option (m X)
 |[]=>h []
 |a::d=>match yq a with
  |some e=>match s8 d with
   |some b=>h (e::b)
   |none=>n
  |none=>n
section
variable {q:af P}
def JR{d}:∀{a:R},cC k b aa a->yp a=h d->aa=d
 |.c (.val g),f,e=>by cases e;exact Rd.bd f
theorem JS:∀{e:m R}{z a:m X},bN k b z e->vk e=h a->z=a
 |[],[],a,_,f=>by cases f;rfl
 |[],_::_,_,d,_=>d.elim
 |_::_,[],_,d,_=>d.elim
 |j::o,q::z,a,d,f=>by
  simp[vk]at f;cases g:yp j with
  |none=>grind
  |some r=>
   cases i:vk o with
   |none=>grind
   |some p=>
    simp[g,i]at f;subst f;rw[JR d.1 g,JS d.2 i]
def YU{f}:∀{d:y},bx k b aa d->yq d=h f->aa=f
 |.n (.Q i),e,a=>JR e a
 |.n (.agg g),⟨z,j,e⟩,a=>by simp[yq]at a;grind[JS]
def CR:∀{e:m y}{z a:m X},b5 k b z e->s8 e=h a->z=a
 |[],[],a,_,f=>by cases f;rfl
 |[],_::_,_,d,_=>d.elim
 |_::_,[],_,d,_=>d.elim
 |j::o,q::z,a,d,f=>by
  simp[s8]at f;cases g:yq j with
  |none=>grind
  |some r=>
   cases i:s8 o with
   |none=>grind
   |some p=>
    simp[g,i]at f;subst f;rw[YU d.1 g,CR d.2 i]
def h8(P:aD)(g:Nat)(e:an)(f:bL)(i:m aq)(d:a0)(args:m X):Prop:=∀j b,bY g i j f b->∀a,(ab b.eval e).run P a=(callFunc d args.toArray).run P a/\(ab b.eval e).events P a #[]=(callFunc d args.toArray).events P a #[]
def h8.dZ{a}{args}(e:r.op=.call {callee:=.value (.func a),args:=ag,argTypes:=dt})(i:s8 (ag.toList.map (bF I))=h args):h8 P F r I k a args:=by
 intro o b g p;have j:=CR (m_ (eH g) ag.toList) i;have d:ag.map b.eval=args.toArray:=N;have f:b.eval (.func a)=.func (.func a) #[] #[]:=rfl;have m:ab b.eval r=callFunc a args.toArray:=by simp[ab,e,resolve,f,Deferred.ofValue,invoke,d]
 grind
def h8.invoke{q}{o:ae}{g}{name}{e}{m t}{args}(j:r.op=.call {callee:=.invoke o name,args:=g,argTypes:=dt})(x:bF I o=ay (.val (.iface e m)))(w:s8 (g.toList.map (bF I))=h args)(d:∀a,(Go.method (P.types.size+Made.depth) e m name).run P a=.ok (q,t) a/\∀b,(Go.method (P.types.size+Made.depth) e m name).events P a b=b):h8 P F r I k q (t::args):=by
 intro z y s a;have f:=eH s o;rw[x]at f;have f:=Rd.bd (b8 f);have i:=CR (m_ (eH s) g.toList) w;have p:∀a,(program:Sem aD).run P a=.ok P a:=λa=>by simp
 have u:∀a b,(program:Sem aD).events P a b=b:=λa b=>by simp
 rw[CU j f,i];constructor
 .simp[callMethod,p,(d a).1]
 simp[callMethod,p,u,(d a).1,(d a).2]
structure jG(P:aD)(al:a0)(ap:Array X->Sem X):Prop where
 fn:∃fn,P.funcs[al]?=h fn/\(fn.name== "runtime.NumGoroutine")=v/\fn.body.isNone=l/\Extern.findNext fn=n/\Extern.find fn=h ap
def jG.run{d}{e:Array X->Sem X}(q:jG P d e){args}(m:(e args).run P p=.ok aa bi):(callFunc d args).run P p=.ok (.value aa) bi/\∀a,(callFunc d args).events P p a=(e args).events P p (a.push ⟨.mark (.extern d),v,l⟩):=by
 obtain⟨fn,k,o,i,b,j⟩:=q.fn;have f:fn.name≠ "runtime.NumGoroutine":=N;have g:fn.body=n:=ds;constructor
 .rw[run_callFunc_extern k o i b j,m];rfl
 intro a;simp[callFunc,k,f,g,b,j,m]
def ei.ext{B:ι->y}{d:ι->m aq}{s}{q:Array X->Sem X}{args}(N:h8 P F r I k s args)(J:jG P s q)(o:∀f,bb k f->∃i b p,(q args.toArray).run P f.a=.ok p b.a/\bx (d i) b p (B i)/\bb (d i) b/\cO k f (d i) b/\∀j,∀e∈(q args.toArray).events P f.a j,e∈j∨ia f e):ei P F r I k B d:=by
 intro f C E w;obtain⟨t,u⟩:=N f C E f.a;obtain⟨i,b,p,M,x,z,A,O⟩:=o f w;obtain⟨K,D⟩:=J.run M;refine⟨i,.value p,b,p,t.trans K,.inl a,x,z,A,λe g=>?_⟩;rw[u,D]at g;rcases O _ e g with o|o
 .simp at o;subst o;exact .inr ⟨s,a⟩
 grind
def ei.eb{g}{e:Array X->Sem X}{args}{E}(m:h8 P F r I k g args)(i:jG P g e)(j:∀d,(e args.toArray).run P d=.ok aa d)(q:∀d a,(e args.toArray).events P d a=a)(o:∀b,bx k b aa E):ei P F r I k (λ_:Unit=>E) λ_=>k:=
 .ext m i λb f=>⟨(),b,aa,j b.a,o b,f,.refl _ _,λa p s=>.inl N⟩
def ei.gZ{t}{g:Array X->Sem X}{args}{aa:Nat->X}{E:Nat->y}{bA}(J:h8 P F r I k t args)(z:jG P t g)(C:∀o,(g args.toArray).run P o=.ok (aa o.heap.size) (o.alloc (.cells #[bA] W)))(Q:∀o i,(g args.toArray).events P o i=i)(K:∀p k d,bx k d (aa p) (E p)):
  ei P F r I k E λp=>k++[.K (ef p W bA)]:=
 .ext J z λd f=>by
  have s:cO k d k {d with a:=d.a.alloc (.cells #[bA] W)}:=⟨by simp,λe b _=>i7 _ _ b,λ_ _ _ u=>u,λ_ _ _ _=>rfl,λL B e b=>.inr ⟨L,B,b⟩,λM bU L j q=>⟨bU,L,j,q,.refl _ _⟩,rfl,rfl,rfl,rfl⟩
  have O:∀r,d.D d.a.heap.size r=n:=λr=>by
   cases m:d.D d.a.heap.size r with
   |none=>rfl
   |some aa=>exact absurd (f.block m) (xi _)
  have j:=(f.cY (bi:=d.a.alloc (.cells #[bA] W)) (cl:=d.D) D (λe b=>i7 d.a _ b) (λe b r=>rfl) (λe b r aa m=>by have:=f.block m;omega) a a a).1;obtain⟨x,w⟩:=j.bY (bU:=.K (ef d.a.heap.size W bA)) (L:=⟨.pointer (h ⟨d.a.heap.size,0,n⟩),[d.a.heap.size]⟩) s rfl f
   ⟨λe=>if e=d.a.heap.size then h (.cells #[bA] W (0,0))else n,⟨rfl,by simp,λe b=>by grind⟩,λe r b=>by
    by_cases g:e=d.a.heap.size
    .subst g;simp[dw]at b;grind[lY]
    grind,λe=>by by_cases g:e=d.a.heap.size<;>simp[g],λe b r=>by grind⟩
   (λe b=>by simp_all)
  exact⟨d.a.heap.size,_,_,C d.a,K _ _ _,x,w,λi A u=>.inl N⟩
def ef.own{C}(i:db d k=h (.K (ef C W aa)))(bQ:bb k b):b.a.heap[C]?=h (.cells #[aa] W (0,0))/\b.a.cell? ⟨C,0,n⟩=h aa/\(∀a,ia b ⟨.cell ⟨C,a,n⟩,v,v⟩)/\∀a,ia b ⟨.cell ⟨C,a,n⟩,l,v⟩:=by have aJ:=er i;have m:d<c b.s:=h7;have e:=bJ m;generalize b.s[d]=L at e;obtain⟨o,⟨s,g,t⟩,q,r,p⟩:=bQ.box d _ L aJ e;have j:=q C _ g;have f:=(r C).2 N;exact⟨j,by simp[aI,j],λa=>qp (b' e) f,λa=>oi (b' e) f (p C f _)⟩
def ef.b8{d C}{W}{aa bA}(f:db d k=h (.K (ef C W aa)))(bQ:bb k b):bb (k.set d (.K (ef C W bA))) {b with a:=b.a.setRow C #[bA]}/\cO k b (k.set d (.K (ef C W bA))) {b with a:=b.a.setRow C #[bA]}:=by
 have f:=er f;have r:d<c b.s:=h7;have m:=bJ r;generalize b.s[d]=L at m;obtain⟨p,⟨i,j,B⟩,o,t,y⟩:=bQ.box d _ L f m;have z:=(t C).2 N;have q:=o C _ j;have s:∀e,e≠C->(b.a.setRow C #[bA]).heap[e]?=b.a.heap[e]?:=λe g=>setRow_other b.a C e _ g;have x:=setRow_heap b.a C #[aa] #[bA] W (0,0) q;have w:b.s.set d L=b.s:=m3;have E:=bQ.b8 (d:=d) (j':=ef C W bA) (cw:=L) (bi:=b.a.setRow C #[bA]) f m a D
  (λe g u=>s e N) (λe g=>.inl g)
  ⟨λe=>if e=C then h (.cells #[bA] W (0,0))else n,⟨i,by simp,λe g=>by grind⟩,λe A g=>by grind,λe=>by grind⟩ a a a
 grind
def ei.g1{m}{i:Array X->Sem X}{args}{bA}{E}(d){C}(j:db d k=h (.K (ef C W bA)))(w:h8 P F r I k m args)(p:jG P m i)(u:∀g,g.cell? ⟨C,0,n⟩=h bA->(i args.toArray).run P g=.ok aa g/\∀a,∀b∈(i args.toArray).events P g a,b∈a∨b=⟨.cell ⟨C,0,n⟩,v,v⟩)(x:∀f,bx k f aa E):ei P F r I k (λ_:Unit=>E) λ_=>k:=
 .ext w p λf e=>by obtain⟨_,s,y,_⟩:=ef.own j e;obtain⟨q,o⟩:=u f.a s;exact⟨(),f,aa,q,x f,e,.refl _ _,λa b t=>(o a b t).imp id λz=>by grind⟩
def ei.iK{p}{j:Array X->Sem X}{args}{bA ce}{E}(q w:Nat){C i}{g}(e:db q k=h (.K (ef C W ce)))(s:db w k=h (.K (ef i g bA)))(A:h8 P F r I k p args)(u:jG P p j)(y:∀f,f.heap[C]?=h (.cells #[ce] W (0,0))->f.cell? ⟨i,0,n⟩=h bA->(j args.toArray).run P f=.ok aa (f.setRow C #[bA])/\∀b,∀a∈(j args.toArray).events P f b,a∈b∨a=⟨.cell ⟨i,0,n⟩,v,v⟩∨a=⟨.cell ⟨C,0,n⟩,l,v⟩)(B:∀k m,bx k m aa E):ei P F r I k (λ_:Unit=>E) λ_=>k.set q (.K (ef C W bA)):=
 .ext A u λm d=>by obtain⟨t,_,_,D⟩:=ef.own e d;obtain⟨_,z,J,_⟩:=ef.own s d;obtain⟨x,M⟩:=y m.a t z;obtain⟨o,t2⟩:=ef.b8 (bA:=bA) e d;refine⟨(),_,aa,x,B _ _,o,t2,λb a K=>?_⟩;grind
def g.cX{N:ι->y}{b:ι->m aq}(S:oQ all I r=l)(ag:fp F r.dst=l)(T:ei P F r I k N b)(U:∀o,g q F be (.al all bq::av) .normal (gh r.dst (N o) I) (b o)):g q F be (.al all (r::bq)::av) .normal I k:=by
 intro ai Q J j R C u O idx i a B;cases idx with
 |nil=>exact a.elim
 |cons ah idx=>
 refine ry i a.1 (j5 S _ _ _ J) λae w=>?_;have f:=j.rely w;have d:=J.rely w j;obtain⟨o,aa,p,ab,A,e,af,K,M,Y⟩:=T ae Q d f;have z:=M.too0 f;refine⟨aa,p,ab,A,e,⟨⟨k,b o,f,K,M⟩,Y⟩,?_⟩;refine U o p _ ?_ K R C u O idx i a.2 λV s D t X x e E=>B V s D t X x e ((w.aT.trans z).trans E);cases W:r.dst with
 |none=>exact d.mono z f.len
 |some Z=>exact(d.mono z f.len).put (lh ag Z W) af
def g.iJ(o){ac}{ah}(y:look I o=ay (.cg ac (.R ah)))(m:∀p:Addr,g q F be (.code t::av) .normal ((o,cN (.iface ac (.pointer (h p))))::I) k):g q F be (.code t::av) .normal I k:=by
 refine b1.e6 (ι:=Addr) (dE:=λp=>(o,cN (.iface ac (.pointer (h p))))::I) (ar:=λ_=>k) (λC s e j=>?_) m;have b:=e.aL o;rw[y]at b;have b:=b8 b;generalize x:s.tmps.getD o J=E at b;cases b with
 |@cg _ r _ f z=>
  cases f with
  |R u d D A B=>
   refine⟨⟨u,d,n⟩,C,a,⟨e.size,e.defers,λr=>?_⟩,j,.refl _ _⟩;simp only[look];cases i:ad o r with
   |false=>exact e.aL r
   |true=>
    have w:=dp i;subst w;rw[x];exact Rd.val a
def g.gY(o){ac}{j}(m:look I o=ay (.cg ac (.val j)))(i:g q F be (.al all bq::av) .normal ((o,cN (.iface ac j))::I) k):g q F be (.al all bq::av) .normal I k:=by
 refine fm.le i λk u w s b=>?_;simp[look];cases f:ad o s with
 |false=>exact b
 |true=>
  have p:=dp f;subst p;rw[m]at b;have d:=b;cases d with
  |@cg _ t _ e r=>
   obtain rfl:=Rd.bd e;exact Rd.val a
def g.hA(o d)(N:look I o=aH d 0)(i:db d k=h (.cells W [.c .bp]))(w:∀b,g q F be (.code t::av) .normal ((o,cN (.pointer (h ⟨b,0,n⟩)))::I) (k.set d (.K (ef b W (.pointer n))))):g q F be (.code t::av) .normal I k:=by
 refine b1.e6 (ι:=Nat) (dE:=λb=>(o,cN (.pointer (h ⟨b,0,n⟩)))::I) (ar:=λb=>k.set d (.K (ef b W (.pointer n)))) (λp O s bQ=>?_) w;have i:=er i;have C:d<c p.s:=h7;have r:=bJ C;generalize p.s[d]=L at r;obtain⟨b,z,rfl,S,K,U⟩:=bQ.box d _ L i r
 match z,K with
 |[Q],⟨x,_⟩=>
  have x:=x;cases x;obtain⟨M,m⟩:=bQ.b5 (cl:=p.D) (bi:=p.a) (ed:=.K (ef b W (.pointer n))) (cw:=⟨.pointer (h ⟨b,0,n⟩),[b]⟩) i r rfl (bC _) (λ_ _ _=>rfl) (λ_ _ _ _=>rfl) (λ_ _ _ B=>B) bQ.mem (λj e=>⟨.inl e,bQ.lt _ (b' r) j e⟩) rfl rfl rfl
   ⟨λj=>if j=b then h (.cells #[.pointer n] W (0,0))else n,⟨rfl,by simp,λj e=>by grind⟩,λj J e=>by grind,λj=>by by_cases u:j=b<;>simp[u],λj e J=>by grind⟩
  refine⟨b,{p with s:=p.s.set d ⟨.pointer (h ⟨b,0,n⟩),[b]⟩},rfl,⟨s.size,s.defers.imp λ_ f=>f.mono m.ext,λA=>?_⟩,M,m⟩;simp only[look];cases e:ad o A with
  |false=>exact(s.aL A).mono m.ext bQ.len
  |true=>
   have u:=dp e;subst u;have f:=s.aL o;rw[N]at f;obtain⟨_,T,R,y,E,D⟩:=(f:cC k p _ (.ptr d 0));rw[r]at y;cases y;cases E;rw[D];exact Rd.val a
end
section
variable {q:af P}
def vP:m R->Option (m X)
 |[]=>h []
 |.c (.int a b)::e=>match vP e with
  |some d=>h (.int a b::d)
  |none=>n
 |_=>n
def K4:∀{e:m R}{z b:m X}{q:a6},bN k q z e->vP e=h b->z=b/\∀d g,bN d g b e
 |[],[],b,_,_,f=>by cases f;exact⟨a,λ_ _=>trivial⟩
 |[],_::_,_,_,i,_=>i.elim
 |_::_,[],_,_,i,_=>i.elim
 |.c (.int t u)::w,x::z,b,q,i,f=>by
  simp only[vP]at f;cases o:vP w with
  |none=>rw[o]at f;cases f
  |some y=>
   rw[o]at f;cases f;obtain⟨j,r⟩:=i;obtain⟨rfl,s⟩:=K4 r o;have j:Rd q.D x (.int t u):=j;cases j with
   |int p=>exact⟨rfl,λd g=>⟨Rd.int p,s d g⟩⟩
def ei.hk{b}{m:ae}{ah}{i}(p:r.op=.makeFunc (.func b) #[m] #[])(w:bF I m=.n (.agg ah))(g:vP ah=h i):
  ei P F r I k (λ_:{_u:Unit // ∀a j,bN a j i ah}=>ay (.val (.func (.func b) #[.agg i.toArray] #[]))) λ_=>k:=by
 intro q s t f;have o:=eH t m;rw[w]at o;obtain⟨z,u,d⟩:=o;obtain⟨rfl,e⟩:=K4 d g;refine⟨⟨(),e⟩,.value (.func (.func b) #[.agg z.toArray] #[]),q,_,?_,.inl rfl,Rd.val rfl,f,.refl _ _,?_⟩
 .simp only[ab,p,Instr.makeFunc];simp[u]
 have:(ab s.eval r).events P q.a #[]=#[]:=by simp only[ab,p,Instr.makeFunc];rfl
 rw[this];exact .nil
def Ms{e:ae}(cy:r.op=.call {callee:=.value cQ,args:=#[e],argTypes:=dt}){b}{fn}(O:P.funcs[b]?=h fn)(g:(fn.name== "runtime.NumGoroutine")=v)(f:fn.body.isNone=v){a:Act}{d}(C:a.eval cQ=.func (.func b) #[d] #[])(p):
  (ab a.eval r).run P p=.ok (.enter b [d,a.eval e].toArray) p/\(ab a.eval r).events P p #[]=#[]:=by
 have t:fn.name≠ "runtime.NumGoroutine":=N;have i:fn.body≠n:=N;constructor
 .exact Pb
 exact Pb
def aY.gR{o:ae}(S:∀k C m,bY F k C I m->aP r (yielded all.toArray m.tmps)=l)(e:r.op=.call {callee:=.value cQ,args:=#[o],argTypes:=dt}){J}{ah}{j}{d res}(W:bF I cQ=ay (.val (.func (.func J) #[.agg j.toArray] #[])))(Z:∀p b,bN p b j ah)(X:B4 (bF I o)=d)(O:Y q J [.n (.agg ah),d] [] res [])(t:ho 0 [.n (.agg ah),d]=l)(u:gr [] [.n (.agg ah),d]=[.n (.agg ah),d])(ab:fk [] res=res):aY q F all r I k res k:=by
 intro C m s y ag V ai af ak A x z w;have N:=eH s cQ;rw[W]at N;have Q:=Rd.bd (b8 N);obtain⟨fn,M,K,E⟩:=O.1;have R:=HX (eH s o);rw[X]at R;have U:b5 k C [.agg j.toArray,m.eval o] (gr [] [.n (.agg ah),d]):=by rw[u];exact⟨⟨j,a,Z _ _⟩,R,B⟩
 refine GK (aX:=[]) (dj:=[]) (aU:=[]) x z (S _ _ _ s) y (λD=>(Ms e M K E Q D).1) (λD=>(Ms e M K E Q D).2) O U t a a a a (bC _) ?_;intro aa b f g i;have T:de [] [] k=k:=by simp[de]
 rw[T]at f g i;refine w aa b ?_ g i;simpa[ab,gZ]using f
def dX.cH(ai:∀k g b,bY F k g I b->aP r (yielded all.toArray b.tmps)=l)(e:r.op=.call {callee:=.value cQ,args:=ag,argTypes:=dt}){E}(f:g8 (bF I cQ)=h (E,cap))(O:bl q E cS k res aU)(W:l2 (ag.toList.map (bF I)++fg cap) cS=h Z)(af:U Z):dX q F all r I k res aU:=by
 intro g b y s al aa S ak an A p t o;have M:=eH y cQ;unfold g8 at f;split at f
 case h_2=>cases f
 case h_1 vl u9 he=>
  cases f;rw[he]at M;have J:=b8 M;generalize Q:b.eval cQ=V at J;cases J with
  |fn j a w d T i X m ae z=>
   have ah:j=[]:=jJ w;subst ah;have Y:b5 k g a (fg cap):=qj (λx R u=>⟨i x,m x N,z x R u⟩) d;have ab:b5 k g (ag.toList.map b.eval++a) cS:=tm W af ((m_ (eH y) ag.toList).append Y);obtain⟨fn,K,D,C⟩:=O.1;exact GL p t (ai _ _ _ y) s (λB=>(mR e K D C Q B).1) (λB=>(mR e K D C Q B).2) O ab o
def g.hc(d){p}(aJ:k[d]?=h p)(A:∀L,fQ p L .N L)(o:g q F be (.code t::av) .normal I (k.set d .N)):g q F be (.code t::av) .normal I k:=by
 refine g.aP (λb D m bQ=>?_) o;have r:d<c b.s:=h7;have i:=bJ r;generalize b.s[d]=L at i;have x:b.s.set d L=b.s:=by
  apply qa;intro z;by_cases s:d=z
  .subst s;rw[ix r,i]
  rw[kJ s]
 obtain⟨u,f⟩:=bQ.b5 (cl:=b.D) (bi:=b.a) aJ i (A L) (bC _) (λ_ _ _=>rfl) (λ_ _ _ _=>rfl) (λ_ _ _ y=>y) bQ.mem (λw e=>⟨.inl e,bQ.lt L (b' i) w e⟩) rfl rfl rfl B;rw[x]at u f;exact⟨b,a,⟨m.size,m.defers.imp λ_ j=>j.mono f.ext,λC=>(m.aL C).mono f.ext bQ.len⟩,u,f⟩
def g.cJ(d){b}(aJ:db d k=h b)(e:∀L,fQ b L .N L)(a:g q F be (.code t::av) .normal I (k.set d .N)):g q F be (.code t::av) .normal I k:=.hc d (er aJ) e a
def g.eL{t}:∀d{b:m aq},g q F be (.code t::av) .normal I (b++aV d .N)->g q F be (.code t::av) .normal I b
 |0,b,a=>by simpa using a
 |d+1,b,a=>by refine g.fh 0 1 (g.hc (c b) (AR) bk (g.eL d ?_));rw[List.set_append_right _ _ (bC _)];simpa[List.replicate_succ]using a
end
def Rd.jJ{o}{f}(y:Rd bB aa (.B o f j V)):∃m a p b,aa=.slice m j a/\j<=a/\a<=9223372036854775807/\(0<j->m=h ⟨p,b,n⟩)/\(∀d,d<j->c (V d)=f)/\∀d,d<j->∀k e,(V d)[k]?=h e->∃w,bB p (b+d*f+k)=h w/\Rd bB w e:=by
 cases y with
 |@B m _ a _ _ _ p b A x r z s q t u=>exact⟨m,a,p,b,rfl,x,r,q,s,λd g k e i=>⟨_,t d g k e i,u d g k e i⟩⟩
def Rd.hK{o}{cap f}(e:j<=cap)(g:cap<=9223372036854775807)(r:0<j->o=h ⟨i,off,n⟩)(q:∀a,a<j->c (V a)=f)(t:∀a,a<j->∀b d,(V a)[b]?=h d->∃p,bB i (off+a*f+b)=h p/\Rd bB p d):Rd bB (.slice o j cap) (.B v f j V):=by refine .B i off (λa b=>(bB i (off+a*f+b)).getD J) e g (λs=>by cases s) q r (λa k b d m=>N) λa k b d m=>?_;grind
section
variable {q:af P}{O:m iu}
end
section
variable {q:af P}
def ei.hl(aZ:bZ P ac){x z:ae}{Q:cr}{U V:IntKind}(t:r.op=.makeSlice o x z)(J:bX ac o=h Q)(ak:Q.desc=.slice W)(ar:bX ac W=h a5)(N:bF I x=ay (.int U j))(O:bF I z=ay (.int V j))(au:j*a5.bytes<=140737488355328)(aB:j<=140737488355328):
  ei P F r I k (λ_:Unit=>ay (.B v a5.size j λ_=>a5.zero)) λ_=>k:=by
 intro g A aM E;have q:=eH aM x;rw[N]at q;have q:=b8 q;generalize af:A.eval x=av at q;cases q;have s:=eH aM z;rw[O]at s;have s:=b8 s;generalize ag:A.eval z=aw at s;cases s;have C:=(aZ o Q J).et;rw[ak]at C;obtain⟨e,m,u,ao,X,Z,Y,az,al⟩:=(aZ W a5 ar).cK;have G:(e.bytes:Int)*(j:Int)<=281474976710656:=by
  have an:((e.bytes*j:Nat):Int)<=281474976710656:=by rw[X,xg];omega
  rwa [Int.natCast_mul]at an
 have aa:=run_make (P:=P) (w:=g.a) o W e m C u Z U V j j w (uN _) G w;simp only[cR]at aa;have ai:m.cells.size=a5.size:=by have:=eF List.length Y;simp at this;omega
 have R:madeCells m.cells (j*e.size)=Builtin.zeroCells m.cells j:=by rw[ao,<-ai];rfl
 let d:=(madeCells m.cells (j*e.size)).toList;have ah:e0 g.D a5.size j (λ_=>a5.zero) d:=by show e0 _ _ _ _ (madeCells _ _).toList;rw[R];exact N_ Y al
 obtain⟨D,L⟩:=E.newRow W d;refine⟨(),.value (.slice (h ⟨g.a.heap.size,0,n⟩) j j),g.newRow W d,_,?_,.inl a,?_,D,L,?_⟩
 .simp[ab,t,af,ag,aa,d,a6.newRow]
 .exact Rd.en (ah.mono L.mem) (i:=g.a.heap.size) (off:=0) bk (bC _) w (λt=>by cases t) (Lb g W d)
 have B:ab A.eval r=(do pure (.value (<-Instr.makeSlice o (.int U j) (.int V j)))):=by simp[ab,t,af,ag]
 rw[B];refine i4 ?_;intro B f;have K:∀b,(underlying o).run P b=.ok (.slice W) b:=λb=>by simp[underlying,C]
 have y:∀b,(typeInfo W).run P b=.ok e b:=λb=>by simp[typeInfo,u]
 have M:∀b,(zeroValue W).run P b=.ok m b:=λb=>by simp[zeroValue,typeInfo,u,Z]
 have H:∀b,(sizeOf W).run P b=.ok e.size b:=λb=>by simp[sizeOf,typeInfo,u]
 have aq:IntKind.i64.wrap (j:Int)=j:=by rw[IntKind.wrap_i64];omega
 have S:¬(j:Int)<0:=w;have T:¬(281474976710656<(e.bytes:Int)*j):=w;simp[Instr.makeSlice,K,y,H,asInt,asIntOf,aq,S,T]at f;rw[M]at f;simp only[aF,(dA.newRow (P:=P)) _ _,ite_self]at f;unfold askRoom at f;split at f
 .have:B=⟨.mark .noRoom,v,l⟩:=by simpa using f
  rw[this];exact .inl a
 simp at f
end
section
open Go.Conc
def gy(d:a6):Prop:=∀a b e,d.D a b=h e->d.a.cell? ⟨a,b,n⟩=h e
def jH(a:Nat->Prop):Go.Loc->Prop
  |.cell b=>a b.block
  |.obj d=>a d
  |_=>False
structure g1(t:Nat->Prop)(b:a6):Prop where
  own:∀i,t i->¬b.own i
  s:∀i,t i->∀L∈b.s,i∉L.aj
  D:∀i,t i->∀r,b.D i r=n
  lt:∀i,t i->i<b.a.heap.size
section
variable {t:Nat->Prop}
def g1.step(f:g1 t b)(e:cO k b ar aE):g1 t aE:=by
  refine⟨λd a=>by rw[e.own];exact f.own d a,λd a L j i=>?_,λd a p=>by rw[e.bA d (f.lt d a) (f.s d a)];exact f.D d a p,λd a=>eE (f.lt d a) e.size⟩;rcases e.bS L j d i with g|⟨o,m,g⟩
  · exact absurd (f.lt d a) (p_.2 g)
  · exact f.s d a o m g
theorem g1.aP(f:g1 t b)(j:e9 b aE):g1 t aE:=by
  have g:∀d,t d->¬(aE.own d∨∃L∈aE.s,d∈L.aj):=λd a e=>by
    rcases j.blk d e with e|⟨L,i,e⟩
    · exact f.own d a e
    · exact f.s d a L i e
  exact⟨λd a e=>g d a (.inl e),λd a L i e=>g d a (.inr ⟨L,i,e⟩),λd a k=>by rw[j.bA d (f.s d a)];exact f.D d a k,λd a=>by rw[j.a];exact f.lt d a⟩
def g1.b2(e:g1 t b)(f:nY b aE):g1 t aE:=by
  refine⟨λd a=>by rw[f.own];exact e.own d a,λd a=>by rw[f.s];exact e.s d a,λd a g=>?_,λd a=>by rw[f.a];exact e.lt d a⟩;cases i:aE.D d g with
  |none=>rfl
  |some j=>rw[<-f.e9 d g j i,e.D d a g]
def g1.at(a:g1 t b)(d):g1 t {b with a:=b.a.at d}:=⟨a.own,a.s,a.D,a.lt⟩
def gy.at(d:gy b)(a):gy {b with a:=b.a.at a}:=d
theorem gy.aP(a:e9 b aE):gy aE:=λe f g d=>by rw[a.a];exact a.cell e f g d
def gy.b2(i:gy b)(d:nY b aE):gy aE:=λa e f g=>by rw[d.a];exact i a e f (d.e9 a e f g)
def gy.lt(e:gy b){r}(d:b.D i r=h aa):i<b.a.heap.size:=by
  have:=e i r aa d;rcases dY i b.a.heap.size with a|a
  · exact a
  · simp[aI,AW a]at this
def cX.at(d:gy b)(a):cX b {b with a:=b.a.at a}:=⟨rfl,rfl,rfl,bC _,λ_ _=>rfl,d,rfl,rfl,rfl⟩
def Uk{o}(p:bb k b)(q:g1 t b)(f:ia b o){r}(aJ:b.a.heap.size<=r):EvL (jH t) r o:=by
  obtain⟨s,wr,y⟩:=o;cases s with
  |cell m=>
    obtain⟨i,j,a⟩:=f;simp only at i j a;subst i;have key:¬t m.block/\m.block<b.a.heap.size:=by
      rcases a with a|⟨⟨L,g,a⟩,_⟩|⟨_,A,a⟩
      · exact a.elim
      · exact⟨λe=>q.s _ e L g a,p.lt L g _ a⟩
      · refine⟨λe=>?_,gy.lt p.mem a⟩
        rw[q.D _ e]at a;cases a
    exact evL_cell m wr key.1 (eE key.2 aJ)
  |obj z=>
    obtain⟨i,j⟩:=f;simp only at i j;subst i;obtain⟨L,g,a⟩:=j.resolve_left id;refine⟨λe d u=>?_,by simp,by simp,?_⟩
    · simp[aK,MemAct.touch?]at d
      subst d;exact absurd a (q.s _ u L g)
    · simp[aK,MemAct.low,Loc.low]
      exact eE (p.lt L g _ a) aJ
  |mark x=>
    simp[ia]at f;rcases f with rfl|⟨w,rfl⟩
    · exact⟨λe d=>by simp[aK,MemAct.touch?]at d,by simp,by simp,by simp[aK,MemAct.low]⟩
    · exact⟨λe d=>by simp[aK,MemAct.touch?]at d,by simp,by simp,by simp[aK,MemAct.low]⟩
  |_=>exact f.elim
end
def m9(b:Trace):Prop:=∀a,NoRelease a b
def m9.app{o}(e:m9 o){C}{fn}{pos}{V}(i:∀d∈V,∀a,d.loc≠.mark (.release a)):m9 (o++MemOp.ofEvents C fn pos V):=
  λa=>(e a).app λg b f=>by grind[Go.Conc.mem_ofEvents,Go.ConcR.loc_of_ofEvent]
def Ul{a}(g:ia b a)(f):a.loc≠.mark (.release f):=by intro d;obtain⟨loc,wr,j⟩:=a;simp only at d;subst d;rcases g with e|⟨i,e⟩<;>cases e
def K3{a:aO}(e:a.mute=l)(d):a.loc≠.mark (.release d):=by intro b;obtain⟨loc,wr,f⟩:=a;simp only at b;subst b;simp[Event.mute]at e
def k2(P:aD)(r:ai)(f:a6)(o:ai->a6->Prop):Prop:=
  ∀(k:Nat->Prop) b dC g (s:Nat->Nat),gy f->b[0]?=h r->Leavers P g b s->Past (jH k) f.a.heap.size g->g1 k f->m9 g ->
    ∃(m:Nat) (j:Nat->Prop) (i:Array ai) (d:ai) (a:a6) (p:Option (Nat×Nat)) (e:Trace) (q:Nat->Nat),
      runNT P m (crowd b f.a dC) g=(.next (crowd i a.a p),e)/\gy a/\i[0]?=h d/\Leavers P e i q/\Past (jH j) a.a.heap.size e/\g1 j a/\m9 e/\o d a
def af.aC(P):af P:={b3:=l,rely:=λb a=>cX b a/\∃d,a={b with a:=b.a.at d},dm:=k2 P,bJ:=λe=>e.1,dN:=True}
instance (P:aD):(af.aC P).b1:=⟨B⟩
theorem El{P}:∀b a {e g:Machine} {i f:Trace},runNT P b e i=(.next g,f)->runNT P (b+a) e i=runNT P a g f
  |0,a,e,g,i,f,d=>by simp[runNT]at d;grind
  |b+1,a,e,g,i,f,d=>by
    rw[show b+1+a=(b+a)+1 by omega];simp[runNT]at d⊢;cases k:stepT P e with
    |mk o j=>
      rw[k]at d;cases o with
      |next m=>exact El b a d
      |ended p q=>grind
def k2.trans{r:ai->a6->Prop}(B:k2 P C b r)(I:∀a d,r a d->k2 P a d br):k2 P C b br:=by intro x e dC S Q m f i j k o;obtain⟨t,F,w,a,d,z,O,V,D,g,U,N,T,J,E,R⟩:=B x e dC S Q m f i j k o;obtain⟨s,u,y,K,q,A,t2,p,k1,M⟩:=I a d R F w z O V g U N T J E;exact⟨t+s,u,y,K,q,A,t2,p,by grind[El],M⟩
def k2.jQ{ac:ai->a6->Prop}(az:C.status=.running)(S:∀(r:Nat->Prop) d E dC f (i:Nat->Nat),gy b->d[0]?=h C->Leavers P f d i->Past (jH r) b.a.heap.size f->g1 r b->m9 f ->
      ∃I G A e,runT P (crowd d (b.a.at E) dC) 0=(.next (crowd I A.a dC),e)/\gy A/\I[0]?=h G/\Leavers P (f++e) I i/\Past (jH r) A.a.heap.size (f++e)/\g1 r A/\m9 (f++e)/\ac G A):k2 P C b ac:=by
  intro r d dC f i;have key:∀X d E dC f (i:Nat->Nat),Go.ConcN.sumTo d.size i<=X->gy b->d[0]?=h C->Leavers P f d i->Past (jH r) b.a.heap.size f->g1 r b->m9 f ->
      ∃(Z:Nat) (W:Nat->Prop) (J:Array ai) (j:ai) (m:a6) (B:Option (Nat×Nat)) (R:Trace) (Y:Nat->Nat),
        runNT P Z (crowd d (b.a.at E) dC) f=(.next (crowd J m.a B),R)/\gy m/\J[0]?=h j/\Leavers P R J Y/\Past (jH W) m.a.heap.size R/\g1 W m/\m9 R/\ac j m:=by
    intro X;induction X with
    |zero=>?_
    |succ X ao=>?_
    all_goals
      intro d E dC f i aF x s k t u o;have aq:∀C∈d,awake C:=by
        intro z aB;obtain⟨g,q,rfl⟩:=Array.mem_iff_getElem.1 aB;rcases n9 g with rfl|ae
        · grind[awake_of]
        · exact awake_of ((k.old g _ ae (iR q)).status.elim .inl λz=>.inr (.inr z))
      obtain⟨g,z,d2,B,q,aM,ag⟩:=crowd_pick (P:=P) (w:=b.a.at E) (sl:=dC) aq ⟨0,C,s,az⟩;rw[show(b.a.at E).at d2=b.a.at d2 from a]at ag;rcases n9 g with rfl|ae
      · obtain⟨I,G,A,e,k1,L,av,ab,aw⟩:=S r d d2 B f i x s k t u o
        exact⟨1,r,I,G,A,B,f++e,i,by simp[runNT,ag,k1],L,av,ab,aw⟩
      · have T:=k.old g z ae q
        have ar:(g==0)=v:=N;have H:g<d.size:=(jl.1 q).1;cases ak:i g with
        |zero=>rw[ak]at T;rw[T.1]at aM;cases aM
        |succ F=>
          rw[ak]at T;rcases T with⟨aE,_⟩|⟨_,j,V,y,an,aK⟩
          · grind
          have aI:Go.ConcN.sumTo d.size (Go.ConcN.upd i g F)+(F+1)=Go.ConcN.sumTo d.size i+F:=by have:=Go.ConcN.sumTo_upd i F id H;simpa[ak]using this
          first
          | (exfalso;omega)
          | (have aG:=runT_crowd_go (P:=P) (sl:=B) (i:=g) q (by rw[ar];exact an (b.a.at d2))
             have aJ:((d.map (woken P z j (b.a.at d2))).setIfInBounds g j).size=d.size:=D;obtain⟨Z,W,J,au,m,M,R,Y,k1,L⟩:=ao ((d.map (woken P z j (b.a.at d2))).setIfInBounds g j) d2 B (f++MemOp.ofEvents g z.frame.fn z.frame.place V) (Go.ConcN.upd i g F) N x
              (by grind[woken_run])
              ⟨λU aL K Q=>by
                by_cases ah:g=U
                · grind[Go.ConcN.upd_same,Deaf_own]
                · rw[sN ah,Array.getElem?_map]at Q
                  obtain⟨aH,ay,rfl⟩:=rk.1 Q;have al:=k.old U aH K ay;rw[woken_quitsD al,Go.ConcN.upd_ne i F (p' ah),Deaf_other f ah _ (λaf O=>by grind[Go.Conc.mem_ofEvents])];exact al,λU K=>by
                rw[Deaf_other f (g':=g) N _ (λaf O=>by grind[Go.Conc.mem_ofEvents])]
                exact k.above U N⟩
              (t.mute w y) u (o.app λaD aa aC=>K3 (y aD aa) aC)
             exact⟨Z+1,W,J,au,m,M,R,Y,by simp[runNT,ag,aG];exact k1,L⟩)
  intro x s k t u o;have:=key _ d b.a.drawn dC f i (bC _) x s k t u o
  rwa [show b.a.at b.a.drawn=b.a from a]at this
def _root_.Go.Conc.Leavers.own{d}{o}{m:Nat->Nat}(k:Leavers P o gs m){aR}(f:∀b∈aR,b.g=0)(t:0<gs.size):Leavers P (o++aR) ((gs.map (woken P C d p)).setIfInBounds 0 d) m:=
  ⟨λi u e g=>by
    have q:0≠i:=w;rw[sN q,Array.getElem?_map]at g;obtain⟨s,r,rfl⟩:=rk.1 g;have j:=k.old i s e r;rw[woken_quitsD j,Deaf_other o w _ (λb a=>f b a)];exact j,λi e=>by
    rw[Deaf_other o (g':=0) N _ (λb a=>f b a)]
    exact k.above i N⟩
def cj.aC{P:aD}{O:ai->a6->Prop}{C}{b}(E:cj (af.aC P) O C b):k2 P C b O:=by
  induction E with
  |stop E=>intro p k dC u t m f g i j o;exact⟨0,p,k,_,_,dC,u,t,a,m,f,g,i,j,o,E⟩
  |aP d _ r=>
    intro p k dC u t m f g i j o;have:=r p k dC u t (.aP d) f g (by rw[d.a];exact i) (j.aP d) o
    rwa [d.a]at this
  |b2 _ d _ r=>
    intro p k dC u t m f g i j o;have:=r p k dC u t (m.b2 d) f g (by rw[d.a];exact i) (j.b2 d) o
    rwa [d.a]at this
  |dm K _ r=>exact k2.trans K r
  |@step C b ab z W M F I _ r=>
    refine k2.trans (k2.jQ (ac:=λw A=>∃y,(af.aC P).rely b y/\w=ab y/\A=z y) M λp k q dC u t m f g i j x=>?_) λw A ⟨y,k1,Z,aa⟩=>by subst Z aa;exact r y k1
    have B:(af.aC P).rely b {b with a:=b.a.at q}:=⟨cX.at m q,q,rfl⟩;obtain⟨⟨ae,T,J,X,s⟩,S⟩:=I _ B;have V:=(jl.1 f).1;have R:g1 p {b with a:=b.a.at q}:=j.at q;exact⟨_,_,z {b with a:=b.a.at q},_,runT_crowd_go (P:=P) (sl:=dC) (i:=0) f (show ao P (0==0) C (b.a.at q)=_ from F _ B),X.mem,by grind,
      g.own (λY Q=>by grind[Go.Conc.mem_ofEvents]) V,((i.mono s.size).own λD N=>Uk J R (S D N) s.size),R.step s,x.app λD N U=>Ul (S D N) U,_,B,rfl,rfl⟩
inductive ct where
 |leaf
 |node (al:a6->ct)
def ct.lt:ct->ct->Prop
 |_,.leaf=>False
 |d,.node a=>∃b,d=a b∨ct.lt d (a b)
def ct.fs:∀f:ct,Acc ct.lt f
 |.leaf=>⟨_,λ_ b=>b.elim⟩
 |.node d=>⟨_,λ_ ⟨e,a⟩=>a.elim (λa=>a▸ct.fs (d e)) λb=>(ct.fs (d e)).inv b⟩
def ct.dG:Nat->ct
 |0=>.leaf
 |a+1=>.node λ_=>ct.dG a
def ct.gr(j)(b:a6):ct.lt (ct.dG j) (ct.dG (j+1)):=⟨b,.inl a⟩
def w6(e:Nat)(d y:Nat->ct):Prop:=∃a,a<e/\ct.lt (d a) (y a)/\∀b,b≠a->d b=y b
def NU:∀b,WellFounded (w6 b)
 |0=>⟨λ_=>⟨_,λ_ ⟨e,f,_⟩=>absurd f (iU e)⟩⟩
 |b+1=>by
  have m:=NU b;have key:∀d:ct,∀y:Nat->ct,y b=d->Acc (w6 (b+1)) y:=by
   intro d;induction ct.fs d with
   |intro d _ q=>
    intro y;induction m.apply y with
    |intro y _ k=>
     intro r;refine⟨_,λp f=>?_⟩;obtain⟨e,o,j,g⟩:=f;rcases dY e b with i|i
     .exact k p ⟨e,i,j,g⟩ N
     grind
  exact⟨λy=>key _ y a⟩
section
def gM(f:af P)(k:a6->a6->Array aO->Prop)(j:ai->a6->Prop):ct->ai->a6->Prop
 |.leaf,e,d=>j e d
 |.node m,e,d=>j e d∨(∃a,(e9 d a∨(f.dN/\nY d a))/\gM f k j (m d) e a) ∨
   (e.status=.running/\∀g,f.rely d g->∃i a b,ao P f.b3 e g.a=.go i a.a b/\(kH g a b∨k g a b)/\gM f k j (m g) i a)
variable {q:af P}{W:a6->a6->Array aO->Prop}{t:ai->a6->Prop}
def du(d:af P)(a:a6->a6->Array aO->Prop)(b:ai->a6->Prop)(e:ai)(g:a6):Prop:=∃f,gM d a b f e g
theorem du.aP(d:e9 b aE)(a:du q W br C aE):du q W br C b:=by obtain⟨e,a⟩:=a;exact⟨.node λ_=>e,.inr (.inl ⟨aE,.inl d,a⟩)⟩
def du.b2(a:q.dN)(e:nY b aE)(d:du q W br C aE):du q W br C b:=by obtain⟨f,d⟩:=d;exact⟨.node λ_=>f,.inr (.inl ⟨aE,.inr ⟨a,e⟩,d⟩)⟩
def du.step(o:C.status=.running)(j:∀e,q.rely b e->∃f a d,ao P q.b3 C e.a=.go f a.a d/\(kH e a d∨W e a d)/\du q W br f a):du q W br C b:=by
 classical
 have g:∀e,∃k:ct,q.rely b e->∃f a d,ao P q.b3 C e.a=.go f a.a d/\(kH e a d∨W e a d)/\gM q W br k f a:=by
  intro e;by_cases i:q.rely b e
  .obtain⟨f,a,d,c8,dG,k,m⟩:=j e i;exact⟨k,λ_=>⟨f,a,d,c8,dG,m⟩⟩
  exact⟨.leaf,λj=>absurd j i⟩
 exact⟨.node λe=>Classical.choose (g e),.inr (.inr ⟨o,λe i=>Classical.choose_spec (g e) i⟩)⟩
def du.bind(d:du q W br C b)(i:∀C b,br C b->du q W t C b):du q W t C b:=by
 obtain⟨j,d⟩:=d;induction j generalizing C b with
 |leaf=>exact i C b d
 |node p f=>
  rcases d with d|⟨k,a,e⟩|⟨g,d⟩
  .grind
  .rcases a with a|⟨gU,a⟩
   .exact .aP a (f _ e)
   exact .b2 gU a (f _ e)
  exact .step g λo m=>by grind
def cj.toW(r:∀C b p,¬q.dm C b p)(g:cj q br C b):du q W br C b:=by
 induction g with
 |stop g=>exact⟨.leaf,g⟩
 |step t u s m i j _ d=>exact .step m λf e=>⟨_,_,_,i f e,.inl (j f e),d f e⟩
 |aP a _ d=>exact .aP a d
 |b2 k a _ d=>exact .b2 k a d
 |dm o _ _=>grind
def gM.bc(m:a6->Prop)(C:∀f b,e9 f b->m f->m b)(A:q.dN->∀f b,nY f b->m f->m b):∀{D:ct}{r:ai}{f:a6},gM q W br D r f->m f ->
  (∃b,m b/\br r b)∨(r.status=.running/\∃b,m b/\∀k,q.rely b k->∃g i d o,ao P q.b3 r k.a=.go g i.a d/\(kH k i d∨W k i d)/\gM q W br o g i/\ct.lt o D)
 |.leaf,_,f,p,j=>.inl ⟨f,j,p⟩
 |.node E,r,f,p,j=>by
  rcases p with p|⟨b,x,y⟩|⟨I,p⟩
  .grind
  .have e:m b:=x.elim (λs=>C f b s j) λs=>A s.1 f b s.2 j;rcases gM.bc m C A y e with B|⟨B,i,F,J⟩
   .grind
   refine .inr ⟨B,i,F,λk z=>?_⟩;obtain⟨g,u,d,o,k1,t,w,K⟩:=J k z;exact⟨g,u,d,o,k1,t,w,f,.inr K⟩
  refine .inr ⟨I,f,j,λk z=>?_⟩;obtain⟨g,u,d,k1,t,w⟩:=p k z;exact⟨g,u,d,E k,k1,t,w,k,.inl a⟩
def du.goes{dm:au->au->Prop}{y:au->au->Array aO->Prop}{Stop:ai->au->Prop}(k:a6->Prop)(u:∀b d,k b->q.rely b d->k d)(p:∀b d,k b->q.rely b d->dm b.a d.a)(A:∀b e,k b->∀j,y b.a j e->j=b.a/\(kH b b e∨W b b e))(w:∀b,k b->q.rely b b)(x:∀g b,k b->Stop g b.a->du q W br g b):
  ∀r g b,k b->Goes P q.b3 dm y Stop r g b.a->du q W br g b
 |0,g,b,f,m=>x g b f (m b.a (p b b f (w b f)))
 |r+1,g,b,f,m=>by
  rcases m with m|⟨D,m⟩
  .grind
  refine .step D λd z=>?_;have i:=m d.a (p b d f z);have s:=u b d f z;cases t:ao P q.b3 g d.a with
  |go o j e=>
   rw[t,goes_go]at i;obtain⟨C,E⟩:=i;obtain⟨rfl,B⟩:=A d e s j C;exact⟨o,d,e,a,B,du.goes k u p A w x r o d s E⟩
  |_=>rw[t]at i;exact i.elim
end
theorem cX.aP(g:cX b {b with a:=p})(f:e9 b aE):cX aE {aE with a:=p}:=by
 refine⟨a,a,a,by rw[f.a];exact g.size,λd e=>by rw[f.a];exact g.a7 d (f.blk d e),λd i j k=>?_,by rw[f.a];exact g.os,by rw[f.a];exact g.tape,by rw[f.a];exact g.output⟩;have o:=f.cell d i j k;by_cases e:∃L∈b.s,d∈L.aj
 .have:=g.a7 d (.inr e);simp only[aI]at o⊢;grind
 have:b.D d i=h j:=by rw[<-f.bA d (λL q m=>e ⟨L,q,m⟩)];exact k
 exact g.mem d i j this
def cX.b2(d:cX b {b with a:=p})(a:nY b aE):cX aE {aE with a:=p}:=
 ⟨rfl,rfl,rfl,by rw[a.a];exact d.size,λe f=>by rw[a.a];exact d.a7 e (by rw[<-a.own,<-a.s];exact f),λe g i j=>d.mem e g i (a.e9 e g i j),by rw[a.a];exact d.os,by rw[a.a];exact d.tape,by rw[a.a];exact d.output⟩
def cX.er(a:gy b):cX b b:=⟨rfl,rfl,rfl,bC _,λ_ _=>rfl,a,rfl,rfl,rfl⟩
def cX.fT(a:cX b {b with a:=p}):cX {b with a:=p} {b with a:=p}:=cX.er a.mem
def cX.trans{b g b6}(a:cX b g)(d:cX g b6):cX b b6:=
 ⟨d.s.trans a.s,d.D.trans a.D,d.own.trans a.own,e3 a.size d.size,λf e=>by rw[d.a7 f (by rw[a.own,a.s];exact e),a.a7 f e],λf j k i=>d.mem f j k (by rw[a.D];exact i),d.os.trans a.os,d.tape.trans a.tape,d.output.trans a.output⟩
end
section
open Go.Conc
open Go.ConcN (fork_knows RelBy)
open Go.ConcR (stA smA)
def ie:Go.Loc->Option Nat
 |.cell a=>h a.block
 |.obj b=>h b
 |_=>n
def KS{d}(b:d.isMemory=l):∃a,ie d=h a:=by cases d<;>simp[Go.Loc.isMemory]at b<;>exact⟨_,rfl⟩
def aen{d:MemAct}{e}{bU}(b:d.touch?=h e)(f:d.low bU)(a:ie e.loc=h i):i<bU:=by
 cases d with
 |access g=>
  simp[MemAct.touch?]at b;subst b;simp only at a;obtain⟨loc,wr,k⟩:=g;cases loc<;>simp[ie]at a<;>subst a<;>exact f
 |mark j=>
  cases j<;>simp[MemAct.touch?]at b<;>subst b<;>simp[ie]at a<;>subst a<;>exact f
 |_=>exact cV
structure hP where
 bz:Nat->Prop
 bP:Nat
 h:Nat
 af:Nat
 base:Nat
 aJ:Nat
def oZ(d:hP)(f:Nat->Nat)(e:Touch):Prop:=
 (∃a,e.loc=.cell a/\a.block=d.h/\e.kind≠.plain)∨(∃b,ie e.loc=h b/\f b=0/\b≠d.h/\b≠d.af/\¬d.bz b/\e.kind=.plain)
def n3(b:hP)(i:Nat->Nat)(j:Mem)(g:Nat)(a:Touch):Prop:=
 (∃e,a.loc=.cell e/\e.block=b.h/\a.kind=.atomic) ∨
 (a.kind=.plain/\((∃f,ie a.loc=h f/\i f=b.base+g)∨(∃d,a.loc=.cell ⟨b.af,d,n⟩/\b.aJ*g<=d/\d<b.aJ*g+b.aJ)∨(a.write=v/\∃f d k,a.loc=.cell ⟨f,d,n⟩/\j f d=h k)))
structure fL(K:hP)(O:Nat->Nat)(al:Nat->Mem)(o:Trace)(u bU:Nat):Prop where
 base:1<=K.base
 db:O K.h=0
 da:O K.af=0
 bZ:K.af≠K.h
 dT:¬K.bz K.h
 ew:¬K.bz K.af
 ev:∀i,K.bz i->O i=0
 bC:∀E,E<u->∀i r aa,al E i r=h aa->O i=0/\i≠K.af/\i≠K.h/\¬K.bz i
 bP:K.bP<=o.size
 ek:∀said,¬Race said o
 seen:∀op∈o,op.act.low bU
 old:∀e x,e<K.bP->touchAt o e=h x->x.loc.isMemory=l->Knows o 0 e∨(jH K.bz x.loc/\x.kind=.atomic)
 ee:∀E,E<u->∀e x,e<K.bP->touchAt o e=h x->x.loc.isMemory=l->Knows o (K.base+E) e∨(jH K.bz x.loc/\x.kind=.atomic)
 eK:∀e x i,e<K.bP->touchAt o e=h x->ie x.loc=h i->O i=0
 new:∀e x,K.bP<=e->touchAt o e=h x->x.loc.isMemory=l->(o.g? e=h 0/\oZ K O x)∨(∃E,E<u/\o.g? e=h (K.base+E)/\n3 K O (al E) E x)
 eg:∀E,E<u->∀e x,K.bP<=e->touchAt o e=h x->o.g? e=h 0->x.write=l->∀i r aa,x.loc=.cell ⟨i,r,n⟩->al E i r=h aa->Knows o (K.base+E) e
 over:∀e C,e<K.bP->o.g? e=h C->C≠0->o.counts e->∃f,o.g? f=h 0/\HappensBefore o e f
section
variable {K:hP}{O et:Nat->Nat}{al:Nat->Mem}{o bA:Trace}{bU ed:Nat}
theorem zQ{a}{C}(f:touchAt o e=h a)(b:o.g? e=h C):Knows o C e:=by
 obtain⟨g,d,_⟩:=touch_of f;have:g.g=C:=by simpa[Trace.g?,d]using b
 grind[knows_own]
def fL.low(j:fL K O al o u bU){b}(f:touchAt o e=h b)(a:ie b.loc=h i):i<bU:=by obtain⟨k,g,d⟩:=touch_of f;exact aen d (j.seen k (uI g)) a
def fL.eO(d:fL K O al o u bU)(e:∀b,b<bU->et b=O b)(aJ:bU<=ed)(B:K.h<bU)(t:K.af<bU)(C:∀b,K.bz b->b<bU)(D:∀g,g<u->∀b r s,al g b r=h s->b<bU):fL K et al o u ed:=by
 have F:∀k f,touchAt o k=h f->oZ K O f->oZ K et f:=λk f m a=>by
  rcases a with a|⟨b,a,i,z⟩
  .exact .inl a
  exact .inr ⟨b,a,by rw[e b (d.low m a)];exact i,z⟩
 have E:∀g k f,touchAt o k=h f->n3 K O (al g) g f->n3 K et (al g) g f:=λg k f m a=>by
  rcases a with a|⟨y,⟨b,a,i⟩|a⟩
  .exact .inl a
  .exact .inr ⟨y,.inl ⟨b,a,by rw[e b (d.low m a)];exact i⟩⟩
  exact .inr ⟨y,.inr a⟩
 refine⟨d.base,by rw[e _ B];exact d.db,by rw[e _ t];exact d.da,d.bZ,d.dT,d.ew,λb j=>by rw[e b (C b j)];exact d.ev b j,λg A b r s x=>by rw[e b (D g A b r s x)];exact d.bC g A b r s x,
  d.bP,d.ek,λw q=>MemAct.low_mono aJ (d.seen w q),d.old,d.ee,λk f b p m j=>by rw[e b (d.low m j)];exact d.eK k f b p m j,λk f p m O=>?_,d.eg,d.over⟩
 rcases d.new k f p m O with⟨a,i⟩|⟨g,a,i,z⟩
 .grind
 grind
def fL.fw(a:fL K O al o u bU):K.bP<=(o++bA).size:=e3 a.bP D
theorem ol(a:e<o.size):(o++bA).g? e=o.g? e:=by simp[Trace.g?,getElem?_append_old a]
def fL.fN(p:fL K O al o u bU)(bA):∀a g,a<K.bP->(o++bA).g? a=h g->g≠0->(o++bA).counts a->∃f,(o++bA).g? f=h 0/\HappensBefore (o++bA) a f:=by
 intro a g d b e j;have m:=eE d p.bP;rw[ol m]at b;obtain⟨f,k,i⟩:=p.over a g d b e ((counts_old m).1 j);have q:f<o.size:=by unfold Trace.g? at k;grind
 exact⟨f,by grind[ol],hb_app bA i⟩
def MN{a:Nat->Prop}{d}(e:jH a d)(b:ie d=h i):a i:=by cases d<;>simp[ie]at b<;>subst b<;>exact e
def fL.eC(s:fL K O al o u bU){b}(k:b<u){a i}{said}(aZ:oZ K O i)(j:n3 K O (al b) b a)(gU:a.loc=i.loc)(g:a.kind=.plain∨i.kind=.plain∨(said=l/\a.kind=.said/\i.kind=.said))(q:i.kind=.plain->i.write=l->∀C r aa,i.loc=.cell ⟨C,r,n⟩->al b C r≠h aa)(p:a.write=l∨i.write=l):False:=by
 have m:=s.base;rcases j with⟨e,dM,e',jU⟩|⟨w,⟨t,dM,e'⟩|⟨r,dM,_⟩|⟨dM,C,r,aa,e',jU⟩⟩
 .rcases aZ with⟨d,f1,f2,f3⟩|⟨t,f1,f2,f3,_⟩
  .grind
  exact Rt
 .rcases aZ with⟨d,f1,f2,f3⟩|⟨f,f1,f2,f3,_⟩
  .rw[gU,f1]at dM;exact RP
  grind
 .rcases aZ with⟨d,f1,f2,f3⟩|⟨f,f1,f2,f3,f4,_⟩
  .rw[<-gU,dM]at f1;cases f1;exact s.bZ f2
  exact Rt
 obtain⟨A,x,y,z⟩:=s.bC b k C r aa jU;rcases aZ with⟨d,f1,f2,f3⟩|⟨f,f1,f2,f3,f4,_,f5⟩
 .grind
 grind
def fL.app0(s:fL K O al o u bU)(C:∀a∈bA,a.g=0)(B:∀a∈bA,a.act.low bU)(y:∀a∈bA,∀b,a.act.touch?=h b->b.loc.isMemory=l->oZ K O b)(T:∀a∈bA,∀b,a.act.touch?=h b->b.kind=.plain->b.write=l->∀j,j<u->∀k t w,b.loc=.cell ⟨k,t,n⟩->al j k t≠h w):fL K O al (o++bA) u bU:=by
 have E:∀{d:Nat} {b:Touch},touchAt (o++bA) d=h b->(d<o.size/\touchAt o d=h b)∨(o.size<=d/\(o++bA).g? d=h 0/\∃a∈bA,a.act.touch?=h b):=by
  intro d b f;obtain⟨j,p,W⟩:=touch_of f;rcases getElem?_append_cases p with⟨bp,G⟩|⟨bp,N⟩
  .grind [touchAt_of]
  exact .inr ⟨bp,by simp[Trace.g?,p,C j N],j,N,W⟩
 refine⟨s.base,s.db,s.da,s.bZ,s.dT,s.ew,s.ev,s.bC,s.fw,λsaid=>?_,seen_app s.seen B,λd b bp f O=>?_,λj p d b bp f O=>?_,λd b k bp f q=>?_,λd b bp f O=>?_,λj p d b bp f x M k t w I D=>?_,s.fN bA⟩
 .refine noRace_append (s.ek said) C λd b f a g k q e=>?_;have V:k.loc.isMemory=l:=by rw[<-e.1];exact e.2.1
  have aZ:=y a g k q V;rcases dY d K.bP with bp|bp
  .rcases s.old d b bp f e.2.1 with b3|⟨av,L⟩
   .exact b3
   exfalso;obtain⟨X,r⟩:=KS e.2.1;have Q:=MN av r;rcases aZ with⟨z,dM,e',jU⟩|⟨H,dM,e',jU,F,bB,S⟩
   .rw[e.1,dM]at r;simp[ie,e_]at r;rw[<-r,e']at Q;exact s.dT Q
   rw[e.1,dM]at r;grind
  rcases s.new d b bp f e.2.1 with⟨x,_⟩|⟨j,p,x,R⟩
  .grind [zQ]
  exact(s.eC p aZ R e.1 e.2.2.2 (λm i=>T a g k q m i j p) e.2.2.1).elim
 .have A:touchAt o d=h b:=FY;exact(s.old d b bp A O).imp (·.app bA) id
 .have A:touchAt o d=h b:=FY;exact(s.ee j p d b bp A O).imp (·.app bA) id
 .have A:touchAt o d=h b:=FY;exact s.eK d b k bp A q
 .rcases E f with⟨m,i⟩|⟨_,i,a,g,J⟩
  .rw[ol m];exact s.new d b bp i O
  grind
 rcases E f with⟨m,i⟩|⟨_,i,a,g,J⟩
 .rw[ol m]at x;exact(s.eg j p d b bp i x M k t w I D).app bA
 exfalso;rcases y a g b J hI with⟨z,dM,e',jU⟩|⟨H,_,_,_,_,_,S⟩
 .rw[I]at dM;cases dM;exact(s.bC j p k t w D).2.2.1 e'
 grind
def fL.h6(s:fL K O al o u bU){r}(E:r<u)(U:∀k∈bA,k.g=K.base+r)(S:∀k∈bA,k.act.low bU)(ae:∀k∈bA,∀d,k.act.touch?=h d->d.loc.isMemory=l->n3 K O (al r) r d):fL K O al (o++bA) u bU:=by
 have W:=s.base;have X:∀{e:Nat} {d:Touch},touchAt (o++bA) e=h d->(e<o.size/\touchAt o e=h d)∨(o.size<=e/\(o++bA).g? e=h (K.base+r)/\∃k∈bA,k.act.touch?=h d):=by
  intro e d j;obtain⟨w,x,aa⟩:=touch_of j;rcases getElem?_append_cases x with⟨bp,ao⟩|⟨bp,M⟩
  .grind [touchAt_of]
  exact .inr ⟨bp,by simp[Trace.g?,x,U w M],w,M,aa⟩
 refine⟨s.base,s.db,s.da,s.bZ,s.dT,s.ew,s.ev,s.bC,s.fw,λsaid=>?_,seen_app s.seen S,λe d bp j O=>?_,λw x e d bp j O=>?_,λe d F bp j C=>?_,λe d bp j O=>?_,λw x e d bp j J T F i m R N=>?_,s.fN bA⟩
 .refine noRace_append (s.ek said) U λe d j k z F C g=>?_;have H:F.loc.isMemory=l:=by rw[<-g.1];exact g.2.1
  have aZ:=ae k z F C H;obtain⟨ar,t⟩:=KS g.2.1;rcases dY e K.bP with bp|bp
  .rcases s.ee r E e d bp j g.2.1 with D|⟨af,aq⟩
   .exact D
   exfalso;have B:=MN af t;rw[g.1]at t;rcases aZ with⟨Q,dM,e',jU⟩|⟨ac,⟨ah,dM,e'⟩|⟨i,dM,_⟩|⟨dM,A,i,m,e',jU⟩⟩
   .rw[dM]at t;simp[ie,e_]at t;rw[<-t,e']at B;exact s.dT B
   .rw[dM]at t;simp[e_]at t;rw[<-t]at B;rw[s.ev _ B]at e';omega
   .rw[dM]at t;simp[ie,e_]at t;rw[<-t]at B;exact s.ew B
   rw[e']at t;simp[ie,e_]at t;rw[<-t]at B;exact(s.bC r E A i m jU).2.2.2 B
  rcases s.new e d bp j g.2.1 with⟨J,G⟩|⟨w,x,J,L⟩
  ·
   by_cases y:d.write=l/\∃A i m,d.loc=.cell ⟨A,i,n⟩/\al r A i=h m
   .obtain⟨f,A,i,m,p,br⟩:=y;exact s.eg r E e d bp j J f A i m p br
   exfalso;refine s.eC (said:=said) E G aZ g.1.symm ?_ (λ_ Z A i m q N=>y ⟨Z,A,i,m,q,N⟩) g.2.2.1.symm;rcases g.2.2.2 with D|D|⟨f,p,br⟩
   .grind
   .grind
   grind
  by_cases Y:w=r
  .grind [zQ]
  exfalso;obtain⟨q,_,T,ak⟩:=g;rcases L with⟨Q,dM,e',jU⟩|⟨ac,⟨hi,dM,e'⟩|⟨i,dM,V,an⟩|⟨dM,A,i,m,e',jU⟩⟩
  .rcases aZ with⟨b,f1,f2,f3⟩|⟨f0,⟨iV,f1,f2⟩|⟨i,f1,_⟩|⟨f1,A,i,m,f2,f3⟩⟩
   .grind
   .rw[<-q,dM]at f1;simp[ie,e_]at f1;rw[<-f1,e',s.db]at f2;omega
   .rw[<-q,dM]at f1;cases f1;exact s.bZ e'
   rw[<-q,dM]at f2;cases f2;exact(s.bC r E A i m f3).2.2.1 e'
  .rcases aZ with⟨b,f1,f2,f3⟩|⟨f0,⟨iV,f1,f2⟩|⟨i,f1,_⟩|⟨f1,A,i,m,f2,f3⟩⟩
   .rw[q,f1]at dM;exact RP
   .grind
   .rw[q,f1]at dM;simp[ie,e_]at dM;rw[<-dM,s.da]at e';omega
   rw[q,f2]at dM;simp[ie,e_]at dM;rw[<-dM,(s.bC r E A i m f3).1]at e';omega
  .rcases aZ with⟨b,f1,f2,f3⟩|⟨f0,⟨iV,f1,f2⟩|⟨av,f1,P,ab⟩|⟨f1,A,av,m,f2,f3⟩⟩
   .rw[<-q,dM]at f1;cases f1;exact s.bZ f2
   .rw[<-q,dM]at f1;simp[ie,e_]at f1;rw[<-f1,s.da]at f2;omega
   .rw[<-q,dM]at f1;cases f1;rcases Nat.lt_or_gt_of_ne Y with f|f
    .have:=xc K.aJ (show w+1<=r from f);grind
    have:=xc K.aJ (show r+1<=w from f);grind
   rw[<-q,dM]at f2;cases f2;exact(s.bC r E _ _ m f3).2.1 a
  rcases aZ with⟨b,f1,f2,f3⟩|⟨f0,⟨iV,f1,f2⟩|⟨av,f1,P,ab⟩|⟨f1,ag,av,ai,f2,f3⟩⟩
  .rw[<-q,e']at f1;cases f1;exact(s.bC w x A i m jU).2.2.1 f2
  .rw[<-q,e']at f1;simp[ie,e_]at f1;rw[<-f1,(s.bC w x A i m jU).1]at f2;omega
  .rw[<-q,e']at f1;cases f1;exact(s.bC w x _ _ m jU).2.1 a
  grind
 .have I:touchAt o e=h d:=FX;exact(s.old e d bp I O).imp (·.app bA) id
 .have I:touchAt o e=h d:=FX;exact(s.ee w x e d bp I O).imp (·.app bA) id
 .have I:touchAt o e=h d:=FX;exact s.eK e d F bp I C
 .rcases X j with⟨f,p⟩|⟨_,p,k,z,aM⟩
  .rw[ol f];exact s.new e d bp p O
  grind
 rcases X j with⟨f,p⟩|⟨_,p,_⟩
 .rw[ol f]at J;exact(s.eg w x e d bp p J T F i m R N).app bA
 grind
def fL.mute(b:fL K O al o u bU){C}(z:∀g∈bA,g.g=C)(k:∀g∈bA,g.act.low bU)(t:∀g∈bA,g.act.touch?=n):fL K O al (o++bA) u bU:=by
 have old:∀{d:Nat} {e:Touch},touchAt (o++bA) d=h e->d<o.size/\touchAt o d=h e:=by intro d e f;obtain⟨E,D,B⟩:=touch_of f;grind[touchAt_of]
 refine⟨b.base,b.db,b.da,b.bZ,b.dT,b.ew,b.ev,b.bC,b.fw,λsaid=>noRace_append (b.ek said) z λd e _ g q j i _=>N,seen_app b.seen k,λd e a f O=>(b.old d e a (old f).2 O).imp (·.app bA) id,
  λp m d e a f O=>(b.ee p m d e a (old f).2 O).imp (·.app bA) id,λd e j a f i=>b.eK d e j a (old f).2 i,λd e a f O=>?_,λp m d e a f r w j x A s y=>?_,b.fN bA⟩
 .rw[ol (old f).1];exact b.new d e a (old f).2 O
 rw[ol (old f).1]at r;exact(b.eg p m d e a (old f).2 r w j x A s y).app bA
def fL.gh(g:fL K O al o u bU){q r}(R:q.g=0/\q.act=.go (K.base+u))(E:r.g=K.base+u/\r.act=.start)(F:Deaf o 0=0)(z:Deaf o (K.base+u)=0)(V:∀e t x,al u e t=h x->O e=0/\e≠K.af/\e≠K.h/\¬K.bz e):fL K O al (o++#[q,r]) (u+1) bU:=by
 have y:∀f∈#[q,r],f.act.touch?=n:=by
  intro f a;simp[List.mem_toArray,eT,rq,or_false]at a;rcases a with rfl|rfl
  .exact hI
  exact hI
 have M:∀f∈#[q,r],f.act.low bU:=by
  intro f a;simp[List.mem_toArray,eT,rq,or_false]at a;rcases a with rfl|rfl
  .exact hI
  exact hI
 have old:∀{i:Nat} {k:Touch},touchAt (o++#[q,r]) i=h k->i<o.size/\touchAt o i=h k:=by intro i k m;obtain⟨p,D,T⟩:=touch_of m;grind[touchAt_of]
 have j:∀p,p<u+1->∀e t x,al p e t=h x->O e=0/\e≠K.af/\e≠K.h/\¬K.bz e:=λp D e t x A=>by
  rcases dY p u with b|b
  .exact g.bC p b e t x A
  grind
 refine⟨g.base,g.db,g.da,g.bZ,g.dT,g.ew,g.ev,j,g.fw,λsaid=>?_,seen_app g.seen M,λi k d m O=>(g.old i k d (old m).2 O).imp (·.app _) id,
  λp D i k d m O=>?_,λi k e d m s=>g.eK i k e d (old m).2 s,λi k d m O=>?_,λp D i k d m B S e t x Q A=>?_,g.fN _⟩
 .have I:o++#[q,r]=(o++#[q])++#[r]:=N;rw[I];refine noRace_append (g:=K.base+u) (noRace_append (g:=0) (g.ek said) (λf a=>by grind) (λi k _ f a e s _=>N)) (λf a=>by grind) (λi k _ f a e s _=>?_);grind
 .rcases dY p u with b|b
  .exact(g.ee p b i k d (old m).2 O).imp (·.app _) id
  obtain rfl:p=u:=w;exact(g.old i k d (old m).2 O).imp (fork_knows R E F z) id
 .rw[ol (old m).1];rcases g.new i k d (old m).2 O with b|⟨p,b,J⟩
  .grind
  grind
 rw[ol (old m).1]at B;rcases dY p u with b|b
 .exact(g.eg p b i k d (old m).2 B S e t x Q A).app _
 obtain rfl:p=u:=w;exact fork_knows R E F z (zQ (old m).2 B)
def fL.jE(g:fL K O al o u bU)(H:Deaf o 0=0)(z:NoRelease (stA K.h) o){bm}(F:o.act? bm=h (.mark (.acquire (stA K.h))))(C:o.g? bm=h 0)(E:o.heard bm)(J:∀d,d<u->∃j,RelBy (stA K.h) o (K.base+d) j/\j<bm):Past (jH λp=>K.bz p∨p=K.h) bU o:=by
 have B:∀d,d<u->∀a,o.g? a=h (K.base+d)->o.counts a->HappensBefore o a bm:=by
  intro d r a i m;obtain⟨j,s,R⟩:=J d r;have S:HappensBefore o j bm:=.single (.inr ⟨.marked R (.inr s.act) F (λU _ _=>z U),s.heard,E⟩);have L:a<=j:=Nat.le_of_not_lt λA=>s.after a A i m;rcases dY a j with A|G
  .exact .trans (.single (.inl ⟨A,_,i,s.g⟩)) S
  grind
 have V:∀{t:Go.Loc},jH K.bz t->jH (λp=>K.bz p∨p=K.h) t:=λ{t} q=>by cases t<;>first|exact .inl q|exact q
 refine⟨g.ek,λa f k O=>?_,λa T i M m=>?_,H,g.seen⟩
 .rcases dY a K.bP with b|b
  .exact(g.old a f b k O).imp id λ⟨e,w⟩=>⟨V e,w⟩
  rcases g.new a f b k O with⟨e,_⟩|⟨d,r,i,aZ⟩
  .grind [zQ]
  rcases aZ with⟨Q,dM,e',jU⟩|⟨bB,_⟩
  .exact .inr ⟨by rw[dM];exact .inr e',jU⟩
  left;have m:o.counts a:=⟨f,k,O,.inl N⟩
  obtain⟨W,I,D⟩:=rk.1 C;exact⟨bm,W,I,D,.inr (B d r a i m)⟩
 rcases dY a K.bP with b|b
 .exact g.over a T b i M m
 obtain⟨f,k,O,x⟩:=m;rcases g.new a f b k O with⟨e,_⟩|⟨d,r,y,aZ⟩
 .grind
 exact⟨bm,C,B d r a y ⟨f,k,O,x⟩⟩
def fL.start{K}{o}{bU}{m:Nat->Mem}(d:Past (jH K.bz) bU o)(aZ:K.bP=o.size)(g:1<=K.base)(f:K.af≠K.h)(s:¬K.bz K.h)(q:¬K.bz K.af):fL K (λ_=>0) m o 0 bU:=
 ⟨g,rfl,rfl,f,s,q,λ_ _=>rfl,λb a=>absurd a (iU b),by omega,d.clean,d.seen,λe j _ i k=>d.known e j i k,λb a=>absurd a (iU b),λ_ _ _ _ _ _=>rfl,
  λe j r i _=>by
   obtain⟨b,a,_⟩:=touch_of i
   grind,λb a=>absurd a (iU b),λe p _ t f u=>d.over e p t f u⟩
end
end
section
open Go.Conc
open Go.ConcN (WD CTag Mode Vc Ssum pend phi cnt WgLive PayAt Has RW DWs WSit RelBy sumTo upd upd_same upd_ne AtR0 get_map_set get_map_set_same norel_of Deaf_still)
open Go.ConcR (KK WgAt stA smA rd wr mk Payload g_of_ofEvents)
def af.c7(P):af P:={b3:=v,rely:=cX,dm:=λ_ _ _=>False,bJ:=id,dN:=True}
def af.aH(P)(d:ak)(a:Nat):af P:={b3:=l,rely:=λe b=>cX e b/\(WgLive d a e.a->WgLive d a b.a),dm:=λ_ _ _=>False,bJ:=λf=>f.1,dN:=False}
instance (P:aD):(af.c7 P).b1:=⟨B⟩
def eR:a6->a6->Array aO->Prop:=λ_ _ _=>False
def dQ(b:Nat):a6->a6->Array aO->Prop:=λf e a=>e=f/\∃d:Addr,d.block=b/\(a=#[mk (.read d)]∨a=#[mk (.write d)])
def pZ:Nat->Go.Loc->Prop:=λ_ _=>False
variable [Payload]
structure SB(M F fb f:Nat)(z:Nat->X)(p bi:au):Prop where
 tape:bi.tape=p.tape
 os:bi.os=p.os
 output:bi.output=p.output
 size:bi.heap.size=p.heap.size
 block:∀i,i≠M->bi.heap[i]?=p.heap[i]?
 bQ:PayAt M F bi
 hz:∀r,(r<fb∨fb+f<=r)->bi.cell? ⟨M,r,n⟩=p.cell? ⟨M,r,n⟩
 new:∀e,e<f->bi.cell? ⟨M,fb+e,n⟩=h (z e)
section
variable (P:aD)(ty:ak)(K:hP)(F:Nat)(val:Nat->Nat->X)
def us(a:Nat)(f:ai)(g:a6):Prop:=
 f.status=.running/\∀w1,cX g {g with a:=w1}->PayAt K.af F w1->WgLive ty K.h w1 ->
  ∃d w2 b,ao P v f w1=.go d w2 b/\SB K.af F (K.aJ*a) K.aJ (val a) w1 w2/\(∀i∈b,∃e,i=⟨.cell ⟨K.af,e,n⟩,l,v⟩/\K.aJ*a<=e/\e<K.aJ*a+K.aJ) /\
   ∃j,Goes P v (RW ty K.h K.af F 0 (K.aJ*a)) Go.ConcR.DC0 (AtR0 P ty K.h K.af F 0 (K.aJ*a+1) (val a 0)) j d w2
end
structure hE(al:Nat->Nat)(ba:Mem)(C:Nat)(b:a6):Prop where
 blk:∀i,(b.own i∨∃L∈b.s,i∈L.aj)->al i=C/\i<b.a.heap.size
 D:∀i r aa,b.D i r=h aa->(al i=C∨ba i r=h aa)/\i<b.a.heap.size
structure gx(K:hP)(al:Nat->Nat)(R:Nat->Mem)(u:Nat)(b:a6):Prop where
 blk:∀i,(b.own i∨∃L∈b.s,i∈L.aj)->al i=0/\i≠K.af/\i≠K.h/\¬K.bz i/\i<b.a.heap.size
 D:∀i r aa,b.D i r=h aa->al i=0/\i≠K.af/\i≠K.h/\¬K.bz i/\i<b.a.heap.size
 bC:∀E,E<u->∀i r aa,R E i r=h aa->b.D i r=h aa
structure lJ(K:hP)(al:Nat->Nat)(ba:Mem)(bv:Nat)(p bi:au):Prop where
 size:p.heap.size<=bi.heap.size
 blk:∀i,i<p.heap.size->al i=K.base+bv->bi.heap[i]?=p.heap[i]?
 cell:∀i r aa,ba i r=h aa->p.cell? ⟨i,r,n⟩=h aa->bi.cell? ⟨i,r,n⟩=h aa
 bQ:∀r,K.aJ*bv<=r->r<K.aJ*bv+K.aJ->bi.cell? ⟨K.af,r,n⟩=p.cell? ⟨K.af,r,n⟩
 os:bi.os=p.os
 tape:bi.tape=p.tape
 output:bi.output=p.output
omit [Payload]in
def lJ.refl(K)(a:Nat->Nat)(d)(bv)(p):lJ K a d bv p p:=⟨bC _,λ_ _ _=>rfl,λ_ _ _ _ b=>b,λ_ _ _=>rfl,rfl,rfl,rfl⟩
omit [Payload]in
def lJ.at(K)(b:Nat->Nat)(e)(bv)(p)(a):lJ K b e bv p (p.at a):=⟨bC _,λ_ _ _=>rfl,λ_ _ _ _ d=>d,λ_ _ _=>rfl,rfl,rfl,rfl⟩
structure ri(K:hP)(al:Nat->Nat)(p bi:au):Prop where
 size:p.heap.size<=bi.heap.size
 blk:∀i,i<p.heap.size->al i=0->i≠K.af->i≠K.h->bi.heap[i]?=p.heap[i]?
 os:bi.os=p.os
 tape:bi.tape=p.tape
 output:bi.output=p.output
omit [Payload]in
def ni(a:bi.heap[i]?=p.heap[i]?)(r):bi.cell? ⟨i,r,n⟩=p.cell? ⟨i,r,n⟩:=by simp[aI,a]
omit [Payload]in
def cX.eF(e:cX b {b with a:=p})(q:p.heap.size<=bi.heap.size)(k:∀d,(b.own d∨∃L∈b.s,d∈L.aj)->bi.heap[d]?=p.heap[d]?)(a:∀d f g,b.D d f=h g->p.cell? ⟨d,f,n⟩=h g->bi.cell? ⟨d,f,n⟩=h g)(m:bi.os=p.os)(o:bi.tape=p.tape)(r:bi.output=p.output):cX b {b with a:=bi}:=
 ⟨rfl,rfl,rfl,e3 e.size q,λd i=>by show bi.heap[d]?=_;rw[k d i];exact e.a7 d i,λd f g j=>a d f g j (e.mem d f g j),m.trans e.os,o.trans e.tape,r.trans e.output⟩
section
variable {K:hP}{al et:Nat->Nat}{R:Nat->Mem}{bv:Nat}
omit [Payload]in
def hE.dg(k:hE al (R bv) (K.base+bv) b)(j:cX b {b with a:=p})(a:lJ K al (R bv) bv p bi):cX b {b with a:=bi}:=by
 have m:=j.size;refine j.eF a.size (λe q=>?_) (λe f o r i=>?_) a.os a.tape a.output
 .obtain⟨d,g⟩:=k.blk e q;exact a.blk e (eE g m) d
 obtain⟨d,g⟩:=k.D e f o r;rcases d with d|d
 .rw[ni (a.blk e (eE g m) d) f];exact i
 exact a.cell e f o d i
omit [Payload]in
def hE.eO{g}{C}(f:hE al g C b)(q:b.a.heap.size<=p.heap.size)(o:∀a,a<p.heap.size->et a=al a):hE et g C b:=
 ⟨λa i=>let ⟨d,e⟩:=f.blk a i;⟨by grind,e⟩,λa j m k=>let ⟨d,e⟩:=f.D a j m k;⟨by grind,e⟩⟩
omit [Payload]in
def gx.dg(j:gx K al R u b)(i:cX b {b with a:=p})(a:ri K al p bi):cX b {b with a:=bi}:=by
 have m:=i.size;refine i.eF a.size (λe q=>?_) (λe k s r o=>?_) a.os a.tape a.output
 .obtain⟨d,f,g,H,y⟩:=j.blk e q;exact a.blk e (eE y m) d f g
 obtain⟨d,f,g,H,y⟩:=j.D e k s r;rw[ni (a.blk e (eE y m) d f g) k];exact o
omit [Payload]in
def gx.eO(e:gx K al R u b)(q:b.a.heap.size<=p.heap.size)(o:∀a,a<p.heap.size->et a=al a):gx K et R u b:=
 ⟨λa i=>let ⟨d,f,g,H,y⟩:=e.blk a i;⟨by grind,f,g,H,y⟩,
  λa j m k=>let ⟨d,f,g,H,y⟩:=e.D a j m k;⟨by grind,f,g,H,y⟩,e.bC⟩
omit [Payload]in
def hE.rely{i}{C}(g:hE al i C b)(f:b.a.heap.size<=p.heap.size):hE al i C {b with a:=p}:=
 ⟨λa j=>let ⟨d,e⟩:=g.blk a j;⟨d,eE e f⟩,λa k o m=>let ⟨d,e⟩:=g.D a k o m;⟨d,eE e f⟩⟩
omit [Payload]in
def gx.rely(e:gx K al R u b)(i:b.a.heap.size<=p.heap.size):gx K al R u {b with a:=p}:=
 ⟨λa j=>let ⟨d,f,g,H,y⟩:=e.blk a j;⟨d,f,g,H,eE y i⟩,λa k o m=>let ⟨d,f,g,H,y⟩:=e.D a k o m;⟨d,f,g,H,eE y i⟩,e.bC⟩
omit [Payload]in
theorem hE.aP{e}{C}(a:hE al e C b)(f:e9 b aE):hE al e C aE:=by
 refine⟨λi t=>by rw[f.a];exact a.blk i (f.blk i t),λi g j bm=>?_⟩;rw[f.a];by_cases t:∃L∈b.s,i∈L.aj
 .obtain⟨d,k⟩:=a.blk i (.inr t);grind
 exact a.D i g j R_
omit [Payload]in
def hE.b2{g}{C}(e:hE al g C b)(a:nY b aE):hE al g C aE:=
 ⟨λd j=>by rw[a.a];exact e.blk d (by rw[<-a.own,<-a.s];exact j),λd f i k=>by rw[a.a];exact e.D d f i (a.e9 d f i k)⟩
omit [Payload]in
theorem gx.aP(a:gx K al R u b)(f:e9 b aE):gx K al R u aE:=by
 refine⟨λi t=>by rw[f.a];exact a.blk i (f.blk i t),λi d e bm=>?_,λj g i d e bm=>f.mem _ _ _ (a.bC j g i d e bm)⟩;rw[f.a];by_cases t:∃L∈b.s,i∈L.aj
 .exact a.blk i (.inr t)
 exact a.D i d e R_
def lZ(d:Nat->Nat)(b e:Nat):Nat->Nat:=λa=>if a<b then d a else e
omit [Payload]in
theorem lq{b:Nat->Nat}{a C}(d:i<a):lZ b a C i=b i:=by simp[lZ,d]
omit [Payload]in
theorem Di{b:Nat->Nat}{a C}(d:a<=i):lZ b a C i=C:=by simp[lZ,p_.2 d]
omit [Payload]in
def hE.step{m}{C}(g:hE al m C b)(G:bb ar aE)(e:cO k b ar aE):hE (lZ al b.a.heap.size C) m C aE:=by
 refine⟨λa d=>?_,λa q s j=>?_⟩
 .rcases d with d|⟨L,W,d⟩
  .rw[e.own]at d;obtain⟨f,r⟩:=g.blk a (.inl d);exact⟨by grind[lq],eE r e.size⟩
  have i:=G.lt L W a d;rcases e.bS L W a d with f|⟨p,o,f⟩
  .grind [Di]
  obtain⟨k1,aM⟩:=g.blk a (.inr ⟨p,o,f⟩);grind[lq]
 have i:=gy.lt G.mem j;rcases dY a b.a.heap.size with f|f
 .rw[lq f];by_cases d:∃L∈b.s,a∈L.aj
  .exact⟨.inl (g.blk a (.inr d)).1,i⟩
  rw[e.bA a f (λL W t=>d ⟨L,W,t⟩)]at j;exact⟨(g.D a q s j).1,i⟩
 grind[Di]
omit [Payload]in
def gx.step(g:gx K al R u b)(G:bb ar aE)(d:cO k b ar aE)(B:K.h<b.a.heap.size)(z:K.af<b.a.heap.size)(A:∀a,K.bz a->a<b.a.heap.size):gx K (lZ al b.a.heap.size 0) R u aE:=by
 have F:∀a,b.a.heap.size<=a->a<aE.a.heap.size->lZ al b.a.heap.size 0 a=0/\a≠K.af/\a≠K.h/\¬K.bz a/\a<aE.a.heap.size:=λa f m=>
  ⟨Di f,by omega,by omega,λI=>by grind,m⟩
 refine⟨λa e=>?_,λa j o i=>?_,λD w a j o i=>d.mem _ _ _ (g.bC D w a j o i)⟩
 .rcases e with e|⟨L,W,e⟩
  .rw[d.own]at e;obtain⟨f,m,C,H,y⟩:=g.blk a (.inl e);exact⟨by grind[lq],m,C,H,eE y d.size⟩
  have s:=G.lt L W a e;rcases d.bS L W a e with f|⟨x,t,f⟩
  .grind
  obtain⟨k1,aM,p,r,q⟩:=g.blk a (.inr ⟨x,t,f⟩);grind[lq]
 have s:=gy.lt G.mem i;rcases dY a b.a.heap.size with f|f
 .by_cases e:∃L∈b.s,a∈L.aj
  .obtain⟨k1,aM,p,r,q⟩:=g.blk a (.inr e);grind[lq]
  rw[d.bA a f (λL W E=>e ⟨L,W,E⟩)]at i;obtain⟨k1,aM,p,r,q⟩:=g.D a j o i;grind[lq]
 grind
end
end
section
open Go.Conc
open Go.ConcN (WD CTag Mode Vc Ssum pend phi cnt WgLive PayAt Has RW DWs WSit RelBy sumTo upd upd_same upd_ne AtR0 get_map_set get_map_set_same norel_of Deaf_still)
open Go.ConcR (KK WgAt stA smA rd wr mk Payload g_of_ofEvents)
variable [Payload]
section
variable (P:aD)(ty:ak)(K:hP)(F:Nat)(val:Nat->Nat->X)(d:Nat->Nat)(t:Nat->Mem)
inductive hR (E:Nat):Nat->Nat->ct->Nat->ai->au->Prop
 |c9 {ba:ct} {C:ai} {b:a6} {p:au}:gM (af.c7 P) eR (us P ty K F val E) ba C b->cX b {b with a:=p}->hE d (t E) (K.base+E) b->hR E 1 7 ba 0 C p
 |rel {A:Nat} {C:ai} {p:au}:Goes P v (RW ty K.h K.af F 0 (K.aJ*E)) Go.ConcR.DC0 (AtR0 P ty K.h K.af F 0 (K.aJ*E+1) (val E 0)) A C p->hR E 0 7 (ct.dG A) 0 C p
 |tail {b_ A O:Nat} {C:ai} {p:au}:b_<=6->WSit P ty K.h K.af F pZ pZ 0 (K.aJ*E+1) (val E 0) b_ A O C p->hR E 0 b_ (ct.dG A) O C p
structure ir(u:Nat)(gs:Array ai)(p:au)(o:Trace)(y:Nat->WD)(R:Nat->Nat)(av:Nat->ct)(d0:Nat):Prop where
 size:gs.size=K.base+u
 dp:∀e C,0<e->e<K.base->gs[e]?=h C->∃A,av e=ct.dG A/\QuitsD P A (Deaf o e) C
 above:∀e,K.base+u<=e->Deaf o e=0
 c6:∀E,E<u->∃C,gs[K.base+E]?=h C/\hR P ty K F val d t E (R E) (y E).stage (av (K.base+E)) (y E).deaf C p
 bt:fL K d t o u p.heap.size
 dR:m9 o
 dz:Deaf o 0=d0
 dA:∀E,E<u->Deaf o (K.base+E)=(y E).deaf
 rel:∀E,E<u->(y E).stage<=6->∃ba,RelBy (stA K.h) o (K.base+E) ba
 di:∀E,E<u->R E=0->∀e,1<=e->e<K.aJ->p.cell? ⟨K.af,K.aJ*E+e,n⟩=h (val E e)
 dM:∀E,E<u->(y E).stage<=6->Has K.af (K.aJ*E) (val E 0) p
 bQ:PayAt K.af F p
 cZ:WgLive ty K.h p
 cl:K.h<p.heap.size
 cx:K.af<p.heap.size
 dn:∀i,K.bz i->i<p.heap.size
 aJ:0<K.aJ
 dE:∀bv,bv<u->∀i r aa,t bv i r=h aa->i<p.heap.size
end
section
variable {P:aD}{ty:ak}{K:hP}{F:Nat}{val:Nat->Nat->X}{d et:Nat->Nat}{t:Nat->Mem}{E:Nat}{o:Trace}{y:Nat->WD}{R:Nat->Nat}{av:Nat->ct}{d0:Nat}
def RW.dg(i:lJ K d (t E) E p bi)(b:WgLive ty K.h bi)(e:PayAt K.af F bi)(g:0<K.aJ):RW ty K.h K.af F 0 (K.aJ*E+1-1) p bi:=
 ⟨λf a=>absurd a (iU f),λ_=>b,λ_=>e,i.bQ _ (bC _) N⟩
def hR.dg{o b_ q}{s}{C}(u:hR P ty K F val d t E o b_ s q C p)(m:lJ K d (t E) E p bi)(g:WgLive ty K.h bi)(r:PayAt K.af F bi)(f:0<K.aJ)(k:∀i,i<p.heap.size->et i=d i):
  hR P ty K F val et t E o b_ s q C bi:=by
 cases u with
 |c9 a b e=>exact .c9 a (e.dg b m) (e.eO b.size k)
 |rel a=>exact .rel (Goes.rely (λ_ _ _ a b=>a.trans b) a (RW.dg m g r f))
 |tail j a=>exact .tail j (a.rely (RW.dg m g r f))
omit [Payload]in
def gM.run{i:af P}{g:a6->a6->Array aO->Prop}{e:ai->a6->Prop}(f:∀b d,e b d->b.status=.running):∀{ba:ct}{b:ai}{d:a6},gM i g e ba b d->b.status=.running
 |.leaf,_,_,a=>f _ _ a
 |.node j,b,d,a=>by
  rcases a with a|⟨k,_,a⟩|⟨a,_⟩
  .grind
  .exact gM.run f (ba:=j d) a
  grind
def hR.status{e b_ f}{g}{C}(b:hR P ty K F val d t E e b_ g f C p):C.status=.running∨C.status=.finished:=by
 cases b with
 |c9 a _ _=>exact .inl (a.run λC i b=>b.1)
 |rel a=>exact .inl (Goes.running (λ_ _ E=>E.1) p (Go.ConcN.RW.refl p) a)
 |tail _ a=>exact a.status
def hR.woken{a b_ b}{g}{C}(f:hR P ty K F val d t E a b_ g b C p)(i e)(bi):woken P i e bi C=C:=by
 unfold Go.Conc.woken;split
 .exact again_running _ f.status
 simp
def ir.at(a:ir P ty K F val d t u gs p o y R av d0)(e):ir P ty K F val d t u gs (p.at e) o y R av d0:=
 ⟨a.size,a.dp,a.above,λf b=>let ⟨C,c8,dG⟩:=a.c6 f b;⟨C,c8,dG.dg (.at ..) a.cZ a.bQ a.aJ λ_ _=>rfl⟩,a.bt,a.dR,a.dz,a.dA,a.rel,a.di,a.dM,a.bQ,a.cZ,a.cl,a.cx,a.dn,a.aJ,a.dE⟩
def ir.aT(s:ir P ty K F val d t u gs p o y R av d0)(U:E<u){m}{fn}{pos}{V}{z k A}{N}(J:∀q,q<p.heap.size->et q=d q)(O:p.heap.size<=bi.heap.size)(Y:∀b,b<u->b≠E->lJ K d (t b) b p bi)(az:hR P ty K F val et t E z k N A m bi)(aw:∀f∈V,(aK f).low bi.heap.size)(aB:∀f∈V,∀D,(aK f).touch?=h D->D.loc.isMemory=l->n3 K et (t E) E D)(ai:∀f∈V,∀D,f.loc≠.mark (.release D))(L:deafBehind (y E).deaf V=A)(ay:k<=6->∃Z,RelBy (stA K.h) (o++MemOp.ofEvents (K.base+E) fn pos V) (K.base+E) Z)(ao:z=0->∀e,1<=e->e<K.aJ->bi.cell? ⟨K.af,K.aJ*E+e,n⟩=h (val E e))(an:k<=6->Has K.af (K.aJ*E) (val E 0) bi)(G:PayAt K.af F bi)(ag:WgLive ty K.h bi):
  ir P ty K F val et t u ((gs.map (woken P C m bi)).setIfInBounds (K.base+E) m) bi (o++MemOp.ofEvents (K.base+E) fn pos V) (upd y E ⟨k,0,A⟩) (upd R E z) (upd av (K.base+E) N) d0:=by
 have I:=s.bt.base;have Q:∀b,b≠E->K.base+E≠K.base+b:=λb i f=>i w;have al:∀e r,0<e->e<K.base->((gs.map (Go.Conc.woken P C m bi)).setIfInBounds (K.base+E) m)[e]?=h r->gs[e]?=h r:=by intro e r bp j g;rw[get_map_set _ _ _ _ w]at g;obtain⟨au,W,rfl⟩:=rk.1 g;obtain⟨af,_,ar⟩:=s.dp e au bp j W;grind[woken_quitsD]
 refine⟨by simp[s.size],λe r bp j g=>?_,λe bp=>?_,λb i=>?_,?_,s.dR.app ai,by rw[Deaf_other o w _ g_of_ofEvents,s.dz],λb i=>?_,λb i B=>?_,λb i S e ah ak=>?_,λb i B=>?_,G,ag,eE s.cl O,eE s.cx O,λq I=>eE (s.dn q I) O,s.aJ,λb i q X aa aM=>eE (s.dE b i q X aa aM) O⟩
 .obtain⟨af,ab,ae⟩:=s.dp e r bp j (al e r bp j g);refine⟨af,by rw[upd_ne av _ w];omega,?_⟩;rw[Deaf_other o w _ g_of_ofEvents];omega
 .exact O1
 .by_cases f:b=E
  .subst f;exact⟨m,get_map_set_same _ _ _ (by rw[s.size];omega),by rw[upd_same,upd_same,upd_same];omega⟩
  obtain⟨r,g,H⟩:=s.c6 b i;refine⟨r,by rw[get_map_set _ _ _ _ (Q b f),g,lK,H.woken],?_⟩;rw[upd_ne R _ f,upd_ne y _ f,upd_ne av _ (Q b f).symm];exact H.dg (Y b i f) ag G s.aJ J
 .refine(s.bt.eO J O s.cl s.cx s.dn λb i q X aa aM=>?_).h6 U (λM x=>by grind[Go.Conc.mem_ofEvents]) (λM x=>?_) (λM x D S a=>?_)
  .exact s.dE b i q X aa aM
  .exact FA
  grind[Go.Conc.mem_ofEvents]
 .by_cases f:b=E
  .subst f;rw[Deaf_own,s.dA b i,upd_same];omega
  rw[Deaf_other o (Q b f) _ g_of_ofEvents,s.dA b i,upd_ne y _ f]
 .by_cases f:b=E
  .subst f;rw[upd_same]at B;grind
  rw[upd_ne y _ f]at B;obtain⟨Z,T⟩:=s.rel b i B;exact⟨Z,T.appOther g_of_ofEvents (Q b f)⟩
 .by_cases f:b=E
  .subst f;rw[upd_same]at S;grind
  rw[upd_ne R _ f]at S;rw[(Y b i f).bQ _ w w];exact s.di b i S e ah ak
 by_cases f:b=E
 .subst f;rw[upd_same]at B;grind
 rw[upd_ne y _ f]at B;have:=s.dM b i B;have aq:=s.aJ;simp only[Has]at this⊢;rw[(Y b i f).bQ _ w w];omega
def ir.hS(s:ir P ty K F val d t u gs p o y R av d0){hA}{fn}{pos}{V}(x:∀k,k<p.heap.size->et k=d k)(A:p.heap.size<=bi.heap.size)(I:∀b,b<u->lJ K d (t b) b p bi)(ae:∀m∈V,(aK m).low bi.heap.size)(a:∀m∈V,∀i,(aK m).touch?=h i->i.loc.isMemory=l->oZ K et i)(af:∀m∈V,∀i,(aK m).touch?=h i->i.kind=.plain->i.write=l->∀Q,Q<u->∀k B J,i.loc=.cell ⟨k,B,n⟩->t Q k B≠h J)(H:∀m∈V,∀i,m.loc≠.mark (.release i))(O:PayAt K.af F bi)(N:WgLive ty K.h bi):
  ir P ty K F val et t u ((gs.map (woken P C hA bi)).setIfInBounds 0 hA) bi (o++MemOp.ofEvents 0 fn pos V) y R av (deafBehind d0 V):=by
 have r:=s.bt.base;have Y:=s.aJ;refine⟨by simp[s.size],λe aM bp z g=>?_,λe bp=>?_,λb f=>?_,?_,s.dR.app H,by rw[Deaf_own,s.dz],λb f=>by rw[Deaf_other o w _ g_of_ofEvents,s.dA b f],λb f D=>?_,λb f E e G S=>?_,λb f D=>?_,O,N,eE s.cl A,eE s.cx A,λk r=>eE (s.dn k r) A,s.aJ,λb f k B J X=>eE (s.dE b f k B J X) A⟩
 .rw[get_map_set _ _ _ _ w]at g;obtain⟨ab,U,rfl⟩:=rk.1 g;obtain⟨Z,T,L⟩:=s.dp e ab bp z U;exact⟨Z,T,by rw[woken_quitsD L,Deaf_other o w _ g_of_ofEvents];omega⟩
 .exact O1
 .obtain⟨aM,g,M⟩:=s.c6 b f;exact⟨aM,by rw[get_map_set _ _ _ _ w,g,lK,M.woken],M.dg (I b f) N O s.aJ x⟩
 .refine(s.bt.eO x A s.cl s.cx s.dn s.dE).app0 (λq j=>by grind[Go.Conc.mem_ofEvents]) (λq j=>FA) (λq j i E ag=>FA) (λq j i E=>?_);grind[Go.Conc.mem_ofEvents]
 .obtain⟨aa,W⟩:=s.rel b f D;exact⟨aa,W.appOther g_of_ofEvents w⟩
 .rw[(I b f).bQ _ w w];exact s.di b f E e G S
 have:=s.dM b f D;simp only[Has]at this⊢;rw[(I b f).bQ _ w w];omega
def ir.bs(b:ir P ty K F val d t u gs p o y R av d0)(S:0<e)(M:e<K.base){i}{fn}{pos}{V}(U:∀f∈V,f.mute=l)(I:QuitsD P A (deafBehind (Deaf o e) V) i):
  ir P ty K F val d t u ((gs.map (woken P C i p)).setIfInBounds e i) p (o++MemOp.ofEvents e fn pos V) y R (upd av e (ct.dG A)) d0:=by
 have Q:=b.bt.base;have T:∀f∈V,∀z,f.loc≠.mark (.release z):=λf D z=>K3 (U f D) z;refine⟨by simp[b.size],λx B j m a=>?_,λx j=>?_,λs k=>?_,?_,b.dR.app T,by rw[Deaf_other o w _ g_of_ofEvents,b.dz],λs k=>by rw[Deaf_other o w _ g_of_ofEvents,b.dA s k],λs k O=>?_,b.di,b.dM,b.bQ,b.cZ,b.cl,b.cx,b.dn,b.aJ,b.dE⟩
 .by_cases f:x=e
  .subst f;rw[get_map_set_same _ _ _ N]at a;cases a;exact⟨A,by rw[upd_same],by grind[Deaf_own]⟩
  rw[get_map_set _ _ _ _ (p' f)]at a;obtain⟨Y,J,rfl⟩:=rk.1 a;obtain⟨H,G,X⟩:=b.dp x Y j m J;exact⟨H,by rw[upd_ne av _ f];omega,by rw[woken_quitsD X,Deaf_other o (p' f) _ g_of_ofEvents];omega⟩
 .rw[Deaf_other o w _ g_of_ofEvents];exact b.above x j
 .obtain⟨B,a,r⟩:=b.c6 s k;exact⟨B,by rw[get_map_set _ _ _ _ w,a,lK,r.woken],by rw[upd_ne av _ w];omega⟩
 .exact b.bt.mute (C:=e) (λq g=>by grind[Go.Conc.mem_ofEvents]) (λq g=>by grind[Go.Conc.mem_ofEvents,low_mute]) (λq g=>by grind[Go.Conc.mem_ofEvents,touch_mute])
 obtain⟨W,E⟩:=b.rel s k O;exact⟨W,E.appOther g_of_ofEvents w⟩
def ir.spawn(e:ir P ty K F val d t u gs p o y R av 0){fS rF}{E bv}{J}(aM:E.g=0/\E.act=.go (K.base+u))(G:bv.g=K.base+u/\bv.act=.start)(V:∀i B D,t u i B=h D->d i=0/\i≠K.af/\i≠K.h/\¬K.bz i/\i<p.heap.size)(W:gM (af.c7 P) eR (us P ty K F val u) J rF b)(M:cX b {b with a:=p})(U:hE d (t u) (K.base+u) b):
  ir P ty K F val d t (u+1) ((gs.setIfInBounds 0 fS).push rF) p (o++#[E,bv]) (upd y u ⟨7,0,0⟩) (upd R u 1) (upd av (K.base+u) J) 0:=by
 have X:=e.bt.base;have L:∀g∈#[E,bv],g=E∨g=bv:=N;have I:∀g∈#[E,bv],g.act≠.mark .disable/\g.act≠.mark .enable:=N;have Y:∀j,0<j->j<K.base+u->((gs.setIfInBounds 0 fS).push rF)[j]?=gs[j]?:=λj k a=>by rw[Array.getElem?_push_lt (by simp[e.size];omega),<-iR,sN w]
 refine⟨by simp[e.size];omega,λj Q k z s=>?_,λj k=>?_,λf C=>?_,e.bt.gh aM G e.dz (e.above _ (bC _)) λi B D S=>let ⟨q,r,bB,H,_⟩:=V i B D S;⟨q,r,bB,H⟩,λO=>(e.dR O).app λg A=>?_,by rw[Deaf_still o 0 _ I,e.dz],λf C=>?_,λf C m=>?_,λf C T=>?_,λf C m=>?_,e.bQ,e.cZ,e.cl,e.cx,e.dn,e.aJ,λf C i B D S=>?_⟩
 .rw[Y j k w]at s;obtain⟨Z,q,r⟩:=e.dp j Q k z s;exact⟨Z,by rw[upd_ne av _ w];exact q,by rw[Deaf_still o _ _ I];exact r⟩
 .rw[Deaf_still o _ _ I];exact e.above j w
 .rcases dY f u with a|x
  .obtain⟨Q,s,aa⟩:=e.c6 f a;exact⟨Q,by grind,by rw[upd_ne y _ w,upd_ne R _ w,upd_ne av _ w];omega⟩
  obtain rfl:f=u:=w;refine⟨rF,?_,by rw[upd_same,upd_same,upd_same];exact .c9 W M U⟩;rw[show K.base+f=(gs.setIfInBounds 0 fS).size by simp[e.size],Array.getElem?_push_size]
 .grind
 .rw[Deaf_still o _ _ I];rcases dY f u with a|x
  .rw[e.dA f a,upd_ne y _ w]
  obtain rfl:f=u:=w;rw[upd_same];exact e.above _ (bC _)
 .rcases dY f u with a|x
  .rw[upd_ne y _ w]at m;obtain⟨J,M⟩:=e.rel f a m;refine⟨J,M.appNot λg A=>?_⟩;grind
  obtain rfl:f=u:=w;rw[upd_same]at m;grind
 .rcases dY f u with a|x
  .rw[upd_ne R _ w]at T;exact e.di f a T
  obtain rfl:f=u:=w;rw[upd_same]at T;grind
 .rcases dY f u with a|x
  .rw[upd_ne y _ w]at m;exact e.dM f a m
  obtain rfl:f=u:=w;rw[upd_same]at m;grind
 rcases dY f u with a|x
 .exact e.dE f a i B D S
 grind
end
end
section
open Go.Conc
open Go.ConcN (WD CTag Mode Vc Ssum pend phi cnt WgLive PayAt Has RW DWs WSit RelBy sumTo upd upd_same upd_ne AtR0)
open Go.ConcR (KK WgAt stA smA rd wr mk Payload g_of_ofEvents again_blocked)
variable [Payload]
section
variable (P:aD)(ty:ak)(K:hP)(F:Nat)(val:Nat->Nat->X)(j:Nat)(ac d:ai->a6->Prop)
def Ar(d:ai)(f:a6):Prop:=d.status=.running/\∃a,(∀e,ao P l d e=.go a e #[mk (.acquire (stA K.h))])/\∀b,(af.aH P ty K.h).rely f b->ac a b
def wW(d:ai)(f:a6):Prop:=d.status=.running/\∃a,(∀e,ao P l d e=.go a e #[mk .enable])/\∀b,(af.aH P ty K.h).rely f b->(du (af.aH P ty K.h) (dQ K.h)) (Ar P ty K ac) a b
def Ax(d:ai)(e:a6):Prop:=d.status=.running/\∀a,(af.aH P ty K.h).rely e a->WgAt ty K.h a.a 0 0->∃b,ao P l d a.a=.go b a.a #[rd (stA K.h)]/\(du (af.aH P ty K.h) (dQ K.h)) (wW P ty K ac) b a
def oU(b:ai)(f:a6):Prop:=b.status=.running/\b.offers=n/\∀a,(af.aH P ty K.h).rely f a ->
 ((∃e,WgAt ty K.h a.a e 0)->ao P l b a.a=.go {b with status:=.blocked} a.a #[]) /\
 (WgAt ty K.h a.a 0 1->∃d,ao P l b a.a=.go d (a.a.setCell (smA K.h) (.int .u32 0)) (semEvents (smA K.h))/\(du (af.aH P ty K.h) (dQ K.h)) (Ax P ty K ac) d {a with a:=a.a.setCell (smA K.h) (.int .u32 0)})
def Aw(z:Nat)(f:ai)(g:a6):Prop:=f.status=.running/\∀b,(af.aH P ty K.h).rely g b->∀e:Nat,e<2147483648->WgAt ty K.h b.a (e*KK) 0 ->
 (e=z->∃a,ao P l f b.a=.go a (b.a.setCell (stA K.h) (.int .u64 (e*KK+1))) #[rd (stA K.h),wr (stA K.h)]/\(du (af.aH P ty K.h) (dQ K.h)) (oU P ty K ac) a {b with a:=b.a.setCell (stA K.h) (.int .u64 (e*KK+1))}) /\
 (e≠z->∃a,ao P l f b.a=.go a b.a #[rd (stA K.h)]/\d a b)
def q'(f:ai)(g:a6):Prop:=f.status=.running/\∀b,(af.aH P ty K.h).rely g b->∀e:Nat,e<2147483648->WgAt ty K.h b.a (e*KK) 0 ->
 ∃a,ao P l f b.a=.go a b.a #[rd (stA K.h)]/\(e=0->(du (af.aH P ty K.h) (dQ K.h)) (wW P ty K ac) a b)/\(e≠0->(du (af.aH P ty K.h) (dQ K.h)) (Aw P ty K ac d e) a b)
def As(e:ai)(g:a6):Prop:=e.status=.running/\∃a,(∀f,ao P l e f=.go a f #[mk .disable])/\∀b,(af.aH P ty K.h).rely g b->d a b
def a6.dx(a:a6):a6:={s:=[],D:=a.D,a:=a.a,own:=λ_=>False}
def wV(f:Nat)(Next:ai->a6->Prop)(e:ai)(g:a6):Prop:=e.status=.running/\∀b,(af.aH P ty K.h).rely g b ->
 ∃d a,ao P l e b.a=.spawn d a b.a #[]/\a.status=.running/\du (af.c7 P) eR (us P ty K F val f) a b.dx/\Next d b
def Av(f:Nat)(Next:ai->a6->Prop)(d:ai)(g:a6):Prop:=d.status=.running/\∃a,(∀e,ao P l d e=.go a e #[mk .enable])/\∀b,(af.aH P ty K.h).rely g b->(du (af.aH P ty K.h) (dQ K.h)) (wV P ty K F val f Next) a b
def Aq(f:Nat)(Next:ai->a6->Prop)(e:ai)(g:a6):Prop:=e.status=.running/\∀a,(af.aH P ty K.h).rely g a->∀d:Nat,d<2147483647->WgAt ty K.h a.a (d*KK) 0 ->
 ∃b,ao P l e a.a=.go b (a.a.setCell (stA K.h) (.int .u64 ((d+1)*KK))) #[rd (stA K.h),wr (stA K.h)]/\(du (af.aH P ty K.h) (dQ K.h)) (Av P ty K F val f Next) b {a with a:=a.a.setCell (stA K.h) (.int .u64 ((d+1)*KK))}
def Au(f:Nat)(Next:ai->a6->Prop)(d:ai)(g:a6):Prop:=d.status=.running/\∃a,(∀e,ao P l d e=.go a e #[mk .disable])/\∀b,(af.aH P ty K.h).rely g b->(du (af.aH P ty K.h) (dQ K.h)) (Aq P ty K F val f Next) a b
def oY:Nat->ai->a6->Prop
 |0,a,b=>(du (af.aH P ty K.h) (dQ K.h)) (As P ty K d) a b
 |e+1,a,b=>(du (af.aH P ty K.h) (dQ K.h)) (Au P ty K F val (j-(e+1)) (oY e)) a b
def ct.eh:ct->ct
 |.leaf=>.node λ_=>.leaf
 |.node a=>.node λb=>ct.eh (a b)
omit [Payload]in
def ct.hd:∀{d b:ct},ct.lt d b->ct.lt d.eh b.eh
 |_,.leaf,a=>a.elim
 |_,.node _,⟨f,a⟩=>⟨f,a.elim (λe=>.inl (by rw[e])) λa=>.inr (ct.hd a)⟩
omit [Payload]in
def ct.jl(a:a6):∀d:ct,∃e,ct.lt e d.eh
 |.leaf=>⟨.leaf,a,.inl rfl⟩
 |.node b=>⟨(b a).eh,a,.inl rfl⟩
inductive hv:CTag->Nat->ct->Nat->ai->a6->Prop
 |fg {ba:Nat} {c_:ct} {C:ai} {b:a6}:ba<j->(gM (af.aH P ty K.h) (dQ K.h)) (Au P ty K F val (j-(ba+1)) (oY P ty K F val j d ba)) c_ C b->hv (.sp ba 5) (j-(ba+1)) c_ 0 C b
 |fP {ba:Nat} {c_:ct} {C:ai} {b:a6}:ba<j->(gM (af.aH P ty K.h) (dQ K.h)) (Aq P ty K F val (j-(ba+1)) (oY P ty K F val j d ba)) c_ C b->hv (.sp ba 4) (j-(ba+1)) c_ 1 C b
 |fR {ba:Nat} {c_:ct} {C:ai} {b:a6}:ba<j->(gM (af.aH P ty K.h) (dQ K.h)) (Av P ty K F val (j-(ba+1)) (oY P ty K F val j d ba)) c_ C b->hv (.sp ba 3) (j-(ba+1)) c_ 1 C b
 |fQ {ba:Nat} {c_:ct} {C:ai} {b:a6}:ba<j->(gM (af.aH P ty K.h) (dQ K.h)) (wV P ty K F val (j-(ba+1)) (oY P ty K F val j d ba)) c_ C b->hv (.sp ba 2) (j-(ba+1)) c_ 0 C b
 |kd {c_:ct} {C:ai} {b:a6}:(gM (af.aH P ty K.h) (dQ K.h)) (As P ty K d) c_ C b->hv .kd j c_ 0 C b
 |w1 {c_:ct} {C:ai} {b:a6}:(gM (af.aH P ty K.h) (dQ K.h)) (q' P ty K ac d) c_ C b->hv .w1 j c_ 1 C b
 |w2 {z:Nat} {c_:ct} {C:ai} {b:a6}:(gM (af.aH P ty K.h) (dQ K.h)) (Aw P ty K ac d z) c_ C b->hv (.w2 z) j c_ 1 C b
 |w3 {c_:ct} {C:ai} {b:a6}:(gM (af.aH P ty K.h) (dQ K.h)) (oU P ty K ac) c_ C b->hv .w3 j c_.eh 1 C b
 |blk {c_:ct} {C:ai} {b:a6}:oU P ty K ac C b->hv .blk j c_ 1 {C with status:=.blocked} b
 |w4 {c_:ct} {C:ai} {b:a6}:(gM (af.aH P ty K.h) (dQ K.h)) (Ax P ty K ac) c_ C b->hv .w4 j c_ 1 C b
 |ke {c_:ct} {C:ai} {b:a6}:(gM (af.aH P ty K.h) (dQ K.h)) (wW P ty K ac) c_ C b->hv .ke j c_ 1 C b
 |acq {c_:ct} {C:ai} {b:a6}:(gM (af.aH P ty K.h) (dQ K.h)) (Ar P ty K ac) c_ C b->hv .acq j c_ 0 C b
structure wZ(S:Nat->Nat)(r:Nat->Mem)(A:Machine)(o:Trace):Prop where
 hz:∃(gs:Array ai) (p:au) (dC:Option (Nat×Nat)) (x:ai) (b:a6) (bm:Nat->Nat),A=crowd gs p dC/\gs[0]?=h x/\gs.size=K.base+j/\ac x {b with a:=p}/\cX b {b with a:=p}/\gx K S r j b /\
  Leavers P o gs bm/\Past (jH λi=>K.bz i∨i=K.h) p.heap.size o/\m9 o/\PayAt K.af F p/\(∀E,E<j->∀e,e<K.aJ->p.cell? ⟨K.af,K.aJ*E+e,n⟩=h (val E e))/\K.af<p.heap.size/\K.h<p.heap.size/\∀i,K.bz i->i<p.heap.size
abbrev pX:=Nat×((Nat->ct)×ct)
def k5(a:Nat):pX->pX->Prop:=Prod.Lex (· < ·) (Prod.Lex (w6 a) ct.lt)
omit [Payload]in
def aag(bB):WellFounded (k5 bB):=(Prod.lex Nat.lt_wfRel ⟨_,(Prod.lex ⟨w6 bB,NU bB⟩ ⟨ct.lt,⟨ct.fs⟩⟩).wf⟩).wf
structure lH(μ:pX)(gs:Array ai)(p:au)(o:Trace)(S:Nat->Nat)(r:Nat->Mem)(u:Nat)(y:Nat->WD)(R:Nat->Nat)(av:Nat->ct)(d0:Nat)(tag:CTag)(c_:ct)(x:ai)(b:a6)(b_ oM:Int):Prop where
 du:gs[0]?=h x
 dy:hv P ty K F val j ac d tag u c_ d0 x b
 rely:cX b {b with a:=p}
 aH:gx K S r u b
 aF:ir P ty K F val S r u gs p o y R av d0
 bX:WgAt ty K.h p b_ oM
 mode:Go.ConcN.Mode u y tag b_ oM
 eG:μ=(phi j (Vc u y) tag+Ssum u y+sumTo u R,(av,c_))
def g2(o:pX)(q:Machine)(u:Trace):Prop:=
 ∃(a:Array ai) (i:au) (dC:Option (Nat×Nat)) (s:Nat->Nat) (r:Nat->Mem) (p:Nat) (y:Nat->WD) (R:Nat->Nat) (k:Nat->ct) (b:Nat) (tag:CTag) (e:ct) (m:ai) (t:a6) (g f:Int),
  q=crowd a i dC/\lH P ty K F val j ac d o a i u s r p y R k b tag e m t g f
end
section
variable {P:aD}{ty:ak}{K:hP}{F:Nat}{val:Nat->Nat->X}{j:Nat}{ac d:ai->a6->Prop}{S et:Nat->Nat}{r:Nat->Mem}{tag:CTag}{c_:ct}{O:Nat}{x:ai}
omit [Payload]in
def mJ(d:cX b {b with a:=p})(a:WgLive ty K.h p):(af.aH P ty K.h).rely b {b with a:=p}:=⟨d,λ_=>a⟩
omit [Payload]in
def oU.rely{t}(a:oU P ty K ac C b)(f:(af.aH P ty K.h).rely b t):oU P ty K ac C t:=
 ⟨a.1,a.2.1,λd e=>a.2.2 d ⟨f.1.trans e.1,λg=>e.2 (f.2 g)⟩⟩
def hv.status(a:hv P ty K F val j ac d tag u c_ O x b):(x.status=.running/\tag≠.blk)∨(x.status=.blocked/\tag=.blk):=by
 cases a with
 |fg _ a=>exact .inl ⟨a.run λ_ _ e=>e.1,by simp⟩
 |fP _ a=>exact .inl ⟨a.run λ_ _ e=>e.1,by simp⟩
 |fR _ a=>exact .inl ⟨a.run λ_ _ e=>e.1,by simp⟩
 |fQ _ a=>exact .inl ⟨a.run λ_ _ e=>e.1,by simp⟩
 |kd a=>exact .inl ⟨a.run λ_ _ e=>e.1,by simp⟩
 |w1 a=>exact .inl ⟨a.run λ_ _ e=>e.1,by simp⟩
 |w2 a=>exact .inl ⟨a.run λ_ _ e=>e.1,by simp⟩
 |w3 a=>exact .inl ⟨a.run λ_ _ e=>e.1,by simp⟩
 |blk a=>grind
 |w4 a=>exact .inl ⟨a.run λ_ _ e=>e.1,by simp⟩
 |ke a=>exact .inl ⟨a.run λ_ _ e=>e.1,by simp⟩
 |acq a=>exact .inl ⟨a.run λ_ _ e=>e.1,by simp⟩
def hv.h4(m:hv P ty K F val j ac d tag u c_ O x b)(C g)(bi):
  ∃a k,hv P ty K F val j ac d a u k O (woken P C g bi x) b/\(a=tag∨(tag=.blk/\a=.w3))/\(mayWake P C=l->g.status=.running->a≠.blk):=by
 unfold Go.Conc.woken;split
 .rcases m.status with⟨e,i⟩|⟨_,rfl⟩
  .grind [again_running]
  cases m with
  |blk f=>exact⟨.w3,ct.eh .leaf,by rw[again_blocked f.1 f.2.1];exact .w3 (show gM _ _ _ .leaf _ _ from f),.inr ⟨rfl,rfl⟩,λ_ _=>by simp⟩
 grind
def wB{W:pX}{dC:Option (Nat×Nat)}{aw:Trace}{y:Nat->WD}{R:Nat->Nat}{X:Nat->ct}{av au:Int}(q:lH P ty K F val j ac d W gs p aw S r u y R X O tag c_ x b av au){f:Nat}(Y:f<u){o:ai}{m:Array aO}{k g i:Nat}{A:ct}{ae G:Int}(an:gs[K.base+f]?=h C)(E:ao P v C p=.go o bi m)(I:∀af,af<p.heap.size->et af=S af)(Q:p.heap.size<=bi.heap.size)(aF:∀ab,ab<u->ab≠f->lJ K S (r ab) ab p bi)(aD:ri K S p bi)(aJ:hR P ty K F val et r f k g A i o bi)(L:∀B∈m,(aK B).low bi.heap.size)(T:∀B∈m,∀x,(aK B).touch?=h x->x.loc.isMemory=l->n3 K et (r f) f x)(M:∀B∈m,∀x,B.loc≠.mark (.release x))(aE:deafBehind (y f).deaf m=i)(aM:g<=6->∃aS,RelBy (stA K.h) (aw++MemOp.ofEvents (K.base+f) C.frame.fn C.frame.place m) (K.base+f) aS)(al:k=0->∀Z,1<=Z->Z<K.aJ->bi.cell? ⟨K.af,K.aJ*f+Z,n⟩=h (val f Z))(ak:g<=6->Has K.af (K.aJ*f) (val f 0) bi)(aH:PayAt K.af F bi)(ay:WgAt ty K.h bi ae G)(H:∀e,(e=tag∨(tag=.blk/\e=.w3))->(mayWake P C=l->o.status=.running->e≠.blk)->Go.ConcN.Mode u (upd y f ⟨g,0,i⟩) e ae G)(a:(g+k<(y f).stage+R f/\cnt ⟨g,0,i⟩<=cnt (y f))∨(g=(y f).stage/\k=R f/\ct.lt A (X (K.base+f))))(az:K.base+u<=K.base+j):
  ∃aC s z,runT P (crowd gs p dC) (K.base+f)=(.next aC,s)/\k5 (K.base+j) z W/\g2 P ty K F val j ac d z aC (aw++s):=by
 have aR:=q.aF.bt.base;obtain⟨e,t,aI,aB,V⟩:=q.dy.h4 C o bi;have J:(K.base+f==0)=v:=N;have aG:=runT_crowd_go (P:=P) (sl:=dC) (i:=K.base+f) an (by rw[J];exact E)
 have aL:=Go.ConcN.sumTo_upd y (⟨g,0,i⟩:WD) cnt Y;have aN:=Go.ConcN.sumTo_upd y (⟨g,0,i⟩:WD) WD.stage Y;have aP:sumTo u (upd R f k)+R f=sumTo u R+k:=Go.ConcN.sumTo_upd R k id Y;refine⟨_,_,(phi j (Vc u (upd y f ⟨g,0,i⟩)) e+Ssum u (upd y f ⟨g,0,i⟩)+sumTo u (upd R f k),(upd X (K.base+f) A,t)),aG,?_,
  _,bi,dC,et,r,u,_,_,_,O,e,t,woken P C o bi x,b,ae,G,rfl,⟨by rw[Go.ConcN.get_map_set _ _ _ _ w,q.du];rfl,aI,q.aH.dg q.rely aD,q.aH.eO q.rely.size I,
   q.aF.aT Y I Q aF aJ L T M aE aM al ak aH ⟨_,_,ay⟩,ay,H e aB V,rfl⟩⟩
 rw[q.eG,Go.ConcN.phi_retag j _ aB];simp only[Vc,Ssum]at *;rcases a with⟨ar,Eb⟩|⟨ar,Eb,tC⟩
 .refine Prod.Lex.left _ _ ?_;have:=Go.ConcN.phi_mono j (v':=sumTo u λx=>cnt (upd y f ⟨g,0,i⟩ x)) (v:=sumTo u λx=>cnt (y x)) w tag;omega
 have aQ:cnt (⟨g,0,i⟩:WD)=cnt (y f):=hI;have ah:(sumTo u λx=>cnt (upd y f ⟨g,0,i⟩ x))=sumTo u λx=>cnt (y x):=w;have D:(sumTo u λx=>(upd y f ⟨g,0,i⟩ x).stage)=sumTo u λx=>(y x).stage:=w;have ag:sumTo u (upd R f k)=sumTo u R:=w;rw[ah,D,ag];exact Prod.Lex.right _ (Prod.Lex.left _ _ ⟨K.base+f,by omega,by rw[upd_same];exact tC,λaT aq=>upd_ne X _ aq⟩)
end
end
section
open Go.Conc
open Go.ConcN (WD CTag Vc Ssum pend phi cnt WgLive PayAt Has RW DWs WSit RelBy sumTo upd upd_same upd_ne AtR0 isW3 isOpen OpenSt deafBehind_idle bk_cell okW_none Vc_upd Vc_le le_sumTo others_uncounted)
open Go.ConcR (KK WgAt stA smA rd wr mk Payload g_of_ofEvents Bk bk_of_mute ofEvent_loc_mark ofEvent_cell)
variable [Payload]
section
variable {K:hP}{ac G:ai->a6->Prop}{W et:Nat->Nat}{k6:Nat->Mem}{tag:CTag}{c_:ct}{O:Nat}{x:ai}
omit [Payload]in
def lJ.bX(b:Aside K.h p bi)(k:W K.h=0)(o:1<=K.base)(f:∀a d g,k6 u a d=h g->a≠K.h)(e:K.af≠K.h):lJ K W (k6 u) u p bi:=
 ⟨by rw[b.size];grind,λa _ i=>b.block a (λm=>by grind),λa d g H j=>by rw[ni (b.block a (f a d g H))];exact j,λd _ _=>ni (b.block _ e) d,b.os,b.tape,b.output⟩
omit [Payload]in
def ri.bX(a:Aside K.h p bi):ri K W p bi:=⟨by rw[a.size];grind,λb _ _ _ d=>a.block b d,a.os,a.tape,a.output⟩
omit [Payload]in
def ri.refl(p):ri K W p p:=⟨bC _,λ_ _ _ _ _=>rfl,rfl,rfl,rfl⟩
omit [Payload]in
def G0{d}{b:Array aO}(i:∀a∈b,Bk K.h a)(j:K.h<d):∀a∈b,(aK a).low d:=by
 intro a g;rcases i a g with f|f|⟨e,wr,rfl,k⟩
 .rw[ofEvent_loc_mark f];trivial
 .rw[ofEvent_loc_mark f];trivial
 rw[ofEvent_cell];show e.block<d;grind
omit [Payload]in
def S'{j}{e:Array aO}(o:∀d∈e,Bk K.h d):∀d∈e,∀f,(aK d).touch?=h f->f.loc.isMemory=l->n3 K W (k6 j) j f:=by
 intro d m p b _;rcases o d m with i|i|⟨g,wr,rfl,k⟩
 .rw[ofEvent_loc_mark i]at b;cases b
 .rw[ofEvent_loc_mark i]at b;cases b
 rw[ofEvent_cell]at b;simp[MemAct.touch?,e_]at b;subst b;exact .inl ⟨g,a,k,a⟩
omit [Payload]in
def G1{b:Array aO}(g:∀a∈b,Bk K.h a):∀a∈b,∀d,a.loc≠.mark (.release d):=by
 intro a f d i;rcases g a f with j|j|⟨e,wr,rfl,_⟩
 .grind
 .grind
 grind
omit [Payload]in
def aeE{m}{b6}{V}(u:hE W (k6 m) (K.base+m) b)(t:bb k b)(y:dv b V)(q:cO k b ar b6):
  (∀e∈V,(aK e).low b6.a.heap.size)/\(∀e∈V,∀j,(aK e).touch?=h j->j.loc.isMemory=l->n3 K (lZ W b.a.heap.size (K.base+m)) (k6 m) m j) /\
  (∀e∈V,e.loc≠.mark .disable/\e.loc≠.mark .enable)/\∀e∈V,∀j,e.loc≠.mark (.release j):=by
 have key:∀e∈V,(aK e).low b6.a.heap.size/\(∀j,(aK e).touch?=h j->j.loc.isMemory=l->n3 K (lZ W b.a.heap.size (K.base+m)) (k6 m) m j)/\(e.loc≠.mark .disable/\e.loc≠.mark .enable)/\∀j,e.loc≠.mark (.release j):=by
  intro e A;have o:=y e A;obtain⟨loc,wr,C⟩:=e;cases loc with
  |cell g=>
   obtain⟨p,s,d⟩:=o;simp only at p s d;subst p;have r:g.block<b.a.heap.size:=by
    rcases d with d|⟨⟨L,aM,d⟩,_⟩|⟨_,x,d⟩
    .exact d.elim
    .exact t.lt L aM _ d
    exact gy.lt t.mem d
   refine⟨by rw[ofEvent_cell];exact eE r q.size,λi f _=>?_,⟨by simp,by simp⟩,by simp⟩;rw[ofEvent_cell]at f;simp[MemAct.touch?,e_]at f;subst f;refine .inr ⟨a,?_⟩;rcases d with d|⟨⟨L,aM,d⟩,_⟩|⟨z,x,d⟩
   .exact d.elim
   .exact .inl ⟨g.block,a,by rw[lq r];exact(u.blk _ (.inr ⟨L,aM,d⟩)).1⟩
   rcases(u.D _ _ _ d).1 with w|w
   .exact .inl ⟨g.block,a,by grind[lq]⟩
   refine .inr (.inr ⟨z,g.block,g.off,x,?_,w⟩);obtain⟨i,F,sp⟩:=g;grind
  |obj B=>
   obtain⟨p,s⟩:=o;simp only at p s;subst p;obtain⟨L,aM,d⟩:=s.resolve_left id;have r:=t.lt L aM _ d;refine⟨?_,λi f _=>?_,⟨by simp,by simp⟩,by simp⟩
   .simp[aK,MemAct.low,Loc.low];exact eE r q.size
   simp[aK,MemAct.touch?]at f;subst f;exact .inr ⟨a,.inl ⟨B,a,by rw[lq r];exact(u.blk _ (.inr ⟨L,aM,d⟩)).1⟩⟩
  |mark E=>
   simp[ia]at o;rcases o with rfl|⟨D,rfl⟩
   .exact Rx
   exact Rx
  |_=>exact o.elim
 grind
def acS{a6}{dC}{o}{y:Nat->WD}{R:Nat->Nat}{b4:Nat->ct}{b_ oM}(i:lH P ty K F val j ac G a6 gs p o W k6 u y R b4 O tag c_ x b b_ oM)(cu:j<2147483648)(cr:u<=j)(b':u+pend tag<=j){g}(hn:g<u)(a1:gs[K.base+g]?=h C)(a2:C.status=.running):
  ∃q J Q,runT P (crowd gs p dC) (K.base+g)=(.next q,J)/\k5 (K.base+j) Q a6/\g2 P ty K F val j ac G Q q (o++J):=by
 have ba:=i.aF.bt.base;obtain⟨bq,bO,a3⟩:=i.aF.c6 g hn;obtain rfl:C=bq:=N;generalize X:(y g).stage=aJ at a3;generalize bh:b4 (K.base+g)=b2 at a3;generalize a0:(y g).deaf=ay at a3;generalize aQ:R g=cl at a3;have bf:Deaf o (K.base+g)=ay:=by rw[i.aF.dA g hn,a0]
 have b6:=Vc_le u y;have same:∀A r,Go.ConcN.Mode u (upd y g ⟨aJ,A,r⟩) tag b_ oM:=λA r=>by have:=i.mode.same (i:=g) A r;grind
 cases a3 with
 |@c9 b2 C aT p bw aU bP=>
  rcases bw.bc (λaT=>cX aT {aT with a:=p}/\hE W (k6 g) (K.base+g) aT) (λaT B aB aG=>⟨aG.1.aP aB,aG.2.aP aB⟩) (λ_ aT B aB aG=>⟨aG.1.b2 aB,aG.2.b2 aB⟩) ⟨aU,bP⟩with⟨B,⟨k1,bN⟩,f⟩|⟨_,B,⟨k1,bN⟩,e⟩
  ·
   obtain⟨k,w2,V,d,aw,bg,bx,ae⟩:=f.2 p k1 i.aF.bQ i.aF.cZ;have b8:=i.aF.aJ;refine wB i hn a1 d (et:=W) (λ_ _=>rfl) (by rw[aw.size];grind) (λa_ aR bm=>⟨by rw[aw.size];grind,λY _ aP=>aw.block Y (λap=>by rw[ap,i.aF.bt.da]at aP;omega),λY aS ak H bR=>?_,λaS bk bl=>aw.hz aS ?_,aw.os,aw.tape,aw.output⟩)
    ⟨by rw[aw.size];grind,λY _ _ aU _=>aw.block Y aU,aw.os,aw.tape,aw.output⟩ (.rel ae) (λap t=>?_) (λap t Y aP _=>?_) (λap t=>?_) ?_ (λs=>absurd s ca) (λ_ b1 _ aG=>aw.new b1 aG) (λs=>absurd s ca) aw.bQ
    (i.bX.of_block (aw.block _ (p' i.aF.bt.bZ))) (λ_ ag _=>(same _ _).retag ag) (.inl ⟨by omega,by simp[cnt,X]⟩) w
   .rw[ni (aw.block Y (i.aF.bt.bC a_ aR Y aS ak H).2.1)];exact bR
   .rcases Nat.lt_or_gt_of_ne bm with s|s
    .have:=xc K.aJ (show a_+1<=g from s);grind
    have:=xc K.aJ (show g+1<=a_ from s);grind
   .obtain⟨aS,rfl,_⟩:=bg ap t;rw[ofEvent_cell];show K.af<_;rw[aw.size];exact i.aF.cx
   .obtain⟨aS,rfl,bk,bl⟩:=bg ap t;rw[ofEvent_cell]at aP;simp[MemAct.touch?,e_]at aP;subst aP;exact .inr ⟨a,.inr (.inl ⟨aS,a,bk,bl⟩)⟩
   .grind
   rw[a0];exact deafBehind_idle (λap t=>by grind) 0
  ·
   obtain⟨k,b3,V,cw,d,bE,bK,bQ⟩:=e _ k1;obtain⟨⟨cx,cg,cj,bj,E⟩,cf⟩:=bE.resolve_right id;have bu:hE W (k6 g) (K.base+g) {B with a:=p}:=bN.rely k1.size;obtain⟨aE,aF,bp,bU⟩:=aeE bu cj cf E;have Z:∀Y,Y<p.heap.size->W Y≠K.base+g->b3.a.heap[Y]?=p.heap[Y]?:=λY aP bI=>E.a7 Y aP λL aM bB=>bI (bu.blk Y (.inr ⟨L,aM,bB⟩)).1;refine wB i hn a1 d (et:=lZ W p.heap.size (K.base+g)) (λY aP=>lq aP) E.size (λa_ aR bm=>⟨E.size,λY aP b7=>Z Y aP w,λY aS ak H bR=>?_,λaS _ _=>ni (Z _ i.aF.cx (by rw[i.aF.bt.da];omega)) aS,E.os,E.tape,E.output⟩)
    ⟨E.size,λY aP cn _ _=>Z Y aP w,E.os,E.tape,E.output⟩ (.c9 bK (cX.er bj.mem) (bu.step bj E)) aE aF bU (by rw[a0];exact deafBehind_idle bp 0) (λs=>absurd s ca) (λs=>absurd s ca) (λs=>absurd s ca) ?_
    (i.bX.of_block (Z _ i.aF.cl (by rw[i.aF.bt.db];omega))) (λ_ ag _=>(same _ _).retag ag) (.inr ⟨X.symm,aQ.symm,by grind⟩) w
   .rw[ni (Z Y (i.aF.dE a_ aR Y aS ak H) (by rw[(i.aF.bt.bC a_ aR Y aS ak H).1];omega))];exact bR
   obtain⟨bo,bS,bT⟩:=i.aF.bQ;exact⟨bo,(Z _ i.aF.cx (by rw[i.aF.bt.da];omega)).trans bS,bT⟩
 |@rel bx C p s=>
  rcases Goes.cases s with f|⟨A,rfl,e⟩
  ·
   obtain⟨_,bW,k,d,av,ae⟩:=f p (Go.ConcN.RW.refl p);refine wB i hn a1 d (et:=W) (λ_ _=>rfl) (bC _) (λa_ _ _=>.refl ..) (.refl p) (.tail ca (.k1 ae)) (λap t=>?_) (λap t Y aP _=>?_) (λap t=>?_) hI (λ_=>⟨o.size,RelBy.new bf _ _⟩) (λ_=>i.aF.di g hn aQ) (λ_=>by grind) i.aF.bQ i.bX
    (λ_ ag _=>(i.mode.counted hn w (.inl a) _ _).retag ag) (.inl ⟨by omega,by simp[cnt,X]⟩) w
   .simp at t;subst t;exact i.aF.cl
   .simp at t;subst t;exact cV
   simp at t;subst t;simp[mk]
  obtain⟨k,M,V,d,⟨rfl,rfl⟩,I⟩:=e p (Go.ConcN.RW.refl p);exact wB i hn a1 d (et:=W) (λ_ _=>rfl) (bC _) (λa_ _ _=>.refl ..) (.refl M) (.rel I) D D D cV (λs=>absurd s ca) (λ_=>i.aF.di g hn aQ) (λs=>absurd s ca) i.aF.bQ i.bX (λ_ ag _=>(same _ _).retag ag)
   (.inr ⟨X.symm,aQ.symm,by rw[bh];exact ct.gr _ b⟩) w
 |@tail aJ bx ay C p bV s=>
  have aL:∀{k:ai} {M:au} {V:Array aO} {B A r:Nat} {aq an:Int},ao P v C p=.go k M V->Aside K.h p M->WgAt ty K.h M aq an->(∀ap∈V,Bk K.h ap) ->
    (∀hZ ap,V[hZ]?=h ap->(aK ap).touch?=n∨0<deafBehind ay (V.extract 0 hZ))->B<=6->WSit P ty K.h K.af F pZ pZ 0 (K.aJ*g+1) (val g 0) B A r k M->deafBehind ay V=r ->
    (∀S,(S=tag∨(tag=.blk/\S=.w3))->(mayWake P C=l->k.status=.running->S≠.blk)->Go.ConcN.Mode u (upd y g ⟨B,0,r⟩) S aq an)->((B<aJ/\cnt ⟨B,0,r⟩<=cnt (y g))∨(B=aJ/\A+1=bx)) ->
    ∃q J Q,runT P (crowd gs p dC) (K.base+g)=(.next q,J)/\k5 (K.base+j) Q a6/\g2 P ty K F val j ac G Q q (o++J):=by
   intro k M V B A r aq an d T aI ab bt a4 aC bd af bQ;obtain⟨bo,br,bs⟩:=i.aF.bQ;refine wB i hn a1 d (et:=W) (λ_ _=>rfl) (by rw[T.size];grind) (λa_ aR _=>.bX T i.aF.bt.db ba (λY aS ak H=>(i.aF.bt.bC a_ aR Y aS ak H).2.2.1) i.aF.bt.bZ) (.bX T) (.tail a4 aC) (G0 ab (by rw[T.size];exact i.aF.cl)) (S' ab) (G1 ab) N
    (λ_=>let ⟨b2,bY⟩:=i.aF.rel g hn w;⟨b2,bY.book bf _ _ ab bt⟩) (λ_ b1 bF bG=>(ni (T.block _ i.aF.bt.bZ) _).trans (i.aF.di g hn aQ b1 bF bG)) (λ_=>(ni (T.block _ i.aF.bt.bZ) _).trans (i.aF.dM g hn w)) ⟨bo,(T.block _ i.aF.bt.bZ).trans br,bs⟩ aI af
    (bQ.imp (λs=>⟨by omega,s.2⟩) λs=>⟨by omega,aQ.symm,by rw[bh,<-s.2];exact ct.gr _ b⟩) w
  have book:∀{k:ai} {M:au} {V:Array aO} {B A r:Nat} {aq an:Int},ao P v C p=.go k M V->Aside K.h p M->WgAt ty K.h M aq an->(∀ap∈V,Bk K.h ap) ->
    (∀hZ ap,V[hZ]?=h ap->(aK ap).touch?=n∨0<deafBehind ay (V.extract 0 hZ))->B<=6->WSit P ty K.h K.af F pZ pZ 0 (K.aJ*g+1) (val g 0) B A r k M->deafBehind ay V=r ->
    Go.ConcN.Mode u (upd y g ⟨B,0,r⟩) tag aq an->((B<aJ/\cnt ⟨B,0,r⟩<=cnt (y g))∨(B=aJ/\A+1=bx)) ->
    ∃q J Q,runT P (crowd gs p dC) (K.base+g)=(.next q,J)/\k5 (K.base+j) Q a6/\g2 P ty K F val j ac G Q q (o++J):=
   λd T aI ab bt a4 aC bd af bQ=>aL d T aI ab bt a4 aC bd (λ_ ag _=>af.retag ag) bQ
  have ah:∀{k:ai} {A:Nat},ao P v C p=.go k p #[]->WSit P ty K.h K.af F pZ pZ 0 (K.aJ*g+1) (val g 0) aJ A ay k p->A+1=bx ->
    ∃q J Q,runT P (crowd gs p dC) (K.base+g)=(.next q,J)/\k5 (K.base+j) Q a6/\g2 P ty K F val j ac G Q q (o++J):=by intro k A d aC W;exact book d (.refl K.h p) i.bX D D bV aC a (same _ _) (.inr ⟨a,W⟩)
  cases s with
  |r0 s=>omega
  |k1 s=>
   rcases Goes.cases s with f|⟨A,rfl,e⟩
   .obtain⟨_,k,d,av,ae⟩:=f p (Go.ConcN.RW.refl p);exact book d (.refl K.h p) i.bX (by intro ap t;simp at t;subst t;exact .inl a) (by intro hZ ap t;exact .inl (by have:=uI t;simp at this;exact hI)) ca (.d1 ae) a (i.mode.counted hn w (.inr a) _ _) (.inl ⟨by omega,by simp[cnt,X]⟩)
   obtain⟨k,M,V,d,⟨rfl,rfl⟩,I⟩:=e p (Go.ConcN.RW.refl p);exact ah d (.k1 I) a
  |d1 s=>
   rcases Goes.cases s with f|⟨A,rfl,e⟩
   .obtain⟨_,aZ⟩:=f p (Go.ConcN.RW.refl p);have m:=i.bX;have ar:=i.mode;have bD:cnt (y g)=1:=by simp[cnt,X]
    have b5:1<=Vc u y:=by have:=le_sumTo (f:=λg=>cnt (y g)) hn;simp[Vc];omega
    have aX:∀ap∈#[rd (stA K.h),wr (stA K.h)],Bk K.h ap:=by intro ap t;simp at t;rcases t with rfl|rfl<;>exact bk_cell _ _ rfl
    have aY:∀hZ ap,(#[rd (stA K.h),wr (stA K.h)]:Array aO)[hZ]?=h ap->(aK ap).touch?=n∨0<deafBehind 1 ((#[rd (stA K.h),wr (stA K.h)]:Array aO).extract 0 hZ):=by
     intro hZ ap t
     match hZ,t with
     |0,_=>exact .inr ae7
     |1,_=>exact .inr (by simp[deafBehind,rd])
     |hZ+2,t=>simp at t
    have cb:∀a8,cnt (⟨1,a8,1⟩:WD)=0:=λ_=>rfl;have bn:∀a8,OpenSt u y->OpenSt u (upd y g ⟨1,a8,1⟩):=λa8 s x bc=>by
     by_cases ap:x=g
     .subst ap;exact wF
     rw[upd_ne y _ ap];exact s x bc
    generalize b0:b_=cd at ar m;generalize bZ:oM=cc at ar m;cases ar with
    |opn bw aU bP=>
     obtain⟨ak,H⟩:∃ak,Vc u y+pend tag=ak+1:=⟨Vc u y+pend tag-1,by omega⟩
     rw[H]at m;have a5:WgAt ty K.h p (((ak:Nat)+1)*KK+((0:Nat):Int)) 0:=N;obtain⟨k,d,_,aa⟩:=aZ ak 0 w w a5;obtain⟨a8,aa⟩:=aa w;have bL:Vc u (upd y g ⟨1,0,1⟩)+pend tag=ak:=Of;refine book d (aside_setCell p (stA K.h) _) (m.setSt _) aX aY ca (.quit aa) a ?_ (.inl ⟨by omega,by grind⟩);have ap:((ak:Nat):Int)*KK+((0:Nat):Int)=((Vc u (upd y g ⟨1,0,1⟩)+pend tag:Nat):Int)*KK:=N;rw[ap];exact .opn bw (bn 0 aU) (λz cm=>by grind)
    |reg bw aU bP=>
     obtain⟨ak,H⟩:∃ak,Vc u y=ak+1:=⟨Vc u y-1,by omega⟩
     rw[H]at m;have cv:pend tag=0:=by cases tag<;>first|rfl|exact bw.elim
     have a5:WgAt ty K.h p (((ak:Nat)+1)*KK+((1:Nat):Int)) 0:=N;obtain⟨k,d,bX,aa⟩:=aZ ak 1 w w a5;by_cases bM:ak=0
     .subst bM;obtain⟨av,ae⟩:=bX ⟨rfl,rfl⟩;refine book d (aside_setCell p (stA K.h) _) (m.setSt _) aX aY ca (.d2 ae) a ?_ (.inl ⟨by omega,by simp[cnt]⟩);have aH:∀x,x<u->x≠g->(y x).stage=1:=λx bc ap=>by have bA:=others_uncounted hn H bD x bc ap;have:=aU x bc;simp only[cnt]at bA;split at bA<;>omega
      have:=Go.ConcN.Mode.last (j:=u) (D:=upd y g ⟨4,0,1⟩) (tag:=tag) g bw hn wF (λx bc ap=>by rw[upd_ne y _ ap];grind);rw[upd_same]at this;grind
     obtain⟨a8,aa⟩:=aa w;have bL:Vc u (upd y g ⟨1,0,1⟩)=ak:=Of;refine book d (aside_setCell p (stA K.h) _) (m.setSt _) aX aY ca (.quit aa) a ?_ (.inl ⟨by omega,by grind⟩);have ap:((ak:Nat):Int)*KK+((1:Nat):Int)=((Vc u (upd y g ⟨1,0,1⟩):Nat):Int)*KK+1:=N;rw[ap];exact .reg bw (bn 0 aU) w
    |last L _ aU bP cy=>
     grind
    |sema aU=>have:=aU g hn;omega
    |fin _ aU=>have:=aU g hn;omega
   obtain⟨k,M,V,d,⟨rfl,rfl⟩,I⟩:=e p (Go.ConcN.RW.refl p);exact ah d (.d1 I) a
  |d2 s=>
   rcases Goes.cases s with f|⟨A,rfl,e⟩
   .obtain⟨_,aD⟩:=f p (Go.ConcN.RW.refl p);obtain⟨az,aH,aE,aF⟩:=i.mode.isLast hn w;have m:=i.bX;rw[aE,aF,X]at m;obtain⟨k,d,av,ae⟩:=aD N;refine book d (.refl K.h p) m R8 RV ca (.d3 ae) a ?_ (.inl ⟨by omega,by simp[cnt]⟩);have:=Go.ConcN.Mode.last (j:=u) (D:=upd y g ⟨3,0,1⟩) (tag:=tag) g az hn wF (λx bc ap=>by rw[upd_ne y _ ap];grind);rw[upd_same]at this;grind
   obtain⟨k,M,V,d,⟨rfl,rfl⟩,I⟩:=e p (Go.ConcN.RW.refl p);exact ah d (.d2 I) a
  |d3 s=>
   rcases Goes.cases s with f|⟨A,rfl,e⟩
   .obtain⟨_,aD⟩:=f p (Go.ConcN.RW.refl p);obtain⟨az,aH,aE,aF⟩:=i.mode.isLast hn w;have m:=i.bX;rw[aE,aF,X]at m;obtain⟨k,d,av,ae⟩:=aD N;refine book d (aside_setCell p (stA K.h) _) (m.setSt 0) R8 RV ca (.d4 ae) a ?_ (.inl ⟨by omega,by simp[cnt]⟩);have:=Go.ConcN.Mode.last (j:=u) (D:=upd y g ⟨2,0,1⟩) (tag:=tag) g az hn wF (λx bc ap=>by rw[upd_ne y _ ap];grind);rw[upd_same]at this;grind
   obtain⟨k,M,V,d,⟨rfl,rfl⟩,I⟩:=e p (Go.ConcN.RW.refl p);exact ah d (.d3 I) a
  |d4 s=>
   rcases Goes.cases s with f|⟨A,rfl,e⟩
   .obtain⟨_,bH,aD⟩:=f p (Go.ConcN.RW.refl p);obtain⟨az,aH,aE,aF⟩:=i.mode.isLast hn w;have m:=i.bX;rw[aE,aF,X]at m;obtain⟨k,d,a8,aa⟩:=aD N;have bb:k.status=.running:=by
     cases a8 with
     |zero=>exact absurd aa.2 ca
     |succ a8=>exact aa.elim (λg=>absurd g.2 ca) (λg=>g.1)
    refine aL d (aside_setCell p (smA K.h) _) (m.setSm 1) (V:=semEvents (smA K.h)) ?_ ?_ ca (.quit aa) cV ?_ (.inl ⟨by omega,by simp[cnt]⟩)
    .intro ap t;simp[semEvents]at t;rcases t with rfl|rfl|rfl|rfl
     .exact .inl a
     .exact bk_cell _ _ a
     .exact bk_cell _ _ a
     exact .inr (.inl a)
    .intro hZ ap t
     match hZ,t with
     |0,t=>simp[semEvents]at t;subst t;exact .inl a
     |1,_=>exact .inr OG
     |2,_=>exact .inr OG
     |3,t=>simp[semEvents]at t;subst t;exact .inl a
     |hZ+4,t=>simp[semEvents]at t
    intro S ag ck;have b9:=ck bH bb;have bp:S=.w3:=by
     rcases ag with rfl|⟨_,rfl⟩
     .cases S<;>first|rfl|exact az.elim|grind
     simp
    subst bp;simp only[dw];exact .sema λx bc=>by
     by_cases ap:x=g
     .subst ap;rw[upd_same]
     rw[upd_ne y _ ap];grind
   obtain⟨k,M,V,d,⟨rfl,rfl⟩,I⟩:=e p (Go.ConcN.RW.refl p);exact ah d (.d4 I) a
  |quit s=>
   cases bx with
   |zero=>rw[s.1]at a2;cases a2
   |succ a8=>
    rcases s with⟨cq,_⟩|⟨_,k,V,aN,e,aa⟩
    .grind
    have ab:∀ap∈V,Bk K.h ap:=λap t=>bk_of_mute (aN ap t);have bJ:∀hZ ap,V[hZ]?=h ap->(aK ap).touch?=n∨0<deafBehind ay (V.extract 0 hZ):=λhZ ap t=>.inl (touch_mute (aN ap (uI t)));exact book (e p) (.refl K.h p) i.bX ab bJ ca (.quit aa) a (same _ _) (.inr ⟨a,a⟩)
end
end
section
open Go.Conc
open Go.ConcN (WD CTag Vc Ssum pend phi cnt WgLive PayAt Has RW DWs WSit RelBy sumTo upd upd_same upd_ne AtR0 isW3 isOpen OpenSt deafBehind_idle bk_cell okW_none Vc_upd Vc_le le_sumTo others_uncounted sumTo_upd_out bk_dis bk_en bk_rd bk_rw bk_sem allQuit_of exists_counted)
open Go.ConcR (KK WgAt stA smA rd wr mk Payload g_of_ofEvents Bk bk_of_mute ofEvent_loc_mark ofEvent_cell ofEvent_mk)
variable [Payload]
section
variable {K:hP}{ac f:ai->a6->Prop}{d et:Nat->Nat}{eJ G:Nat->Mem}{tag:CTag}{c_:ct}{O:Nat}{x:ai}{dm:pX}{dC:Option (Nat×Nat)}{o:Trace}{y:Nat->WD}{R:Nat->Nat}{av:Nat->ct}{b_ oM:Int}
omit [Payload]in
def fL.congr{i}(b:fL K d eJ o u i)(j:∀g,g<u->G g=eJ g):fL K d G o u i:=
 ⟨b.base,b.db,b.da,b.bZ,b.dT,b.ew,b.ev,λe H=>by rw[j e H];exact b.bC e H,b.bP,b.ek,b.seen,b.old,b.ee,b.eK,λm k f a d=>(b.new m k f a d).imp id λ⟨e,H,p,q⟩=>⟨e,H,p,by grind⟩,
  λe H=>by rw[j e H];exact b.eg e H,b.over⟩
def hR.congr{b x b_ O}{f}(i:hR P ty K F val d eJ b x b_ f O C p)(k:G b=eJ b):hR P ty K F val d G b x b_ f O C p:=by
 cases i with
 |c9 a g j=>exact .c9 a g N
 |rel a=>exact .rel a
 |tail e a=>exact .tail e a
def ir.congr{e:Nat}(a:ir P ty K F val d eJ u gs p o y R av e)(f:∀b,b<u->G b=eJ b):ir P ty K F val d G u gs p o y R av e:=
 ⟨a.size,a.dp,a.above,λi H=>let ⟨C,k,j⟩:=a.c6 i H;⟨C,k,j.congr (f i H)⟩,a.bt.congr f,a.dR,a.dz,a.dA,a.rel,a.di,a.dM,a.bQ,a.cZ,a.cl,a.cx,a.dn,a.aJ,λb g=>by rw[f b g];exact a.dE b g⟩
omit [Payload]in
def Z2{b6}{V}(D:gx K d eJ u b)(R:bb k b)(aM:dv b V)(A:cO k b ar b6):
  (∀f∈V,(aK f).low b6.a.heap.size)/\(∀f∈V,∀e,(aK f).touch?=h e->e.loc.isMemory=l->oZ K (lZ d b.a.heap.size 0) e) /\
  (∀f∈V,∀e,(aK f).touch?=h e->e.kind=.plain->e.write=l->∀o,o<u->∀i m s,e.loc=.cell ⟨i,m,n⟩->eJ o i m≠h s) /\
  (∀f∈V,f.loc≠.mark .disable/\f.loc≠.mark .enable)/\∀f∈V,∀e,f.loc≠.mark (.release e):=by
 have key:∀f∈V,(aK f).low b6.a.heap.size/\(∀e,(aK f).touch?=h e->e.loc.isMemory=l->oZ K (lZ d b.a.heap.size 0) e) /\
   (∀e,(aK f).touch?=h e->e.kind=.plain->e.write=l->∀o,o<u->∀i m s,e.loc=.cell ⟨i,m,n⟩->eJ o i m≠h s)/\(f.loc≠.mark .disable/\f.loc≠.mark .enable)/\∀e,f.loc≠.mark (.release e):=by
  intro f J;have x:=aM f J;obtain⟨loc,wr,Q⟩:=f;cases loc with
  |cell g=>
   obtain⟨B,C,j⟩:=x;simp only at B C j;subst B;have E:g.block<b.a.heap.size/\d g.block=0/\g.block≠K.af/\g.block≠K.h/\¬K.bz g.block:=by
    rcases j with j|⟨⟨L,I,j⟩,_⟩|⟨_,s,j⟩
    .exact j.elim
    .obtain⟨k1,p,F,q,r⟩:=D.blk _ (.inr ⟨L,I,j⟩);grind
    obtain⟨k1,p,F,q,r⟩:=D.D _ _ _ j;grind
   refine⟨by rw[ofEvent_cell];exact eE E.1 A.size,λi t _=>?_,λi t _ y o H w m s z M=>?_,⟨by simp,by simp⟩,by simp⟩
   .rw[ofEvent_cell]at t;simp[MemAct.touch?,e_]at t;subst t;exact .inr ⟨g.block,a,by grind[lq],E.2.2.2.1,E.2.2.1,E.2.2.2.2,a⟩
   rw[ofEvent_cell]at t;simp[MemAct.touch?,e_]at t;subst t;simp only at y z;have N:=D.bC o H w m s M;grind
  |obj O=>
   obtain⟨B,C⟩:=x;simp only at B C;subst B;obtain⟨L,I,j⟩:=C.resolve_left id;obtain⟨k1,p,F,q,r⟩:=D.blk _ (.inr ⟨L,I,j⟩);refine⟨?_,λi t _=>?_,λi t _ _ o _ w m s z=>?_,⟨by simp,by simp⟩,by simp⟩
   .simp[aK,MemAct.low,Loc.low];exact eE r A.size
   .simp[aK,MemAct.touch?]at t;subst t;exact .inr ⟨O,a,by grind[lq],F,p,q,a⟩
   simp[aK,MemAct.touch?]at t;grind
  |mark T=>
   simp[ia]at x;rcases x with rfl|⟨S,rfl⟩
   .exact PU
   exact PU
  |_=>exact x.elim
 grind
def DD(cE:lH P ty K F val j ac f dm gs p o d eJ u y R av O tag c_ x b b_ oM){t}{V}{qV}{nL}{k i}(J:ao P l x p=.go t bi V)(Y:∀I,I<p.heap.size->et I=d I)(N:p.heap.size<=bi.heap.size)(E:∀T,T<u->lJ K d (eJ T) T p bi)(B:∀z∈V,(aK z).low bi.heap.size)(Q:∀z∈V,∀x,(aK z).touch?=h x->x.loc.isMemory=l->oZ K et x)(S:∀z∈V,∀x,(aK z).touch?=h x->x.kind=.plain->x.write=l->∀W,W<u->∀I U af,x.loc=.cell ⟨I,U,n⟩->eJ W I U≠h af)(M:∀z∈V,∀x,z.loc≠.mark (.release x))(C:PayAt K.af F bi)(q:WgAt ty K.h bi k i)(A:hv P ty K F val j ac f qV u nL (deafBehind O V) t aE)(m:cX aE {aE with a:=bi})(Z:gx K et eJ u aE)(ab:Go.ConcN.Mode u y qV k i)(aa:phi j (Vc u y) qV<phi j (Vc u y) tag∨(phi j (Vc u y) qV=phi j (Vc u y) tag/\ct.lt nL c_)):
  ∃g r s,runT P (crowd gs p dC) 0=(.next g,r)/\k5 (K.base+j) s dm/\g2 P ty K F val j ac f s g (o++r):=by
 have ag:=cE.aF.bt.base;have D:=runT_crowd_go (P:=P) (sl:=dC) (i:=0) cE.du (by simpa using J)
 refine⟨_,_,(phi j (Vc u y) qV+Ssum u y+sumTo u R,(av,nL)),D,?_,_,bi,dC,et,eJ,u,y,R,av,deafBehind O V,qV,nL,t,aE,k,i,a,
  ⟨Go.ConcN.get_map_set_same _ _ _ Fb,A,m,Z,cE.aF.hS Y N E B Q S M C ⟨_,_,q⟩,q,ab,rfl⟩⟩
 rw[cE.eG];rcases aa with ah|⟨ae,X⟩
 .exact Prod.Lex.left _ _ w
 rw[ae];exact Prod.Lex.right _ (Prod.Lex.right _ X)
def nI(m:lH P ty K F val j ac f dm gs p o d eJ u y R av O tag c_ x b b_ oM){J}{V}{nL}{s1}(ak:cX s1 {s1 with a:=p})(ai:gx K d eJ u s1)(D:ao P l x p=.go J aE.a V)(S:kH {s1 with a:=p} aE V∨dQ K.h {s1 with a:=p} aE V)(s:hv P ty K F val j ac f tag u nL O J aE)(au:ct.lt nL c_):
  ∃z E I,runT P (crowd gs p dC) 0=(.next z,E)/\k5 (K.base+j) I dm/\g2 P ty K F val j ac f I z (o++E):=by
 rcases S with⟨⟨k,ar,aC,t,C⟩,aM⟩|⟨rfl,B,M,an⟩
 .have X:gx K d eJ u {s1 with a:=p}:=ai.rely ak.size;obtain⟨ab,ae,af,ag,ah⟩:=Z2 X aC aM C;have e:∀g,g<p.heap.size->(d g≠0∨g=K.af∨g=K.h)->aE.a.heap[g]?=p.heap[g]?:=λg q aq=>C.a7 g q λL az Q=>by obtain⟨aF,aG,aH,_⟩:=X.blk g (.inr ⟨L,az,Q⟩);grind
  have U:=m.aF.bt.base;refine DD m D (et:=lZ d p.heap.size 0) (λg q=>lq q) C.size (λay T=>⟨C.size,λg q al=>e g q (.inl w),λg W aw aB _=>t.mem g W aw (C.mem _ _ _ (ai.bC ay T g W aw aB)),λW _ _=>ni (e _ m.aF.cx (.inr (.inl a))) W,C.os,C.tape,C.output⟩) ab ae af ah ?_
   (m.bX.of_block (e _ m.aF.cl (.inr (.inr a)))) (aE:=aE) (qV:=tag) (nL:=nL) (by rw[deafBehind_idle ag];exact s) (cX.er t.mem) (X.step t C m.aF.cl m.aF.cx m.aF.dn) m.mode (.inr ⟨rfl,au⟩)
  obtain⟨aa,Y,Z⟩:=m.aF.bQ;exact⟨aa,(e _ m.aF.cx (.inr (.inl a))).trans Y,Z⟩
 have i:∀r∈V,r=mk (.read B)∨r=mk (.write B):=N;refine DD m D (et:=d) (λg q=>rfl) (bC _) (λay T=>.refl ..) (λr A=>?_) (λr A g q _=>?_) (λr A g q aD=>?_) (λr A=>?_) m.aF.bQ m.bX (aE:={s1 with a:=p}) (qV:=tag) (nL:=nL) ?_ (ak.fT ) (ai.rely ak.size) m.mode (.inr ⟨rfl,au⟩)
 .have hW:=m.aF.cl;rcases i r A with rfl|rfl<;>(rw[ofEvent_mk];show B.block<_;grind)
 .rcases i r A with rfl|rfl<;>(rw[ofEvent_mk]at q;simp[MemAct.touch?]at q;subst q;exact .inl ⟨B,rfl,M,by simp⟩)
 .rcases i r A with rfl|rfl<;>(rw[ofEvent_mk]at q;simp[MemAct.touch?]at q;grind)
 .rcases i r A with rfl|rfl<;>simp[mk]
 rw[deafBehind_idle (λr A=>by rcases i r A with rfl|rfl<;>simp[mk])];exact s
def l4(q:lH P ty K F val j ac f dm gs p o d eJ u y R av O tag c_ x b b_ oM){D}{V}{e}{s}{z w}{s1}(af:cX s1 {s1 with a:=p})(i:gx K d eJ u s1)(Q:ao P l x p=.go D bi V)(J:Aside K.h p bi)(C:WgAt ty K.h bi z w)(g:∀I∈V,Bk K.h I)(B:hv P ty K F val j ac f e u s (deafBehind O V) D {s1 with a:=bi})(k:Go.ConcN.Mode u y e z w)(ae:phi j (Vc u y) e<phi j (Vc u y) tag∨(phi j (Vc u y) e=phi j (Vc u y) tag/\ct.lt s c_)):
  ∃m r A,runT P (crowd gs p dC) 0=(.next m,r)/\k5 (K.base+j) A dm/\g2 P ty K F val j ac f A m (o++r):=by
 obtain⟨U,M,N⟩:=q.aF.bQ;have X:cX s1 {s1 with a:=bi}:=i.dg af (ri.bX J);refine DD q Q (et:=d) (λS t=>rfl) (by rw[J.size];grind) (λah W=>.bX J q.aF.bt.db q.aF.bt.base (λS ab ag Z=>(q.aF.bt.bC ah W S ab ag Z).2.2.1) q.aF.bt.bZ) (G0 g (by rw[J.size];exact q.aF.cl)) (λI T S t d=>?_) (λI T S t aa=>?_) (G1 g)
  ⟨U,(J.block _ q.aF.bt.bZ).trans M,N⟩ C B X.fT (i.rely X.size) k ae
 .rcases g I T with bm|bm|⟨E,wr,rfl,Y⟩
  .exact z4
  .exact z4
  rw[ofEvent_cell]at t;simp[MemAct.touch?,e_]at t;subst t;exact .inl ⟨E,a,Y,by simp⟩
 rcases g I T with bm|bm|⟨E,wr,rfl,Y⟩
 .exact z4
 .exact z4
 rw[ofEvent_cell]at t;simp[MemAct.touch?,e_]at t;grind
end
section
variable {K:hP}{ac al:ai->a6->Prop}{S et:Nat->Nat}{bA f:Nat->Mem}{tag:CTag}{c_:ct}{O:Nat}{x:ai}{bU:pX}{dC:Option (Nat×Nat)}{o:Trace}{y:Nat->WD}{R:Nat->Nat}{av:Nat->ct}{b_ W:Int}
def hv.gb(a:hv P ty K F val j ac al tag u c_ O x b):u+pend tag<=j:=by cases a<;>simp[pend]<;>(try simp)<;>omega
omit [Payload]in
def nE(q:gM (af.aH P ty K.h) (dQ K.h) br c_ x b)(r:cX b {b with a:=p})(o:gx K S bA u b)(g:WgLive ty K.h p):
  (∃a,cX a {a with a:=p}/\gx K S bA u a/\br x a)∨∃a,cX a {a with a:=p}/\gx K S bA u a/\∃i e f k,ao P l x p=.go i e.a f/\(kH {a with a:=p} e f∨dQ K.h {a with a:=p} e f)/\gM (af.aH P ty K.h) (dQ K.h) br k i e/\ct.lt k c_:=by
 rcases q.bc (λd=>cX d {d with a:=p}/\gx K S bA u d) (λd a M j=>⟨j.1.aP M,j.2.aP M⟩) (λG=>False.elim G) ⟨r,o⟩with⟨a,⟨k1,t⟩,m⟩|⟨_,a,⟨k1,t⟩,m⟩
 .grind
 exact .inr ⟨a,k1,t,m _ ⟨k1,λ_=>g⟩⟩
def hR.quits{f x b_ O}{e}{C}(b:hR P ty K F val S bA f x b_ e O C p)(a:b_=1):∃d,QuitsD P d O C:=by
 cases b with
 |c9 _ _ _=>cases a
 |rel _=>cases a
 |tail _ b=>exact⟨_,b.quits a⟩
def hR.jW{e x b_ O}{d}(a:hR P ty K F val S bA e x b_ d O C p)(b:b_=1):x=0:=by
 cases a with
 |c9 _ _ _=>cases b
 |rel _=>rfl
 |tail _ a=>rfl
def acO(cE:lH P ty K F val j ac al bU gs p o S bA u y R av O tag c_ x b b_ W)(bM:j<2147483648)(a0:∀C b,al C b->du (af.aH P ty K.h) (dQ K.h) (q' P ty K ac al) C b)(ba:x.status=.running):
  ∃ay i,runT P (crowd gs p dC) 0=(.next ay,i)/\((∃et aR,wZ P K F val j ac et aR ay (o++i))∨∃k,k5 (K.base+j) k bU/\g2 P ty K F val j ac al k ay (o++i)):=by
 have bF:=Vc_le u y;have bu:=cE.aF.bt.base;have e:=cE.aF.cZ;have fin:∀{q:Prop},(∃ay i k,runT P (crowd gs p dC) 0=(.next ay,i)/\k5 (K.base+j) k bU/\g2 P ty K F val j ac al k ay (o++i)) ->
   ∃ay i,runT P (crowd gs p dC) 0=(.next ay,i)/\((∃et aR,wZ P K F val j ac et aR ay (o++i))∨∃k,k5 (K.base+j) k bU/\g2 P ty K F val j ac al k ay (o++i)):=
  λ{_} ⟨ay,i,k,aB,ai,aG⟩=>⟨ay,i,aB,.inr ⟨k,ai,aG⟩⟩
 have bh:=cE.dy.gb;have bw:=cE.dy;have A:=cE.bX;have ah:=cE.mode;cases bw with
 |@fg f c_ C b I X=>
  rcases nE X cE.rely cE.aH e with⟨aE,k1,t,_,hA,H,d⟩|⟨aE,k1,t,hA,b6,V,g,H,Z,d,aM⟩
  .obtain⟨aa,d⟩:=d {aE with a:=p} (mJ k1 e);exact fin (q:=True) (l4 cE k1 t (H p) (.refl K.h p) A bk_dis (.fP I d) (ah.reopen B B a D) (.inl mb))
  exact fin (q:=True) (nI cE k1 t H Z (.fg I d) aM)
 |@fP f c_ C b I X=>
  rcases nE X cE.rely cE.aH e with⟨aE,k1,t,_,az⟩|⟨aE,k1,t,hA,b6,V,g,H,Z,d,aM⟩
  .obtain⟨an,J,Q,_⟩:=ah.open_inv B;rw[J,Q]at A;obtain⟨fS,H,aa,d⟩:=az {aE with a:=p} (mJ k1 e) (Vc (j-(f+1)) y) w (by simpa[pend]using A);refine fin (q:=True) (l4 cE k1 t H (aside_setCell p (stA K.h) _) (A.setSt _) bk_rw (.fR I d) ?_ (.inl mb));have ag:(((Vc (j-(f+1)) y:Nat):Int)+1)*KK=((Vc (j-(f+1)) y+pend (.sp f 3):Nat):Int)*KK:=by simp[pend]
   rw[ag];exact .opn B an D
  exact fin (q:=True) (nI cE k1 t H Z (.fP I d) aM)
 |@fR f c_ C b I X=>
  rcases nE X cE.rely cE.aH e with⟨aE,k1,t,_,hA,H,d⟩|⟨aE,k1,t,hA,b6,V,g,H,Z,d,aM⟩
  .obtain⟨aa,d⟩:=d {aE with a:=p} (mJ k1 e);exact fin (q:=True) (l4 cE k1 t (H p) (.refl K.h p) A bk_en (.fQ I d) (ah.reopen B B a D) (.inl mb))
  exact fin (q:=True) (nI cE k1 t H Z (.fR I d) aM)
 |@fQ f c_ C b I X=>
  rcases nE X cE.rely cE.aH e with⟨aE,k1,t,_,az⟩|⟨aE,k1,t,hA,b6,V,g,H,Z,d,aM⟩
  .obtain⟨fS,rF,bl,_,⟨rc,bo⟩,ar⟩:=az {aE with a:=p} (mJ k1 e);obtain⟨an,J,Q,_⟩:=ah.open_inv B;rw[J,Q]at A;have r:=runT_crowd_spawn (P:=P) (sl:=dC) (i:=0) cE.du (by simpa using bl);rw[cE.aF.size]at r;have bs:=t.rely k1.size;let aR:=upd bA (j-(f+1)) aE.D;have a1:∀bv,bv<j-(f+1)->aR bv=bA bv:=λbv bb=>upd_ne bA _ w;have aH:aR (j-(f+1))=aE.D:=upd_same bA _ _;have aJ:cX (a6.dx {aE with a:=p}) {a6.dx {aE with a:=p}with a:=p}:=cX.er k1.mem;have aY:hE S (aR (j-(f+1))) (K.base+(j-(f+1))) (a6.dx {aE with a:=p}):=by
    refine⟨λaZ aw=>?_,λaZ bq br s=>⟨.inr (by rw[aH];exact s),(bs.D aZ bq br s).2.2.2.2⟩⟩;rcases aw with aw|⟨L,bE,_⟩
    .exact aw.elim
    simp[a6.dx]at bE
   have T:=(cE.aF.congr a1).spawn (fS:=fS) (E:={g:=0,fn:=x.frame.fn,pos:=x.frame.place,act:=.go (K.base+(j-(f+1)))}) (bv:={g:=K.base+(j-(f+1)),fn:=rF.frame.fn,pos:=x.frame.place,act:=.start}) ⟨rfl,rfl⟩ ⟨rfl,rfl⟩
    (λaZ bq br s=>by rw[aH]at s;exact bs.D aZ bq br s) bo aJ aY
   have bf:Vc (j-(f+1)+1) (upd y (j-(f+1)) ⟨7,0,0⟩)=Vc (j-(f+1)) y+1:=by simp[Vc,sumTo,upd_same];rw[sumTo_upd_out y _ cnt (bC _)];rfl
   have bd:Ssum (j-(f+1)+1) (upd y (j-(f+1)) ⟨7,0,0⟩)=Ssum (j-(f+1)) y+7:=by simp[Ssum,sumTo,upd_same];rw[sumTo_upd_out y _ WD.stage (bC _)]
   have bc:sumTo (j-(f+1)+1) (upd R (j-(f+1)) 1)=sumTo (j-(f+1)) R+1:=by have:sumTo (j-(f+1)) (upd R (j-(f+1)) 1)=sumTo (j-(f+1)) R:=sumTo_upd_out R 1 id (i:=j-(f+1)) (j:=j-(f+1)) (bC _);show sumTo (j-(f+1)) (upd R (j-(f+1)) 1)+upd R (j-(f+1)) 1 (j-(f+1))=_;rw[upd_same];grind
   have au:OpenSt (j-(f+1)+1) (upd y (j-(f+1)) ⟨7,0,0⟩):=λY ak=>by
    by_cases ag:Y=j-(f+1)
    .subst ag;exact wF
    rw[upd_ne y _ ag];exact an Y w
   have a2:((gs.setIfInBounds 0 fS).push rF)[0]?=h fS:=by have bg:0<gs.size:=Fb;grind
   have bt:gx K S aR (j-(f+1)+1) {aE with a:=p}:=⟨bs.blk,bs.D,λbv bb aZ bq br s=>by
    rcases dY bv (j-(f+1))with aB|aB
    .rw[a1 bv aB]at s;exact bs.bC bv aB aZ bq br s
    .obtain rfl:bv=j-(f+1):=w
     rw[aH]at s;exact s⟩
   have bx:j-(f+1)+1=j-f:=w;rw[bx]at T bf bd bc au bt;have aF:∀aq,pend aq=0->((Vc (j-(f+1)) y+pend (.sp f 2):Nat):Int)*KK=((Vc (j-f) (upd y (j-(f+1)) ⟨7,0,0⟩)+pend aq:Nat):Int)*KK:=λaq bN=>by exact hI
   cases f with
   |zero=>
    obtain⟨aQ,d⟩:=ar;simp only[sD]at T bf bd bc au aF bt;refine⟨_,_,r,.inr ⟨(phi j (Vc j (upd y (j-(0+1)) ⟨7,0,0⟩)) .kd+Ssum j (upd y (j-(0+1)) ⟨7,0,0⟩)+sumTo j (upd R (j-(0+1)) 1),(upd av (K.base+(j-(0+1))) rc,aQ)),by rw[cE.eG];exact Prod.Lex.left _ _ mb,
     _,p,dC,S,aR,j,_,_,_,0,.kd,aQ,fS,{aE with a:=p},_,_,rfl,⟨a2,.kd d,k1.fT,bt,T,A,?_,rfl⟩⟩⟩
    rw[aF .kd a];exact .opn B au D
   |succ g=>
    obtain⟨aQ,d⟩:=ar;refine⟨_,_,r,.inr ⟨(phi j (Vc (j-(g+1)) (upd y (j-(g+1+1)) ⟨7,0,0⟩)) (.sp g 5)+Ssum (j-(g+1)) (upd y (j-(g+1+1)) ⟨7,0,0⟩)+sumTo (j-(g+1)) (upd R (j-(g+1+1)) 1),(upd av (K.base+(j-(g+1+1))) rc,aQ)),by rw[cE.eG];exact Prod.Lex.left _ _ mb,
     _,p,dC,S,aR,j-(g+1),_,_,_,0,.sp g 5,aQ,fS,{aE with a:=p},_,_,rfl,⟨a2,.fg w d,k1.fT,bt,T,A,?_,rfl⟩⟩⟩
    rw[aF (.sp g 5) a];exact .opn B au D
  exact fin (q:=True) (nI cE k1 t H Z (.fQ I d) aM)
 |kd X=>
  rcases nE X cE.rely cE.aH e with⟨aE,k1,t,_,hA,H,d⟩|⟨aE,k1,t,hA,b6,V,g,H,Z,d,aM⟩
  .obtain⟨aa,d⟩:=a0 _ _ (d {aE with a:=p} (mJ k1 e));exact fin (q:=True) (l4 cE k1 t (H p) (.refl K.h p) A bk_dis (.w1 d) (ah.reopen B B a D) (.inl mb))
  exact fin (q:=True) (nI cE k1 t H Z (.kd d) aM)
 |w1 X=>
  rcases nE X cE.rely cE.aH e with⟨aE,k1,t,_,az⟩|⟨aE,k1,t,hA,b6,V,g,H,Z,d,aM⟩
  .obtain⟨an,J,Q,_⟩:=ah.open_inv B;rw[J,Q]at A;have bL:=Vc_le j y;obtain⟨fS,H,bg,bk⟩:=az {aE with a:=p} (mJ k1 e) (Vc j y) w N;by_cases s:Vc j y=0
   .obtain⟨aa,d⟩:=bg s;refine fin (q:=True) (l4 cE k1 t H (.refl K.h p) A bk_rd (.ke d) ?_ (.inl mb));have ag:((Vc j y+pend .w1:Nat):Int)*KK=0:=N;rw[ag];exact .fin B (allQuit_of an s)
   obtain⟨aa,d⟩:=bk s;refine fin (q:=True) (l4 cE k1 t H (.refl K.h p) A bk_rd (.w2 d) ?_ (.inl mb));have:=ah.reopen (tag':=.w2 (Vc j y)) B B a (λz ag=>by grind);grind
  exact fin (q:=True) (nI cE k1 t H Z (.w1 d) aM)
 |@w2 z c_ C b X=>
  rcases nE X cE.rely cE.aH e with⟨aE,k1,t,_,az⟩|⟨aE,k1,t,hA,b6,V,g,H,Z,d,aM⟩
  .obtain⟨an,J,Q,bn⟩:=ah.open_inv B;rw[J,Q]at A;obtain⟨bI,aB⟩:=bn z rfl;obtain⟨a8,aS⟩:=az {aE with a:=p} (mJ k1 e) (Vc j y) w N;by_cases ag:Vc j y=z
   .obtain⟨fS,H,aa,d⟩:=a8 ag;exact fin (q:=True) (l4 cE k1 t H (aside_setCell p (stA K.h) _) (A.setSt _) bk_rw (.w3 d) (.reg B an w) (.inl mb))
   obtain⟨fS,H,d⟩:=aS ag;obtain⟨aa,d⟩:=a0 _ _ d;refine fin (q:=True) (l4 cE k1 t H (.refl K.h p) A bk_rd (.w1 d) ?_ (.inl mb));have:=ah.reopen (tag':=.w1) B B a D;grind
  exact fin (q:=True) (nI cE k1 t H Z (.w2 d) aM)
 |@w3 c_ C b X=>
  rcases nE X cE.rely cE.aH e with⟨aE,k1,t,aU⟩|⟨aE,k1,t,hA,b6,V,g,H,Z,d,aM⟩
  .obtain⟨_,a_,az⟩:=aU;obtain⟨aI,aX⟩:=az {aE with a:=p} (mJ k1 e);obtain⟨E,m⟩:=ct.jl b c_;have aP:=oU.rely ⟨ba,a_,az⟩ (mJ k1 e);generalize b_=bK at ah A;generalize W=bJ at ah A;cases ah with
   |opn aB _ _=>exact aB.elim
   |reg aB ai aG=>exact fin (q:=True) (l4 cE k1 t (aI ⟨_,A⟩) (.refl K.h p) A D (.blk (c_:=E) aP) (.reg B ai aG) (.inr ⟨rfl,m⟩))
   |last L aB ai aG bD=>exact fin (q:=True) (l4 cE k1 t (aI ⟨_,A⟩) (.refl K.h p) A D (.blk (c_:=E) aP) (.last L B ai aG bD) (.inr ⟨rfl,m⟩))
   |sema ai=>
    obtain⟨fS,H,aa,d⟩:=aX A;exact fin (q:=True) (l4 cE k1 t H (aside_setCell p (smA K.h) _) (A.setSm 0) bk_sem (.w4 d) (.fin B ai) (.inl mb))
   |fin aB _=>exact aB.elim
  exact fin (q:=True) (nI cE k1 t H Z (.w3 d) (ct.hd aM))
 |blk X=>grind
 |w4 X=>
  rcases nE X cE.rely cE.aH e with⟨aE,k1,t,_,az⟩|⟨aE,k1,t,hA,b6,V,g,H,Z,d,aM⟩
  .obtain⟨ae,J,Q⟩:=ah.fin_inv B;rw[J,Q]at A;obtain⟨fS,H,aa,d⟩:=az {aE with a:=p} (mJ k1 e) A;exact fin (q:=True) (l4 cE k1 t H (.refl K.h p) A bk_rd (.ke d) (.fin B ae) (.inl mb))
  exact fin (q:=True) (nI cE k1 t H Z (.w4 d) aM)
 |ke X=>
  rcases nE X cE.rely cE.aH e with⟨aE,k1,t,_,hA,H,d⟩|⟨aE,k1,t,hA,b6,V,g,H,Z,d,aM⟩
  .obtain⟨aa,d⟩:=d {aE with a:=p} (mJ k1 e);obtain⟨ae,J,Q⟩:=ah.fin_inv B;rw[J,Q]at A;exact fin (q:=True) (l4 cE k1 t (H p) (.refl K.h p) A bk_en (.acq d) (.fin B ae) (.inl mb))
  exact fin (q:=True) (nI cE k1 t H Z (.ke d) aM)
 |acq X=>
  rcases nE X cE.rely cE.aH e with⟨aE,k1,t,_,fS,H,d⟩|⟨aE,k1,t,hA,b6,V,g,H,Z,d,aM⟩
  .obtain⟨ae,J,Q⟩:=ah.fin_inv B;have r:=runT_crowd_go (P:=P) (sl:=dC) (i:=0) cE.du (by simpa using H p);have a5:MemOp.ofEvents 0 x.frame.fn x.frame.place #[mk (.acquire (stA K.h))]=#[{g:=0,fn:=x.frame.fn,pos:=x.frame.place,act:=.mark (.acquire (stA K.h))}]:=by rw[ofEvents_eq];simp[ofEvent_mk]
   have aC:=cE.aF.hS (C:=x) (hA:=fS) (fn:=x.frame.fn) (pos:=x.frame.place) (V:=#[mk (.acquire (stA K.h))]) (et:=S) (bi:=p) (λ_ _=>rfl) (bC _) (λbv _=>.refl ..) (by simp;exact cE.aF.cl) (by intro ag ab aZ aw;simp at ab;subst ab;exact cV) (by intro ag ab aZ aw;simp at ab;subst ab;simp[mk,aK,MemAct.touch?]at aw) (by intro ag ab;simp at ab;subst ab;simp[mk]) cE.aF.bQ e;have bG:deafBehind 0 #[mk (.acquire (stA K.h))]=0:=rfl;have bb:(o++#[({g:=0,fn:=x.frame.fn,pos:=x.frame.place,act:=.mark (.acquire (stA K.h))}:MemOp)])[o.size]?=h {g:=0,fn:=x.frame.fn,pos:=x.frame.place,act:=.mark (.acquire (stA K.h))}:=D
   have aT:=aC.bt.jE (by rw[aC.dz];rfl) (aC.dR _) (bm:=o.size) (by rw[a5,act?_of bb]) (by rw[a5];simp[Trace.g?]) (by rw[a5];exact⟨0,by simp[Trace.g?],by rw[deaf_old (bC _)];exact cE.aF.dz⟩) (λE m=>by
    obtain⟨f,I⟩:=cE.aF.rel E m (by rw[ae E m];omega)
    exact⟨f,I.appOther g_of_ofEvents w,lt_of_act? I.act⟩)
   have aN:∃bm,Leavers P (o++MemOp.ofEvents 0 x.frame.fn x.frame.place #[mk (.acquire (stA K.h))]) ((gs.map (woken P x fS p)).setIfInBounds 0 fS) bm:=by
    have aD:∀Y,∃bp,∀C,0<Y->((gs.map (woken P x fS p)).setIfInBounds 0 fS)[Y]?=h C->QuitsD P bp (Deaf (o++MemOp.ofEvents 0 x.frame.fn x.frame.place #[mk (.acquire (stA K.h))]) Y) C:=by
     intro Y;cases aL:((gs.map (woken P x fS p)).setIfInBounds 0 fS)[Y]? with
     |none=>simp
     |some C=>
      rcases n9 Y with ag|ao
      .exact⟨0,λhA X=>by omega⟩
      rcases dY Y K.base with aM|bH
      .obtain⟨bp,_,bj⟩:=aC.dp Y C ao aM aL;exact⟨bp,λhA _ a3=>by grind⟩
      obtain⟨E,rfl⟩:∃E,Y=K.base+E:=⟨Y-K.base,by omega⟩
      have m:E<j:=by have:=(jl.1 aL).1;rw[aC.size]at this;omega
      obtain⟨bB,a4,aO⟩:=aC.c6 E m;rw[aL]at a4;cases a4;obtain⟨bp,bj⟩:=aO.quits (ae E m);refine⟨bp,λhA _ a3=>?_⟩;cases a3;rw[aC.dA E m];omega
    exact⟨λY=>Classical.choose (aD Y),λY C ak M=>Classical.choose_spec (aD Y) C ak M,λY ak=>aC.above Y (by rw[aC.size]at ak;exact ak)⟩
   obtain⟨bm,aN⟩:=aN;refine⟨_,_,r,.inl ⟨S,bA,⟨_,p,dC,fS,aE,bm,rfl,Go.ConcN.get_map_set_same _ _ _ Fb,aC.size,d {aE with a:=p} (mJ k1 e),k1,t,aN,aT,aC.dR,cE.aF.bQ,λE m Y ak=>?_,cE.aF.cx,cE.aF.cl,cE.aF.dn⟩⟩⟩;obtain⟨bB,_,aO⟩:=cE.aF.c6 E m;rcases n9 Y with ag|ao
   .subst ag;exact cE.aF.dM E m (by rw[ae E m];omega)
   exact cE.aF.di E m (aO.jW (ae E m)) Y ao ak
  exact fin (q:=True) (nI cE k1 t H Z (.acq d) aM)
end
end
section
open Go.Conc
open Go.ConcN (WD CTag Vc Ssum pend phi cnt WgLive PayAt Has WSit RelBy sumTo upd upd_same upd_ne exists_counted)
open Go.ConcR (KK WgAt stA smA Payload)
variable [Payload]
section
variable {K:hP}{ac t:ai->a6->Prop}{d:Nat->Nat}{bA:Nat->Mem}{tag:CTag}{c_:ct}{O:Nat}{x:ai}{al:pX}{dC:Option (Nat×Nat)}{o:Trace}{y:Nat->WD}{R:Nat->Nat}{av:Nat->ct}{b_ S:Int}
def hR.running_of{b x b_ O}{g}{C}(f:hR P ty K F val d bA b x b_ g O C p)(e:b_≠1):C.status=.running:=by
 cases f with
 |c9 a _ _=>exact a.run λ_ _ b=>b.1
 |rel a=>exact Goes.running (λ_ _ b=>b.1) p (Go.ConcN.RW.refl p) a
 |tail _ a=>exact a.running_of e
def acz(f:lH P ty K F val j ac t al gs p o d bA u y R av O tag c_ x b b_ S):∃(m:Nat)(e:ai),gs[m]?=h e/\e.status=.running:=by
 rcases f.dy.status with⟨g,_⟩|⟨_,rfl⟩
 .exact⟨0,x,f.du,g⟩
 have r:=f.mode;cases r with
 |opn a _ _=>exact a.elim
 |reg _ _ q=>
  obtain⟨m,k,z⟩:=exists_counted q;obtain⟨e,i,g⟩:=f.aF.c6 m k;exact⟨_,e,i,g.running_of w⟩
 |last L _ s q _=>
  obtain⟨e,i,g⟩:=f.aF.c6 L s;exact⟨_,e,i,g.running_of w⟩
 |fin a _=>exact a.elim
def SM(e:lH P ty K F val j ac t al gs p o d bA u y R av O tag c_ x b b_ S):∀m∈gs,awake m:=by
 intro m B E;obtain⟨i,a⟩:=Array.mem_iff_getElem?.1 B;rcases n9 i with rfl|r
 .rw[e.du]at a;cases a;rcases e.dy.status with⟨f,_⟩|⟨f,_⟩<;>rw[f]<;>simp
 rcases dY i K.base with w|D
 .obtain⟨A,_,z⟩:=e.aF.dp i m r w a;rcases z.status with g|g<;>rw[g]<;>simp
 obtain⟨k,rfl⟩:∃k,i=K.base+k:=⟨i-K.base,by omega⟩
 have C:k<u:=by have:=(jl.1 a).1;rw[e.aF.size]at this;omega
 obtain⟨s,q,f⟩:=e.aF.c6 k C;rw[a]at q;cases q;rcases f.status with g|g<;>rw[g]<;>simp
def lH.at(e:lH P ty K F val j ac t al gs p o d bA u y R av O tag c_ x b b_ S)(II):lH P ty K F val j ac t al gs (p.at II) o d bA u y R av O tag c_ x b b_ S:=
 ⟨e.du,e.dy,e.rely.eF (bC _) (λ_ _=>rfl) (λ_ _ _ _ f=>f) a a a,e.aH,e.aF.at II,e.bX,e.mode,e.eG⟩
def acN(g:lH P ty K F val j ac t al gs p o d bA u y R av O tag c_ x b b_ S)(r:0<e)(I:e<K.base)(A:gs[e]?=h C)(B:C.status=.running):
  ∃E i m,runT P (crowd gs p dC) e=(.next E,i)/\k5 (K.base+j) m al/\g2 P ty K F val j ac t m E (o++i):=by
 obtain⟨z,G,M⟩:=g.aF.dp e C r I A;cases z with
 |zero=>rw[M.1]at B;cases B
 |succ z=>
  rcases M with⟨H,_⟩|⟨_,q,V,X,U,J⟩
  .grind
  .have Y:(e==0)=v:=N;have T:=runT_crowd_go (P:=P) (sl:=dC) (i:=e) A (by rw[Y];exact U p)
   obtain⟨f,k,W,D,Z⟩:=g.dy.h4 C q p;have Q:Go.ConcN.Mode u y f b_ S:=g.mode.retag D;refine⟨_,_,(phi j (Vc u y) f+Ssum u y+sumTo u R,(upd av e (ct.dG z),k)),T,?_,_,p,dC,d,bA,u,y,R,_,O,f,k,woken P C q p x,b,b_,S,a,
    ⟨by rw[Go.ConcN.get_map_set _ _ _ _ w,g.du];rfl,W,g.rely,g.aH,g.aF.bs r I X J,g.bX,Q,rfl⟩⟩
   rw[g.eG,Go.ConcN.phi_retag j _ D];exact Prod.Lex.right _ (Prod.Lex.left _ _ ⟨e,by omega,by rw[upd_same,G];exact ct.gr _ b,λaa s=>upd_ne av _ s⟩)
def Zh(M:j<2147483648)(y:∀q s,t q s->du (af.aH P ty K.h) (dQ K.h) (q' P ty K ac t) q s){A}(D:g2 P ty K F val j ac t al A o):
  ∃e a,stepT P A=(.next e,a)/\((∃g d,wZ P K F val j ac g d e (o++a))∨∃f,k5 (K.base+j) f al/\g2 P ty K F val j ac t f e (o++a)):=by
 obtain⟨C,Q,dC,X,Z,x,T,S,V,B,tag,N,W,s,O,Y,rfl,b⟩:=D;obtain⟨k,q,m,r,i,p,E⟩:=crowd_pick (P:=P) (w:=Q) (sl:=dC) (SM b) (acz b);rw[E];have w:=b.at m;have z:x<=j:=by have:=b.dy.gb;omega
 rcases n9 k with rfl|J
 .rw[b.du]at i;cases i;exact acO (dC:=r) w M y p
 rcases dY k K.base with R|U
 .obtain⟨e,a,f,H,G,I⟩:=acN (dC:=r) w J R i p;grind
 obtain⟨u,rfl⟩:∃u,k=K.base+u:=⟨k-K.base,by omega⟩
 have L:u<x:=by have:=(jl.1 i).1;rw[b.aF.size]at this;omega
 obtain⟨e,a,f,H,G,I⟩:=acS (dC:=r) w M z b.dy.gb L i p;grind
def Zi(B:j<2147483648)(y:∀s w,t s w->du (af.aH P ty K.h) (dQ K.h) (q' P ty K ac t) s w):∀i(q:Machine)g,g2 P ty K F val j ac t i q g ->
  ∃o m k b a,runNT P o q g=(.next m,k)/\wZ P K F val j ac b a m k:=by
 intro i;induction(aag (K.base+j)).apply i with
 |intro i _ A=>
  intro q g x;obtain⟨r,d,u,e⟩:=Zh B y x;rcases e with⟨b,a,e⟩|⟨f,e,p⟩
  .exact⟨1,r,g++d,b,a,by simp[runNT,u],e⟩
  obtain⟨o,m,k,b,a,k1,z⟩:=A f e r (g++d) p;exact⟨o+1,m,k,b,a,by simp only[runNT,u];exact k1,z⟩
def k2.gh{cI}{Y:ai->a6->Prop}(vE)(an:0<vE)(bn M)(aI:j<2147483648)(au:M≠bn)(Z:e9 b cI)(aL:C.status=.running)(ae:∃L∈b.s,M∈L.aj)(ah:∃L∈b.s,bn∈L.aj)(aC:∀d,(b.own d∨∃L∈b.s,d∈L.aj)->d<b.a.heap.size)(bf:∀d,(d=M∨d=bn)->¬cI.own d/\(∀L∈cI.s,d∉L.aj)/\∀o,cI.D d o=n)(aE:WgAt ty bn b.a 0 0)(Q:PayAt M F b.a)(bd:∀k:hP,k.h=bn->k.af=M->k.aJ=vE->∃X U,(∀C b,U C b->du (af.aH P ty k.h) (dQ k.h) (q' P ty k X U) C b)/\oY P ty k F val j U j C cI /\
   ∀aa i,X aa i->gy i->PayAt M F i.a->(∀f,f<j->∀r,r<vE->i.a.cell? ⟨M,vE*f+r,n⟩=h (val f r))->M<i.a.heap.size->(∀d,(d=M∨d=bn)->¬i.own d/\(∀L∈i.s,d∉L.aj)/\∀o,i.D d o=n) ->
    ∃w,Y aa w/\w.a=i.a/\gy w/\∀g:Nat->Prop,g1 g i->¬g M->g1 g w):k2 P C b Y:=by
 intro g p T aO a8 bl K G ag x av;have bb:¬g M:=λS=>let ⟨L,G,e⟩:=ae;x.s M S L G e
 have bc:¬g bn:=λS=>let ⟨L,G,e⟩:=ah;x.s bn S L G e
 have O:=aC M (.inr ae);have a':=aC bn (.inr ah);have R:1<=p.size:=(jl.1 K).1;let k:hP:={bz:=g,bP:=aO.size,h:=bn,af:=M,base:=p.size,aJ:=vE}
 obtain⟨X,U,ab,V,ba⟩:=bd k rfl rfl rfl;have aM:=x.aP Z;have I:gy cI:=.aP Z;have aQ:gx k (λ_=>0) (λ_ _ _=>n) 0 cI:=by
  refine⟨λd e=>⟨a,λm=>N,λm=>N,λm=>?_,by rw[Z.a];exact aC d (Z.blk d e)⟩,λd o aB t=>⟨a,λm=>?_,λm=>?_,λm=>?_,gy.lt I t⟩,λf q=>absurd q (iU f)⟩
  .rcases e with e|⟨L,G,e⟩
   .exact aM.own d m e
   exact aM.s d m L G e
  .grind
  .grind
  rw[aM.D d m o]at t;cases t
 have aS:ir P ty k F val (λ_=>0) (λ_ _ _=>n) 0 p b.a aO (λ_=>⟨0,0,0⟩) (λ_=>0) (λr=>ct.dG (a8 r)) 0:=
  ⟨rfl,λr C s _ al=>⟨a8 r,rfl,G.old r C s al⟩,G.above,λf q=>absurd q (iU f),fL.start ag a R au bc bb,av,ag.hears,λf q=>absurd q (iU f),λf q=>absurd q (iU f),λf q=>absurd q (iU f),λf q=>absurd q (iU f),
   Q,⟨_,_,aE⟩,a',O,x.lt,an,λf q=>absurd q (iU f)⟩
 have aT:cX cI {cI with a:=b.a}:=by have:=cX.er I;rw[<-Z.a];exact this
 have aP:∃aG,g2 P ty k F val j X U aG (crowd p b.a T) aO:=by
  cases j with
  |zero=>
   obtain⟨az,V⟩:=V;exact⟨_,p,b.a,T,_,_,0,_,_,_,0,.kd,az,C,cI,_,_,a,⟨K,.kd V,aT,aQ,aS,aE,by have:=Go.ConcN.Mode.opn (j:=0) (D:=λ_=>(⟨0,0,0⟩:WD)) (tag:=.kd) B (λr s=>absurd s (iU r)) D;simpa[Vc,sumTo,pend]using this,a⟩⟩
  |succ j=>
   obtain⟨az,V⟩:=V;have A:hv P ty k F val (j+1) X U (.sp j 5) (j+1-(j+1)) az 0 C cI:=.fg (Nat.lt_succ_self j) V;rw[sI]at A;exact⟨_,p,b.a,T,_,_,0,_,_,_,0,.sp j 5,az,C,cI,_,_,a,⟨K,A,aT,aQ,aS,aE,by have:=Go.ConcN.Mode.opn (j:=0) (D:=λ_=>(⟨0,0,0⟩:WD)) (tag:=.sp j 5) B (λr s=>absurd s (iU r)) D;simpa[Vc,sumTo,pend]using this,a⟩⟩
 obtain⟨aG,aP⟩:=aP;obtain⟨bk,bg,bj,E,W,ay,⟨aU,z,a9,aF,H,bh,rfl,a1,_,aZ,J,ao,aX,aY,aJ,aw,a_,aq,a4,ar⟩⟩:=Zi aI ab aG _ _ aP;have aD:gx k E W j {H with a:=z}:=ao.rely J.size;have aR:∀d,(d=M∨d=bn∨g d)->¬H.own d/\(∀L∈H.s,d∉L.aj)/\∀o,H.D d o=n:=by
  intro d e;have key:∀f,(E f=0/\f≠k.af/\f≠k.h/\¬k.bz f/\f<z.heap.size)->f≠d:=N;refine⟨λaK=>key d (aD.blk d (.inl aK)) a,λL G ak=>key d (aD.blk d (.inr ⟨L,G,ak⟩)) a,λo=>?_⟩;cases aH:H.D d o with
  |none=>rfl
  |some aB=>exact absurd rfl (key d (aD.D d o aB aH))
 obtain⟨w,a0,a7,a5,a2⟩:=ba aF {H with a:=z} aZ (λd o aB t=>J.mem d o aB t) aw a_ aq (λd e=>aR d (e.elim .inl λm=>.inr (.inl m)));have a3:g1 (λd=>g d∨d=bn) {H with a:=z}:=by have aN:∀d,(g d∨d=bn)->¬H.own d/\(∀L∈H.s,d∉L.aj)/\∀o,H.D d o=n:=λd e=>aR d (e.elim (λm=>.inr (.inr m)) λm=>.inr (.inl m));exact⟨λd e=>(aN d e).1,λd e=>(aN d e).2.1,λd e=>(aN d e).2.2,λd e=>e.elim (ar d) λm=>by grind⟩
 grind
end
end
section
open Go.Conc Go.RowKit Go.Conc.Lib Go.ConcR.Gen
open Go.ConcN (WgLive)
open Go.ConcR (KK WgAt stA smA rd wr mk DC0)
variable {L:WgLink}
section
variable (P:aD)(dm:au->au->Prop)(L:WgLink)(bn:Nat)(hB:ai)
def AB(b:ai)(_:au):Prop:=b.status=.running/\∃a,(∀d,ao P l b d=.go a d #[mk .enable])/\∀w1,WgLive L.tWg bn w1->∃e,Goes P l dm DC0 (λb _=>b=hB) e a w1
def So(d:ai)(_:au):Prop:=d.status=.running/\∃b a,a.block=bn/\(∀e,ao P l d e=.go b e #[mk (.read a)])/\∀w1,WgLive L.tWg bn w1->∃f,Goes P l dm DC0 (AB P dm L bn hB) f b w1
def Gf(b:ai)(a:au):Prop:=b.status=.running/\∀e:Nat,e<2147483647->WgAt L.tWg bn a (e*KK) 0 ->
 ∃d,ao P l b a=.go d (a.setCell (stA bn) (.int .u64 ((e+1)*KK))) #[rd (stA bn),wr (stA bn)]/\∃f,Goes P l dm DC0 (λb a=>So P dm L bn hB b a∨AB P dm L bn hB b a) f d (a.setCell (stA bn) (.int .u64 ((e+1)*KK)))
def Sn(b:ai)(_:au):Prop:=b.status=.running/\∃a,(∀d,ao P l b d=.go a d #[mk .disable])/\∀w1,WgLive L.tWg bn w1->∃e,Goes P l dm DC0 (Gf P dm L bn hB) e a w1
end
set_option maxRecDepth 100000 in
def SJ{P}(H:WgLib P L){dm:au->au->Prop}{bn}(d:∀{f w1},WgLive L.tWg bn f->dm f w1->WgLive L.tWg bn w1){hU:aG}{hT}{gp:Array an}{hY:Nat}{h1:m Nat}{h0:m Item}(f:au)(b:WgLive L.tWg bn f):
  Goes P l dm DC0 (Sn P dm L bn (G (hU.at (hT.put ((gp[hY]?).bind (·.dst)) (.tuple #[])) (.inRegion gp h1::h0)) ah)) 12
   (G ((base L.add).at ⟨#[.pointer (h ⟨bn,0,n⟩),.int .i64 1,J,J,J,J,J,J,J,J,J,J,J,J,J,J,J,J,J,J,J,J,J,J,J,J,J,J,J,J,J,J,J,J,J,J,J,J,J,J,J,J,J,J,J,J,J,J,J,J,J,J,J,J,J,J,J,J,J,J,J,J,J,J,J,J,J,J,J,J,J,J,J,J,J,J,J,J,J,J,J,J,J,J,J,J,J,J,J,J,J,J,J,J,J,J,J,J,J,J,J,J,J,J,J,J,J,J,J,J,J,J,J,J,J,J,J],[]⟩ [.code (body_add L)]) (hU.at hT (.inRegion gp (hY::h1)::h0)::ah)) f:=by
 lib_facts
 simp only[body_add,addFn,h9]
 repeat (u_c aw d b)
 u_cond l d b
 repeat (u_c aw d b)
 u_reg d b
 u_op d b
 u_op d b
 u_c aB d b
 repeat (u_c aw d b)
 u_cond v d b
 u_c stepG_skip d b
 repeat (u_c aw d b)
 u_reg d b
 refine Goes.stop (λy k=>?_);refine⟨a,_,λf=>stepG_mark0 .disable D a a (by k_ne) a H.f_disable (x_disable_n L) (x_disable_b L) (x_disable_x L) (x_disable_f L),λf b=>?_⟩;clear k;refine⟨40,?_⟩
 walk_nrm
 u_c aB d b
 repeat (u_c aw d b)
 u_reg d b
 u_defer d b
 u_c aB d b
 repeat (u_c aw d b)
 u_reg d b
 u_op d b
 u_c aB d b
 repeat (u_c aw d b)
 u_reg d b
 u_bub d b
 u_c aB d b
 repeat (u_c aw d b)
 u_cond v d b
 u_c stepG_skip d b
 repeat (u_c aw d b)
 u_reg d b
 u_op d b
 u_op d b
 u_op d b
 u_op d b
 u_op d b
 u_op d b
 u_call H.f_uAdd (nm_uAdd L) uAddFn d b
 repeat (u_c aw d b)
 u_reg d b
 u_op d b
 u_c aB d b
 repeat (u_c aw d b)
 u_reg d b
 u_op d b
 u_op d b
 u_op d b
 u_op d b
 refine Goes.stop (λo j=>?_);replace b:=d b j;clear j;refine⟨a,λe B g=>?_⟩;have t:KK=4294967296:=rfl;have u:IntKind.u64.wrap ((e:Int)*KK+4294967296)=((e:Int)+1)*KK:=by rw[IntKind.wrap_u64];simp only[t];omega
 refine⟨_,(stepG_add_atomic a a (by k_ne) a H.f_addU64 (x_addU64_n L) (x_addU64_b L) (x_addU64_x L) .u64 (x_addU64_f L) a a g.cellSt (g.thaw 0)).trans (by rw[u];rfl),110,?_⟩;replace b:WgLive L.tWg bn (o.setCell (stA bn) (.int .u64 (((e:Int)+1)*KK))):=⟨_,_,g.setSt _⟩
 clear g
 walk_nrm
 u_op d b
 u_c aB d b
 u_c stepG_ret' d b
 u_leave1 H.f_uAdd d b
 u_op d b
 u_c aB d b
 have p:bits .and .u64 (((e:Int)+1)*4294967296) 2147483648=0:=by have:=Go.ConcN.st_flag (e+1) 0 w w;grind
 have q:bits .and .u64 (((e:Int)+1)*4294967296) 2147483647=0:=by have:=Go.ConcN.st_waiters (e+1) 0 w w;grind
 have f3:((e:Int)+1+2147483648) % 4294967296-2147483648=(e:Int)+1:=w;have f5:¬((e:Int)+1<0):=w;have f6:(0:Int)<(e:Int)+1:=w
 repeat (u_c aw d b)
 u_reg d b
 u_op d b
 u_op d b
 u_op d b
 u_op d b
 u_skip d b
 u_skip d b
 u_op d b
 u_c aB d b
 repeat (u_c aw d b)
 u_cond v d b
 u_c stepG_skip d b
 repeat (u_c aw d b)
 u_reg d b
 u_op d b
 u_op d b
 u_op d b
 u_op d b
 u_c aB d b
 repeat (u_c aw d b)
 u_reg d b
 u_op d b
 u_op d b
 u_op d b
 u_op d b
 u_c aB d b
 by_cases A:(e:Int)+1=1
 .repeat (u_c aw d b)
  u_reg d b
  u_op d b
  u_op d b
  u_op d b
  u_op d b
  u_op d b
  u_op d b
  u_op d b
  u_op d b
  u_op d b
  u_op d b
  u_c aB d b
  repeat (u_c aw d b)
  u_cond l d b
  repeat (u_c aw d b)
  u_reg d b
  u_op d b
  u_op d b
  u_op d b
  u_conv H.underlying_tPU32 H.room_tU32 (Go.ConcN.Gen.WgLive.cell1 b).choose_spec d b
  refine Goes.stop (λx r=>.inl ?_);clear r;refine⟨a,_,⟨bn,1,n⟩,a,λf=>stepG_markAt .read D a a (by k_ne) a H.f_raceRead (x_raceRead_n L) (x_raceRead_b L) (x_raceRead_x L) (x_raceRead_f L) (ad:=⟨bn,1,n⟩) (by simp[Act.eval]),λf b=>⟨50,?_⟩⟩
  walk_nrm
  u_c aB d b
  repeat (u_c aw d b)
  u_reg d b
  u_op d b
  u_op d b
  u_c aB d b
  repeat (u_c aw d b)
  u_cond v d b
  u_c stepG_skip d b
  repeat (u_c aw d b)
  u_reg d b
  u_op d b
  u_op d b
  u_op d b
  u_skip d b
  u_skip d b
  u_op d b
  u_op d b
  u_skip d b
  u_skip d b
  u_skip d b
  u_skip d b
  u_op d b
  u_c aB d b
  repeat (u_c aw d b)
  u_cond v d b
  u_c stepG_skip d b
  repeat (u_c aw d b)
  u_reg d b
  u_op d b
  u_op d b
  u_op d b
  u_skip d b
  u_skip d b
  u_op d b
  u_c aB d b
  repeat (u_c aw d b)
  u_cond l d b
  u_c stepG_ret' d b
  refine Goes.stop (λs i=>?_);clear i;refine⟨a,_,λf=>stepG_unwind_entry (v:=.tuple #[]) (evs:=#[mk .enable]) a H.f_enable (x_enable_n L) (x_enable_b L) (x_enable_x L) (x_enable_f L) (by simp[Extern.Race.none_]) wE wE,λf b=>⟨1,?_⟩⟩
  u_leave0 H.f_add d b
  grind[Goes.stop]
 have z:((e:Int)+1==1)=v:=N
 repeat (u_c aw d b)
 u_reg d b
 u_op d b
 u_op d b
 u_op d b
 u_op d b
 u_op d b
 u_op d b
 u_op d b
 u_op d b
 u_op d b
 u_op d b
 u_c aB d b
 repeat (u_c aw d b)
 u_cond v d b
 u_c stepG_skip d b
 repeat (u_c aw d b)
 u_reg d b
 u_op d b
 u_op d b
 u_c aB d b
 repeat (u_c aw d b)
 u_cond v d b
 u_c stepG_skip d b
 repeat (u_c aw d b)
 u_reg d b
 u_op d b
 u_op d b
 u_op d b
 u_skip d b
 u_skip d b
 u_op d b
 u_op d b
 u_skip d b
 u_skip d b
 u_skip d b
 u_skip d b
 u_op d b
 u_c aB d b
 repeat (u_c aw d b)
 u_cond v d b
 u_c stepG_skip d b
 repeat (u_c aw d b)
 u_reg d b
 u_op d b
 u_op d b
 u_op d b
 u_skip d b
 u_skip d b
 u_op d b
 u_c aB d b
 repeat (u_c aw d b)
 u_cond l d b
 u_c stepG_ret' d b
 refine Goes.stop (λs i=>.inr ?_);clear i;refine⟨a,_,λf=>stepG_unwind_entry (v:=.tuple #[]) (evs:=#[mk .enable]) a H.f_enable (x_enable_n L) (x_enable_b L) (x_enable_x L) (x_enable_f L) (by simp[Extern.Race.none_]) wE wE,λf b=>⟨1,?_⟩⟩
 u_leave0 H.f_add d b
 grind[Goes.stop]
end
section
open Go.Conc Go.RowKit Go.Conc.Lib Go.ConcR.Gen
open Go.ConcN (WgLive)
open Go.ConcR (KK WgAt stA smA rd wr mk DC0)
section
variable (P:aD)(dm:au->au->Prop)(L:WgLink)(bn:Nat)(hB:ai)(x:ai->Prop)
def Gg(b:ai)(_:au):Prop:=b.status=.running/\∃a,(∀d,ao P l b d=.go a d #[mk (.acquire (stA bn))])/\∀w1,WgLive L.tWg bn w1->∃e,Goes P l dm DC0 (λb _=>b=hB) e a w1
def AD(b:ai)(_:au):Prop:=b.status=.running/\∃a,(∀d,ao P l b d=.go a d #[mk .enable])/\∀w1,WgLive L.tWg bn w1->∃e,Goes P l dm DC0 (Gg P dm L bn hB) e a w1
def Gj(d:ai)(b:au):Prop:=d.status=.running/\(WgAt L.tWg bn b 0 0->∃a,ao P l d b=.go a b #[rd (stA bn)]/\∃e,Goes P l dm DC0 (AD P dm L bn hB) e a b)
def Gi(b:ai)(a:au):Prop:=b.status=.running/\b.offers=n/\((∃e,WgAt L.tWg bn a e 0)->ao P l b a=.go {b with status:=.blocked} a #[]) /\
 (WgAt L.tWg bn a 0 1->∃d,ao P l b a=.go d (a.setCell (smA bn) (.int .u32 0)) (semEvents (smA bn))/\∃f,Goes P l dm DC0 (Gj P dm L bn hB) f d (a.setCell (smA bn) (.int .u32 0)))
def Gk(d:ai)(_:au):Prop:=d.status=.running/\∃b a,a.block=bn/\(∀e,ao P l d e=.go b e #[mk (.write a)])/\∀w1,WgLive L.tWg bn w1->∃f,Goes P l dm DC0 (Gi P dm L bn hB) f b w1
def Gh(z:Nat)(e:ai)(b:au):Prop:=e.status=.running/\∀d:Nat,d<2147483648->WgAt L.tWg bn b (d*KK) 0 ->
 (d=z->∃a,ao P l e b=.go a (b.setCell (stA bn) (.int .u64 (d*KK+1))) #[rd (stA bn),wr (stA bn)]/\∃f,Goes P l dm DC0 (Gk P dm L bn hB) f a (b.setCell (stA bn) (.int .u64 (d*KK+1)))) /\
 (d≠z->∃a,ao P l e b=.go a b #[rd (stA bn)]/\∃f,Goes P l dm DC0 (λe _=>x e) f a b)
def Sq(f:ai)(d:au):Prop:=f.status=.running/\∀b:Nat,b<2147483648->WgAt L.tWg bn d (b*KK) 0 ->
 ∃a,ao P l f d=.go a d #[rd (stA bn)]/\(b=0->∃e,Goes P l dm DC0 (AD P dm L bn hB) e a d)/\(b≠0->∃e,Goes P l dm DC0 (Gh P dm L bn hB x b) e a d)
def Sp(b:ai)(_:au):Prop:=b.status=.running/\∃a,(∀d,ao P l b d=.go a d #[mk .disable])/\∀w1,WgLive L.tWg bn w1->∃e,Goes P l dm DC0 (λb _=>x b) e a w1
end
def q_(L:WgLink)(b:Nat)(e:aG)(d:m aG)(f:ai):Prop:=
 ∃a:Array X,f=G ((base L.wait).at ⟨a,[]⟩ [.code (L7 L),.inLoop (L7 L),.inBlock 0]) (e::d)/\a.size=84/\a[0]?=h (.pointer (h ⟨b,0,n⟩))
set_option maxRecDepth 100000 in
def aeA{L}(H:WgLib P L){dm:au->au->Prop}{bn}(d:∀{p w1},WgLive L.tWg bn p->dm p w1->WgLive L.tWg bn w1){t}(p)(b:WgLive L.tWg bn p):
  Goes P l dm DC0 (Sp P dm L bn (q_ L bn t ah)) 6 (G ((base L.wait).at ⟨#[.pointer (h ⟨bn,0,n⟩),J,J,J,J,J,J,J,J,J,J,J,J,J,J,J,J,J,J,J,J,J,J,J,J,J,J,J,J,J,J,J,J,J,J,J,J,J,J,J,J,J,J,J,J,J,J,J,J,J,J,J,J,J,J,J,J,J,J,J,J,J,J,J,J,J,J,J,J,J,J,J,J,J,J,J,J,J,J,J,J,J,J,J],[]⟩ [.code (body_wait L)]) (t::ah)) p:=by
 lib_facts
 unfold q_;simp only[L7,body_wait,waitFn,h9]
 repeat (u_c aw d b)
 u_cond l d b
 repeat (u_c aw d b)
 u_reg d b
 refine Goes.stop (λf e=>?_);clear e;refine⟨a,_,λp=>stepG_mark0 .disable D a a (by k_ne) a H.f_disable (x_disable_n L) (x_disable_b L) (x_disable_x L) (x_disable_f L),λp b=>⟨6,?_⟩⟩
 walk_nrm
 u_c aB d b
 repeat (u_c aw d b)
 u_c stepG_block d b
 u_c stepG_loop d b
 exact Goes.stop λ_ _=>⟨_,a,a,a⟩
end
section
open Go.Conc Go.RowKit Go.Conc.Lib Go.ConcR.Gen
open Go.ConcN (WgLive)
open Go.ConcN.Gen
open Go.ConcR (KK WgAt stA smA rd wr mk DC0)
set_option maxRecDepth 100000 in
def aez{L:WgLink}(H:WgLib P L){dm:au->au->Prop}{bn:Nat}(e:∀{g w1},WgLive L.tWg bn g->dm g w1->WgLive L.tWg bn w1){hU:aG}{hT:Act}{gp:Array an}{hY:Nat}{h1:m Nat}{h0:m Item}(x:ai)(aM:q_ L bn (hU.at hT (.inRegion gp (hY::h1)::h0)) ah x)(g:au)(b:WgLive L.tWg bn g):
  ∃a',Goes P l dm DC0 (Sq P dm L bn (G (hU.at (hT.put ((gp[hY]?).bind (·.dst)) (.tuple #[])) (.inRegion gp h1::h0)) ah) (q_ L bn (hU.at hT (.inRegion gp (hY::h1)::h0)) ah)) a' x g:=by
 lib_facts
 obtain⟨a4,rfl,ba,q⟩:=aM;obtain⟨bk,bl,bm,bo,bp,bq,br,bs,bt,bu,F,I,J,bO,K,bR,bz,O,Q,S,T,bP,U,V,bx,W,X,bJ,Y,Z,aa,ab,bN,ae,bH,bB,af,ag,ak,bF,bD,bE,al,ao,aq,bC,R,ar,av,ay,az,aC,aD,aE,bw,aF,aH,aI,bK,aJ,bI,aK,aL,aN,aO,bQ,y,bA,aP,aQ,aR,aS,aT,aU,bL,aX,aY,aZ,M,a0,a1,a2,a3,bG,rfl⟩:=array84 a4 ba;simp only[kg,ml,e_]at q;subst q;refine⟨30,?_⟩;unfold q_;simp only[L7,body_wait,waitFn,h9]
 u_c stepG_block e b
 repeat (u_c aw e b)
 u_reg e b
 u_op e b
 u_op e b
 u_op e b
 u_call H.f_uLoad (nm_uLoad L) uLoadFn e b
 repeat (u_c aw e b)
 u_reg e b
 u_op e b
 u_c aB e b
 repeat (u_c aw e b)
 u_reg e b
 u_op e b
 u_op e b
 u_op e b
 refine Goes.stop (λbb C=>?_);replace b:=e b C;clear C;refine⟨a,λo a_ f=>?_⟩;rcases n9 o with rfl|A
 .replace f:WgAt L.tWg bn bb 0 0:=N;refine⟨_,stepG_load_atomic (v:=0) a a (by k_ne) a H.f_loadU64 (x_loadU64_n L) (x_loadU64_b L) (x_loadU64_x L) .u64 (x_loadU64_f L) a f.cellSt,λ_=>⟨80,?_⟩,λa9=>absurd a a9⟩;clear f
  walk_nrm
  u_op e b
  u_c aB e b
  u_c stepG_ret' e b
  u_leave1 H.f_uLoad e b
  u_op e b
  u_c aB e b
  repeat (u_c aw e b)
  u_reg e b
  u_op e b
  u_op e b
  u_op e b
  u_op e b
  u_c aB e b
  repeat (u_c aw e b)
  u_reg e b
  u_op e b
  u_op e b
  u_op e b
  u_op e b
  u_c aB e b
  repeat (u_c aw e b)
  u_reg e b
  u_op e b
  u_op e b
  u_c aB e b
  repeat (u_c aw e b)
  u_cond l e b
  repeat (u_c aw e b)
  u_cond l e b
  repeat (u_c aw e b)
  u_reg e b
  refine Goes.stop (λp k=>?_);clear k;refine⟨a,_,λg=>stepG_mark0 .enable D a a (by k_ne) a H.f_enable (x_enable_n L) (x_enable_b L) (x_enable_x L) (x_enable_f L),λg b=>⟨20,?_⟩⟩
  walk_nrm
  u_c aB e b
  repeat (u_c aw e b)
  u_reg e b
  u_op e b
  u_conv H.underlying_tWgP H.room_tWg (Go.ConcN.Gen.WgLive.cell0 b).choose_spec e b
  refine Goes.stop (λp k=>?_);clear k;refine⟨a,_,λg=>stepG_markAt .acquire D a a (by k_ne) a H.f_acquire (x_acquire_n L) (x_acquire_b L) (x_acquire_x L) (x_acquire_f L) Ff,λg b=>⟨40,?_⟩⟩
  walk_nrm
  u_c aB e b
  repeat (u_c aw e b)
  u_reg e b
  u_op e b
  u_op e b
  u_op e b
  u_op e b
  u_op e b
  u_op e b
  u_op e b
  u_op e b
  u_skip e b
  u_skip e b
  u_op e b
  u_c aB e b
  repeat (u_c aw e b)
  u_cond v e b
  u_c stepG_skip e b
  u_c stepG_ret' e b
  u_leave0 H.f_wait e b
  grind[Goes.stop]
 obtain⟨i,d⟩:∃i:Int,(o:Int)*KK=i:=⟨_,rfl⟩;have a5:i / 4294967296=(o:Int):=OE
 have a6:bits .and .u64 i 2147483648=0:=by rw[<-d];have:=Go.ConcN.st_flag o 0 w w;simpa[KK]using this
 have a7:bits .and .u64 i 2147483647=0:=by rw[<-d];have:=Go.ConcN.st_waiters o 0 w w;simpa[KK]using this
 have a8:IntKind.i32.wrap (o:Int)=(o:Int):=by grind[IntKind.wrap_i32]
 have w1:IntKind.u64.wrap (i+1)=i+1:=by rw[IntKind.wrap_u64,<-d];simp only[KK];omega
 have bd:decide ((o:Int)<0)=v:=n4 w;have bf:decide (0<(o:Int))=l:=fA w;have bg:((o:Int)==0)=v:=N;have bh:decide ((o:Int)=0)=v:=n4 w;rw[d]at f;refine⟨_,stepG_load_atomic (v:=i) a a (by k_ne) a H.f_loadU64 (x_loadU64_n L) (x_loadU64_b L) (x_loadU64_x L) .u64 (x_loadU64_f L) a f.cellSt,λs=>absurd s w,λ_=>⟨80,?_⟩⟩;clear f
 walk_nrm
 u_op e b
 u_c aB e b
 u_c stepG_ret' e b
 u_leave1 H.f_uLoad e b
 u_op e b
 u_c aB e b
 repeat (u_c aw e b)
 u_reg e b
 u_op e b
 u_op e b
 u_op e b
 u_op e b
 u_c aB e b
 repeat (u_c aw e b)
 u_reg e b
 u_op e b
 u_op e b
 u_op e b
 u_op e b
 u_c aB e b
 repeat (u_c aw e b)
 u_reg e b
 u_op e b
 u_op e b
 u_c aB e b
 repeat (u_c aw e b)
 u_cnd v e b
 u_c stepG_skip e b
 repeat (u_c aw e b)
 u_reg e b
 u_op e b
 u_op e b
 u_op e b
 u_op e b
 u_op e b
 u_op e b
 u_call H.f_uCas (nm_uCas L) uCasFn e b
 repeat (u_c aw e b)
 u_reg e b
 u_op e b
 u_c aB e b
 repeat (u_c aw e b)
 u_reg e b
 u_op e b
 u_op e b
 u_op e b
 u_op e b
 u_op e b
 refine Goes.stop (λp k=>?_);replace b:=e b k;clear k;refine⟨a,λt z f=>⟨λu=>?_,λu=>?_⟩⟩
 .subst u;rw[d]at f⊢;refine⟨_,(stepG_cas_hit (v:=i) (n:=i+1) a a (by k_ne) a H.f_casU64 (x_casU64_n L) (x_casU64_b L) (x_casU64_x L) .u64 (x_casU64_f L) a a a f.cellSt (f.thaw 0)).trans oT,90,?_⟩;replace b:WgLive L.tWg bn (p.setCell (stA bn) (.int .u64 (i+1))):=⟨_,_,f.setSt _⟩
  clear f
  walk_nrm
  u_op e b
  u_c aB e b
  u_c stepG_ret' e b
  u_leave1 H.f_uCas e b
  u_c aB e b
  repeat (u_c aw e b)
  u_cond l e b
  repeat (u_c aw e b)
  u_reg e b
  u_op e b
  u_op e b
  u_op e b
  u_op e b
  u_c aB e b
  repeat (u_c aw e b)
  u_cond l e b
  repeat (u_c aw e b)
  u_reg e b
  u_op e b
  u_op e b
  u_op e b
  u_conv H.underlying_tPU32 H.room_tU32 (Go.ConcN.Gen.WgLive.cell1 b).choose_spec e b
  refine Goes.stop (λp k=>?_);clear k;refine⟨a,_,⟨bn,1,n⟩,a,λg=>stepG_markAt .write D a a (by k_ne) a H.f_raceWrite (x_raceWrite_n L) (x_raceWrite_b L) (x_raceWrite_x L) (x_raceWrite_f L) (ad:=⟨bn,1,n⟩) (by simp[Act.eval]),λg b=>⟨60,?_⟩⟩
  walk_nrm
  u_c aB e b
  repeat (u_c aw e b)
  u_reg e b
  u_op e b
  u_c aB e b
  repeat (u_c aw e b)
  u_reg e b
  u_op e b
  u_op e b
  u_op e b
  u_op e b
  u_skip e b
  u_op e b
  u_c aB e b
  repeat (u_c aw e b)
  u_cond v e b
  u_c stepG_skip e b
  repeat (u_c aw e b)
  u_reg e b
  u_op e b
  u_op e b
  u_op e b
  u_op e b
  refine Goes.stop (λbc E=>?_);replace b:=e b E;clear E;refine⟨a,a,λ⟨bj,f⟩=>stepG_semacquire_wait a a a H.f_semacquire (x_semacquire_n L) (x_semacquire_b L) (x_semacquire_x L) (x_semacquire_f L) (by simp[Act.eval,smA]) f.cellSm,λr=>?_⟩;refine⟨_,(stepG_semacquire (n:=1) a a (by k_ne) a H.f_semacquire (x_semacquire_n L) (x_semacquire_b L) (x_semacquire_x L) (x_semacquire_f L) (by simp[Act.eval,smA]) r.cellSm (by k_ne) (r.thaw 1)).trans oT,40,?_⟩;replace b:WgLive L.tWg bn (bc.setCell (smA bn) (.int .u32 0)):=⟨_,_,r.setSm 0⟩
  clear r
  walk_nrm
  u_c aB e b
  repeat (u_c aw e b)
  u_reg e b
  u_op e b
  u_op e b
  u_op e b
  u_call H.f_uLoad (nm_uLoad L) uLoadFn e b
  repeat (u_c aw e b)
  u_reg e b
  u_op e b
  u_c aB e b
  repeat (u_c aw e b)
  u_reg e b
  u_op e b
  u_op e b
  u_op e b
  refine Goes.stop (λbM B=>?_);replace b:=e b B;clear B;refine⟨a,λf=>⟨_,stepG_load_atomic (v:=0) a a (by k_ne) a H.f_loadU64 (x_loadU64_n L) (x_loadU64_b L) (x_loadU64_x L) .u64 (x_loadU64_f L) a f.cellSt,40,?_⟩⟩;clear f
  walk_nrm
  u_op e b
  u_c aB e b
  u_c stepG_ret' e b
  u_leave1 H.f_uLoad e b
  u_op e b
  u_op e b
  u_c aB e b
  repeat (u_c aw e b)
  u_cond l e b
  repeat (u_c aw e b)
  u_reg e b
  refine Goes.stop (λp k=>?_);clear k;refine⟨a,_,λg=>stepG_mark0 .enable D a a (by k_ne) a H.f_enable (x_enable_n L) (x_enable_b L) (x_enable_x L) (x_enable_f L),λg b=>⟨20,?_⟩⟩
  walk_nrm
  u_c aB e b
  repeat (u_c aw e b)
  u_reg e b
  u_op e b
  u_conv H.underlying_tWgP H.room_tWg (Go.ConcN.Gen.WgLive.cell0 b).choose_spec e b
  refine Goes.stop (λp k=>?_);clear k;refine⟨a,_,λg=>stepG_markAt .acquire D a a (by k_ne) a H.f_acquire (x_acquire_n L) (x_acquire_b L) (x_acquire_x L) (x_acquire_f L) Ff,λg b=>⟨40,?_⟩⟩
  walk_nrm
  u_c aB e b
  repeat (u_c aw e b)
  u_reg e b
  u_op e b
  u_c aB e b
  repeat (u_c aw e b)
  u_cond v e b
  u_c stepG_skip e b
  u_c stepG_ret' e b
  u_leave0 H.f_wait e b
  grind[Goes.stop]
 refine⟨_,stepG_cas_miss (v:=(t:Int)*KK) (old:=i) (n:=i+1) a a (by k_ne) a H.f_casU64 (x_casU64_n L) (x_casU64_b L) (x_casU64_x L) .u64 (x_casU64_f L) a a a f.cellSt (f.thaw 0) OE,30,?_⟩;clear f
 walk_nrm
 u_op e b
 u_c aB e b
 u_c stepG_ret' e b
 u_leave1 H.f_uCas e b
 u_c aB e b
 repeat (u_c aw e b)
 u_cond v e b
 u_c stepG_skip e b
 u_c stepG_inBlock e b
 u_c stepG_inLoop e b
 exact Goes.stop λ_ _=>⟨_,a,by simp,by simp⟩
end
section
open Go.Conc Go.Conc.Lib
open Go.ConcN (WgLive)
open Go.ConcR (KK WgAt stA smA rd wr mk DC0 Payload)
def fK(b:ak)(a:Nat)(d w1:au):Prop:=WgLive b a d->WgLive b a w1
def fK.refl{ty}{bn}(p):fK ty bn p p:=id
def fK.trans{ty}{bn}{a i t}(b:fK ty bn a i)(d:fK ty bn i t):fK ty bn a t:=λe=>d (b e)
def nV(b:au->au->Prop)(a:ai->au->Prop)(d:ai)(e:au):Prop:=∀w1,b e w1->a d w1
def Goes.eB{P}{eY}{e:au->au->Prop}{y:au->au->Array aO->Prop}{a:ai->au->Prop}(aZ:∀k m o,e k m->e m o->e k o):
  ∀{j:Nat} {f:ai} {i:au},Goes P eY e y a j f i->Goes P eY e y (nV e a) j f i
 |0,f,i,d=>λw1 g w2 b=>d w2 (aZ _ _ _ g b)
 |j+1,f,i,d=>by
  rcases d with d|⟨q,d⟩
  .exact .inl λw1 g w2 b=>d w2 (aZ _ _ _ g b)
  refine .inr ⟨q,λw1 g=>?_⟩;have b:=d w1 g;cases p:ao P eY f w1 with
  |go s t r=>
   rw[p,goes_go]at b;rw[goes_go];exact⟨b.1,Goes.eB aZ b.2⟩
  |_=>rw[p]at b;exact b.elim
structure k0(bn:Nat)(ee:a6->Prop):Prop where
 rely:∀b aE,ee b->cX b aE->ee aE
 heap:∀b,ee b->∃k,bb k b
 iS:∀b,ee b->¬b.own bn/\(∀L∈b.s,bn∉L.aj)/\∀r,b.D bn r=n
section
variable {P:aD}{L:WgLink}{bn:Nat}{ee:a6->Prop}
def iw(b:ak)(a:Nat)(e:a6->Prop)(d:a6):Prop:=e d/\WgLive b a d.a
def k0.hp(R:k0 bn ee){b}(a:ee b):gy b:=(R.heap b a).choose_spec.mem
def k0.set(R:k0 bn ee){b}(i:ee b)(e)(p:e.block=bn)(aa):cX b {b with a:=b.a.setCell e aa}:=by
 obtain⟨q,r,s⟩:=R.iS b i;have f:∀d,d≠bn->(b.a.setCell e aa).heap[d]?=b.a.heap[d]?:=λd g=>by have:=(aside_setCell b.a e aa).block d N;omega
 refine⟨a,a,a,Nat.le_of_eq (aside_setCell b.a e aa).size.symm,λd g=>f d N,λd j o m=>?_,(aside_setCell b.a e aa).os,(aside_setCell b.a e aa).tape,(aside_setCell b.a e aa).output⟩;have k:d≠bn:=N;show(b.a.setCell e aa).cell? _=_;rw[ni (f d k) j];exact R.hp i d j o m
def k0.next(R:k0 bn ee){ty}{b e}(a:iw ty bn ee b)(ba:(af.aH P ty bn).rely b e):iw ty bn ee e:=⟨R.rely b e a.1 ba.1,ba.2 a.2⟩
def k0.iZ(R:k0 bn ee){ty}{b}(a:iw ty bn ee b):(af.aH P ty bn).rely b b:=⟨cX.er (R.hp a.1),id⟩
def k0.goes(R:k0 bn ee){ty}{f:ai->a6->Prop}{Stop:ai->au->Prop}(o:∀C b,iw ty bn ee b->nV (fK ty bn) Stop C b.a->du (af.aH P ty bn) (dQ bn) f C b){j}{C}{b}(g:iw ty bn ee b)(k:Goes P l (fK ty bn) DC0 Stop j C b.a):du (af.aH P ty bn) (dQ bn) f C b:=by refine du.goes (q:=af.aH P ty bn) (dm:=fK ty bn) (y:=DC0) (Stop:=nV (fK ty bn) Stop) (iw ty bn ee) (λb m d e=>R.next d e) (λb m _ e=>e.2) ?_ (λb d=>R.iZ d) o j C b g (Goes.eB (λ_ _ _ p r=>p.trans r) k);rintro b i d s ⟨rfl,rfl⟩;exact⟨a,.inl (.aQ (R.heap b d.1).choose_spec)⟩
end
set_option maxRecDepth 100000 in
def Ug{P}{L}(H:WgLib P L){bn}:Frame.enter P L.add #[.pointer (h ⟨bn,0,n⟩),.int .i64 1] .normal=(base L.add).at ⟨#[.pointer (h ⟨bn,0,n⟩),.int .i64 1,J,J,J,J,J,J,J,J,J,J,J,J,J,J,J,J,J,J,J,J,J,J,J,J,J,J,J,J,J,J,J,J,J,J,J,J,J,J,J,J,J,J,J,J,J,J,J,J,J,J,J,J,J,J,J,J,J,J,J,J,J,J,J,J,J,J,J,J,J,J,J,J,J,J,J,J,J,J,J,J,J,J,J,J,J,J,J,J,J,J,J,J,J,J,J,J,J,J,J,J,J,J,J,J,J,J,J,J,J,J,J,J,J,J,J],[]⟩ [.code (Go.ConcR.Gen.body_add L)]:=
 (enter_at (c:=Go.ConcR.Gen.body_add L) _ H.f_add bG).trans bG
set_option maxRecDepth 100000 in
def Uh{P}{L}(H:WgLib P L){bn}:Frame.enter P L.wait #[.pointer (h ⟨bn,0,n⟩)] .normal=(base L.wait).at ⟨#[.pointer (h ⟨bn,0,n⟩),J,J,J,J,J,J,J,J,J,J,J,J,J,J,J,J,J,J,J,J,J,J,J,J,J,J,J,J,J,J,J,J,J,J,J,J,J,J,J,J,J,J,J,J,J,J,J,J,J,J,J,J,J,J,J,J,J,J,J,J,J,J,J,J,J,J,J,J,J,J,J,J,J,J,J,J,J,J,J,J,J,J,J],[]⟩ [.code (Go.ConcR.Gen.body_wait L)]:=
 (enter_at (c:=Go.ConcR.Gen.body_wait L) _ H.f_wait bG).trans bG
section
variable [Payload]{P:aD}{L:WgLink}{K:hP}{ee:a6->Prop}{F j:Nat}{val:Nat->Nat->X}
def SI(H:WgLib P L)(R:k0 K.h ee){u}{Next:ai->a6->Prop}{hU:aG}{hT}{gp}{hY}{h1}{h0}{ah}(D:∀b,iw L.tWg K.h ee b->du (af.aH P L.tWg K.h) (dQ K.h) (wV P L.tWg K F val u Next) (G (hU.at (hT.put ((gp[hY]?).bind (·.dst)) (.tuple #[])) (.inRegion gp h1::h0)) ah) b){b}(f:iw L.tWg K.h ee b):
  du (af.aH P L.tWg K.h) (dQ K.h) (Au P L.tWg K F val u Next) (G (Frame.enter P L.add #[.pointer (h ⟨K.h,0,n⟩),.int .i64 1] .normal) (hU.at hT (.inRegion gp (hY::h1)::h0)::ah)) b:=by
 have C:∀g b,iw L.tWg K.h ee b->AB P (fK L.tWg K.h) L K.h (G (hU.at (hT.put ((gp[hY]?).bind (·.dst)) (.tuple #[])) (.inRegion gp h1::h0)) ah) g b.a->du (af.aH P L.tWg K.h) (dQ K.h) (Av P L.tWg K F val u Next) g b:=by rintro g b f ⟨m,d,p,q⟩;refine⟨.leaf,m,d,p,λj k=>?_⟩;have i:=R.next f k;obtain⟨w,o⟩:=q j.a i.2;exact R.goes (λg b f e=>by obtain rfl:=e b.a (.refl _);grind) i o
 have z:∀g b,iw L.tWg K.h ee b->nV (fK L.tWg K.h) (Gf P (fK L.tWg K.h) L K.h (G (hU.at (hT.put ((gp[hY]?).bind (·.dst)) (.tuple #[])) (.inRegion gp h1::h0)) ah)) g b.a->du (af.aH P L.tWg K.h) (dQ K.h) (Aq P L.tWg K F val u Next) g b:=by
  rintro g b f e;refine⟨.leaf,(e b.a (.refl _)).1,λj k x y r=>?_⟩;have i:=R.next f k;obtain⟨d,m,w,o⟩:=(e j.a k.2).2 x y r;have A:iw L.tWg K.h ee {j with a:=j.a.setCell (stA K.h) (.int .u64 ((x+1)*KK))}:=⟨R.rely _ _ i.1 (R.set i.1 _ rfl _),⟨_,_,r.setSt _⟩⟩;refine⟨d,m,R.goes (λg b f e=>?_) A o⟩
  rcases e b.a (.refl _)with e|e
  .obtain⟨m,d,s,p,q,t⟩:=e;refine .step m λj k=>⟨d,j,_,q j.a,.inr ⟨a,s,p,.inl a⟩,?_⟩
   have i:=R.next f k;obtain⟨w,o⟩:=t j.a i.2;exact R.goes (λg b f e=>C g b f (e b.a (.refl _))) i o
  grind
 have r:=SJ (P:=P) (L:=L) H (dm:=fK L.tWg K.h) (bn:=K.h) (λe B=>B e) (hU:=hU) (hT:=hT) (gp:=gp) (hY:=hY) (h1:=h1) (h0:=h0) (ah:=ah) b.a f.2;rw[Ug H];refine R.goes (λg b f e=>?_) f r;obtain⟨m,d,p,q⟩:=e b.a (.refl _);refine⟨.leaf,m,d,p,λj k=>?_⟩;have i:=R.next f k;obtain⟨w,o⟩:=q j.a i.2;exact R.goes z i o
section
variable (P L K ee)
def fx(b a:ai)(d:a6):Prop:=iw L.tWg K.h ee d/\∃e,Goes P l (fK L.tWg K.h) DC0 (λa _=>a=b) e a d.a
def wU(e:aG)(a:m aG)(b:ai)(d:a6):Prop:=iw L.tWg K.h ee d/\∃f,Goes P l (fK L.tWg K.h) DC0 (λb _=>q_ L K.h e a b) f b d.a
end
variable {hU:aG}{hT:Act}{gp:Array an}{hY:Nat}{h1:m Nat}{h0:m Item}{ah:m aG}
omit [Payload]in
def SR(H:WgLib P L)(R:k0 K.h ee){r x:ai->a6->Prop}(E:∀C b,fx P L K ee (G (hU.at (hT.put ((gp[hY]?).bind (·.dst)) (.tuple #[])) (.inRegion gp h1::h0)) ah) C b->r C b)(M:∀C b,wU P L K ee (hU.at hT (.inRegion gp (hY::h1)::h0)) ah C b->x C b){C}{b}(f:wU P L K ee (hU.at hT (.inRegion gp (hY::h1)::h0)) ah C b):
  du (af.aH P L.tWg K.h) (dQ K.h) (q' P L.tWg K r x) C b:=by
 generalize u:hU.at hT (.inRegion gp (hY::h1)::h0)=T at *;generalize aM:G (hU.at (hT.put ((gp[hY]?).bind (·.dst)) (.tuple #[])) (.inRegion gp h1::h0)) ah=m at E;have J:∀C b,iw L.tWg K.h ee b->nV (fK L.tWg K.h) (Gg P (fK L.tWg K.h) L K.h m) C b.a->du (af.aH P L.tWg K.h) (dQ K.h) (Ar P L.tWg K r) C b:=by intro C b g f;obtain⟨k,d,s,t⟩:=f b.a (.refl _);exact⟨.leaf,k,d,s,λi e=>E _ _ ⟨R.next g e,t i.a (R.next g e).2⟩⟩
 have F:∀C b,iw L.tWg K.h ee b->nV (fK L.tWg K.h) (AD P (fK L.tWg K.h) L K.h m) C b.a->du (af.aH P L.tWg K.h) (dQ K.h) (wW P L.tWg K r) C b:=by intro C b g f;obtain⟨k,d,s,t⟩:=f b.a (.refl _);refine⟨.leaf,k,d,s,λi e=>?_⟩;obtain⟨p,j⟩:=t i.a (R.next g e).2;exact R.goes J (R.next g e) j
 have O:∀C b,iw L.tWg K.h ee b->nV (fK L.tWg K.h) (Gj P (fK L.tWg K.h) L K.h m) C b.a->du (af.aH P L.tWg K.h) (dQ K.h) (Ax P L.tWg K r) C b:=by intro C b g f;refine⟨.leaf,(f b.a (.refl _)).1,λi e o=>?_⟩;obtain⟨d,k,p,j⟩:=(f i.a e.2).2 o;exact⟨d,k,R.goes F (R.next g e) j⟩
 have N:∀C b,iw L.tWg K.h ee b->nV (fK L.tWg K.h) (Gi P (fK L.tWg K.h) L K.h m) C b.a->du (af.aH P L.tWg K.h) (dQ K.h) (oU P L.tWg K r) C b:=by intro C b g f;refine⟨.leaf,(f b.a (.refl _)).1,(f b.a (.refl _)).2.1,λi e=>⟨(f i.a e.2).2.2.1,λo=>?_⟩⟩;obtain⟨d,k,p,j⟩:=(f i.a e.2).2.2.2 o;exact⟨d,k,R.goes O (b:={i with a:=i.a.setCell (smA K.h) (.int .u32 0)}) ⟨R.rely _ _ (R.next g e).1 (R.set (R.next g e).1 _ rfl _),⟨_,_,o.setSm 0⟩⟩ j⟩
 have S:∀C b,iw L.tWg K.h ee b->nV (fK L.tWg K.h) (Gk P (fK L.tWg K.h) L K.h m) C b.a->du (af.aH P L.tWg K.h) (dQ K.h) (oU P L.tWg K r) C b:=by
  intro C b g f;obtain⟨k,d,y,s,t,D⟩:=f b.a (.refl _);refine .step k λi e=>⟨d,i,_,t i.a,.inr ⟨a,y,s,.inr a⟩,?_⟩
  obtain⟨p,j⟩:=D i.a (R.next g e).2;exact R.goes N (R.next g e) j
 have Q:∀q C b,iw L.tWg K.h ee b->nV (fK L.tWg K.h) (Gh P (fK L.tWg K.h) L K.h m (q_ L K.h T ah) q) C b.a->du (af.aH P L.tWg K.h) (dQ K.h) (Aw P L.tWg K r x q) C b:=by
  intro z C b g f;refine⟨.leaf,(f b.a (.refl _)).1,λi e q w o=>⟨λA=>?_,λA=>?_⟩⟩
  .obtain⟨d,k,p,j⟩:=((f i.a e.2).2 q w o).1 A;exact⟨d,k,R.goes S (b:={i with a:=i.a.setCell (stA K.h) (.int .u64 (q*KK+1))}) ⟨R.rely _ _ (R.next g e).1 (R.set (R.next g e).1 _ rfl _),⟨_,_,o.setSt _⟩⟩ j⟩
  obtain⟨d,k,p,j⟩:=((f i.a e.2).2 q w o).2 A;exact⟨d,k,M _ _ ⟨R.next g e,p,j⟩⟩
 obtain⟨g,p,j⟩:=f;refine R.goes (λC b g f=>?_) g j;obtain⟨p,o⟩:=aez (P:=P) (L:=L) H (dm:=fK L.tWg K.h) (bn:=K.h) (λf U=>U f) (hU:=hU) (hT:=hT) (gp:=gp) (hY:=hY) (h1:=h1) (h0:=h0) (ah:=ah) C (by rw[u];exact f b.a (.refl _)) b.a g.2;rw[u,aM]at o;refine R.goes (λC b g f=>?_) g o;refine⟨.leaf,(f b.a (.refl _)).1,λi e q w o=>?_⟩;obtain⟨d,k,s,t⟩:=(f i.a e.2).2 q w o;refine⟨d,k,λB=>?_,λI=>?_⟩
 .obtain⟨p,j⟩:=s B;exact R.goes F (R.next g e) j
 obtain⟨p,j⟩:=t I;exact R.goes (Q q) (R.next g e) j
omit [Payload]in
def aey(H:WgLib P L)(R:k0 K.h ee){t}{g:ai->a6->Prop}(M:∀d b,wU P L K ee t ah d b->g d b){b}(a:iw L.tWg K.h ee b):
  du (af.aH P L.tWg K.h) (dQ K.h) (As P L.tWg K g) (G (Frame.enter P L.wait #[.pointer (h ⟨K.h,0,n⟩)] .normal) (t::ah)) b:=by have p:=aeA (P:=P) (L:=L) H (dm:=fK L.tWg K.h) (bn:=K.h) (λf o=>o f) (t:=t) (ah:=ah) b.a a.2;rw[Uh H];refine R.goes (λd b a f=>?_) a p;obtain⟨k,e,m,q⟩:=f b.a (.refl _);exact⟨.leaf,k,e,m,λj i=>M _ _ ⟨R.next a i,q j.a (R.next a i).2⟩⟩
end
end
section
open Go.Conc Go.RowKit Go.Conc.Lib Go.ConcR.Gen
open Go.ConcN (WgLive Has RW DWs AtR0 EvW)
open Go.ConcN.Gen
open Go.ConcR (KK WgAt stA smA rd wr mk DC0 Payload)
section
variable {dm:au->au->Prop}{y:au->au->Array aO->Prop}{Stop R:ai->au->Prop}
def Goes.hr(k:∀a,dm a a)(u:∀b a,Stop b a->∃g s,ao P v b a=.go g a #[s])(r:∀f b a,R b a->¬Goes P v dm y Stop f b a):
  ∀p f b a,Goes P v dm DC0 R p b a->¬Goes P v dm y Stop f b a
 |0,f,b,a,j,i=>r f b a (j a (k a)) i
 |p+1,f,b,a,j,i=>by
  rcases j with j|⟨_,j⟩
  .grind
  have e:=j a (k a);cases m:ao P v b a with
  |go g d t=>
   rw[m,goes_go]at e;obtain⟨⟨rfl,rfl⟩,o⟩:=e;have q:¬Stop b d:=λw=>by grind
   cases f with
   |zero=>exact q (i d (k d))
   |succ f=>
    rcases i with i|⟨_,i⟩
    .grind
    have k1:=i d (k d);rw[m,goes_go]at k1;exact Goes.hr k u r p f g d o k1.2
  |_=>rw[m]at e;exact e.elim
def Goes.ho(q:∀b,dm b b)(z:∀d b,Stop d b->∃j w,ao P v d b=.go j b #[w])(r:∀e d b,R d b->Goes P v dm y Stop e d b->∀w1,dm b w1->Stop d w1):
  ∀o e d b,Goes P v dm DC0 R o d b->Goes P v dm y Stop e d b->Goes P v dm DC0 Stop o d b
 |0,e,d,b,k,i=>r e d b (k b (q b)) i
 |o+1,e,d,b,k,i=>by
  rcases k with k|⟨u,k⟩
  .exact .inl (r e d b (k b (q b)) i)
  refine .inr ⟨u,λw1 m=>?_⟩;have f:=k w1 m;cases p:ao P v d w1 with
  |go j g x=>
   rw[p,goes_go]at f;rw[goes_go];obtain⟨⟨rfl,rfl⟩,s⟩:=f;have t:¬Stop d g:=λu=>by grind
   refine⟨⟨a,a⟩,?_⟩;cases e with
   |zero=>exact absurd (i g m) t
   |succ e=>
    rcases i with i|⟨_,i⟩
    .grind
    have k1:=i g m;rw[p,goes_go]at k1;exact Goes.ho q z r o e j g s k1.2
  |_=>rw[p]at f;exact f.elim
end
variable [Payload]{L:WgLink}{bn M m8 E:Nat}{val:X}{t:aG}
def Sy(P:aD)(d:ai)(_:au):Prop:=∃b,∀a,ao P v d a=.go b a #[mk .disable]
def Sz(P:aD)(L:WgLink)(a f m e g:Nat)(d:X)(j:ai)(b:au):Prop:=
 (WgLive L.tWg a b/\Has f (g-1) d b)/\∃i,(∀b,ao P v j b=.go i b #[mk (.releaseMerge (stA a))])/\∀b,WgLive L.tWg a b/\Has f (g-1) d b->∃k,Goes P v (RW L.tWg a f m e (g-1)) DC0 (Sy P) k i b
set_option maxRecDepth 100000 in
def TZ(H:WgLib P L)(p)(b:WgLive L.tWg bn p/\Has M (E-1) val p):
  Goes P v (RW L.tWg bn M j m8 (E-1)) DC0 (Sz P L bn M j m8 E val) 23 (G ((baseD L.done).at ⟨#[.pointer (h ⟨bn,0,n⟩),J,J,J],[]⟩ [.code (body_done L)]) (t::ah)) p:=by
 lib_facts
 simp only[body_done,body_add,doneFn,addFn,h9]
 u_reg kn_rely b
 u_op kn_rely b
 u_in kn_rely b
 refine goes_call a a (by k_ne) a H.f_add (nm_add L) a ⟨by u_nil,?_⟩
 walk_nrmf addFn
 repeat (u_c aw kn_rely b)
 u_cond l kn_rely b
 repeat (u_c aw kn_rely b)
 u_reg kn_rely b
 u_op kn_rely b
 u_op kn_rely b
 u_c aB kn_rely b
 repeat (u_c aw kn_rely b)
 u_cond l kn_rely b
 u_reg kn_rely b
 u_op kn_rely b
 u_conv H.underlying_tWgP H.room_tWg (Go.ConcN.Gen.WgLive.cell0 b.1).choose_spec kn_rely b
 refine Goes.stop (λe d=>?_);replace b:=kn_rely b d;clear d;refine⟨b,_,λp=>stepG_markAt .releaseMerge D a a (by k_ne) a H.f_relMerge (x_relMerge_n L) (x_relMerge_b L) (x_relMerge_x L) (x_relMerge_f L) Ff,λp b=>⟨10,?_⟩⟩
 walk_nrm
 u_c aB kn_rely b
 repeat (u_c aw kn_rely b)
 u_reg kn_rely b
 exact Goes.stop λe d=>⟨_,λp=>stepG_mark0 .disable D a a (by k_ne) a H.f_disable (x_disable_n L) (x_disable_b L) (x_disable_x L) (x_disable_f L)⟩
def TY(H:WgLib P L){o}(w:t.mode=.returning)(aZ:QuitsD P o 0 (G t ah))(p)(k:WgLive L.tWg bn p/\Has M (E-1) val p):
  Goes P v (RW L.tWg bn M j m8 (E-1)) DC0 (AtR0 P L.tWg bn M j m8 E val) 23 (G ((baseD L.done).at ⟨#[.pointer (h ⟨bn,0,n⟩),J,J,J],[]⟩ [.code (body_done L)]) (t::ah)) p:=by
 have I:=doneN (Own:=λ_ _=>False) (Rd:=λ_ _=>False) (Low:=m8) (n:=j) H w aZ p k;have r:∀f p,AtR0 P L.tWg bn M j m8 E val f p->∃g x,ao P v f p=.go g p #[x]:=λf p e=>by obtain⟨_,_,g,A,_⟩:=e;grind
 have R:(mk (.releaseMerge (stA bn)):aO)≠mk .disable:=wE;refine Goes.ho (λp=>.refl p) r ?_ _ _ _ _ (TZ H p k) I;intro m f p e b w1 i;obtain⟨k,z,A,y⟩:=e;have u:AtR0 P L.tWg bn M j m8 E val f w1∨∃s,Goes P v (RW L.tWg bn M j m8 (E-1)) (DWs bn (λ_ _=>False) (λ_ _=>False) M j E) (AtR0 P L.tWg bn M j m8 E val) s z w1:=by
  cases m with
  |zero=>exact .inl (b w1 i)
  |succ m=>
   rcases b with b|⟨_,b⟩
   .grind
   grind[goes_go]
 rcases u with e|⟨s,e⟩
 .exact e
 exfalso;obtain⟨Q,F⟩:=y w1 (kn_rely k i);refine Goes.hr (λp=>.refl p) r ?_ _ _ _ _ F e;rintro q C w4 ⟨O,B⟩ b;have d:∀p,¬AtR0 P L.tWg bn M j m8 E val C p:=λp D=>by obtain⟨_,_,K,N,_⟩:=D;grind
 cases q with
 |zero=>exact d w4 (b w4 (.refl w4))
 |succ q=>
  rcases b with b|⟨_,b⟩
  .exact d w4 (b w4 (.refl w4))
  have k1:=b w4 (.refl w4);rw[B w4,goes_go]at k1;have:=(k1.1.2 _ (Array.mem_singleton.2 a)).2.1;exact this a
end
section
open Go.RowKit
open Go.Conc (G solo crowd AtRel Past EvL Leavers)
def a6.bw(b:au):a6:={s:=[],D:=λa d=>b.cell? ⟨a,d,n⟩,a:=b,own:=λa=>a<b.heap.size}
def bb.bw(p):bb [] (a6.bw p):=⟨λ_ _ _ b=>b,rfl,by simp,by simp[a6.bw],by simp[a6.bw],λd a=>⟨a,by simp[a6.bw]⟩⟩
def acf{k}{t}(e:mg P k t aa b)(j:P.inits.idxOf? k=n)(p)(q:∀a f g,b.D a f=h g->p.cell? ⟨a,f,n⟩=h g):∃d,ao P l (G t []) p=.ended (.done aa) p d/\∀i∈d,∃a f g,i=⟨.cell ⟨a,f,n⟩,v,v⟩/\b.D a f=h g:=by
 obtain⟨fn,r,m⟩:=e.fn;obtain⟨w,u⟩:=m p q;refine⟨seen P t.fn ((results fn t.tmps).events P p #[]),?_,λi s=>u i (Go.Conc.mem_seen s)⟩;have o:P.inits.idxOf? t.fn=n:=by rw[e.je];exact j
 simp[G,ao,unwind,doReturn,e.mode,e.defers,e.kind,r,w,o,GStep.after]
abbrev ut:=Nat×ak×X
abbrev mE(a:m ut):m aq:=a.map λb=>.K (ef b.1 b.2.1 b.2.2)
def a6.cR(a:m ut)(d:au):a6:={s:=a.map λe=>⟨.pointer (h ⟨e.1,0,n⟩),[e.1]⟩,D:=λb f=>if b∈a.map (·.1)then n else d.cell? ⟨b,f,n⟩,a:=d,own:=λb=>b<d.heap.size/\b∉a.map (·.1)}
def bb.cR{gs}{p}(C:(gs.map (·.1)).Nodup)(y:∀d∈gs,p.heap[d.1]?=h (.cells #[d.2.2] d.2.1 (0,0))):bb (mE gs) (a6.cR gs p):=by
 have D:∀d∈gs,d.1<p.heap.size:=λd t=>(jl.1 (y d t)).1;have k:∀(e:Nat) L,(a6.cR gs p).s[e]?=h L->∃d,gs[e]?=h d/\L=⟨.pointer (h ⟨d.1,0,n⟩),[d.1]⟩:=λe L m=>by simp[a6.cR,nd,rk]at m;grind
 refine⟨λg z J s=>?_,by simp[a6.cR],λe F L aJ f=>?_,λe o L u i w g b j=>?_,λL m g b=>?_,λg b=>⟨b.1,λL m x=>?_⟩⟩
 .simp only[a6.cR]at s;split at s
  .cases s
  exact s
 .obtain⟨d,i,rfl⟩:=k e L f;simp[mE,nd,i,lK,e_]at aJ;subst aJ;have t:=b' i;refine⟨λg=>if g=d.1 then h (.cells #[d.2.2] d.2.1 (0,0))else n,⟨a,bo a,λg b=>bj b⟩,λg z b=>?_,λg=>?_,λg b z=>?_⟩
  .simp only at b;split at b
   .rename_i r;cases b;rw[r];exact y d t
   grind
  .by_cases r:g=d.1<;>simp[r]
  rw[fU]at b;subst b;exact bo (g4.2 ⟨d,t,a⟩)
 .obtain⟨d,q,rfl⟩:=k e L i;obtain⟨E,I,rfl⟩:=k o u w;rw[fU]at b j;have r:d.1=E.1:=b.symm.trans j;have A:(gs.map (·.1))[e]?=h d.1:=N;have B:(gs.map (·.1))[o]?=h d.1:=N;grind[List.getElem?_inj]
 .obtain⟨e,f⟩:=A1 m;obtain⟨d,q,rfl⟩:=k e L f;rw[fU]at b;subst b;exact D d (b' q)
 obtain⟨e,f⟩:=A1 m;obtain⟨d,q,rfl⟩:=k e L f;rw[fU]at x;subst x;exact b.2 (g4.2 ⟨d,b' q,a⟩)
def bb.iT{gs}(e:bb (mE gs) b){a}(g:a∈gs):b.a.heap[a.1]?=h (.cells #[a.2.2] a.2.1 (0,0)):=by
 obtain⟨d,k⟩:=A1 g;have aJ:(mE gs)[d]?=h (.K (ef a.1 a.2.1 a.2.2)):=N;have f:d<c b.s:=by rw[e.len];grind
 obtain⟨i,⟨_,j,_⟩,m,_⟩:=e.box d _ _ aJ (bJ f);grind
def bl.iW{m}{args}{gs}(g:bl (af.aC P) m args (mE gs) res (λ_=>mE gs))(w:P.inits.idxOf? m=n)(O:(gs.map (·.1)).Nodup)(W:∀C∈gs,p.heap[C.1]?=h (.cells #[C.2.2] C.2.1 (0,0)))(ag:b5 (mE gs) (a6.cR gs p) z args){fD:X->au->Prop}(ah:∀s k b,bx (mE gs) b k (res s)->Below p.heap.size p b.a->∀D,fD k (b.a.at D)):
  ∃S last r i x,runNT P (S+1) (solo (G (Frame.enter P m z.toArray .normal) []) p) #[]=(.ended r i,x)/\runN P S (solo (G (Frame.enter P m z.toArray .normal) []) p)=.next last /\
   step P last=.ended r i/\Go.Conc.Good P fD last r i x:=by
 have T:=bb.cR O W;have key:=g.2 (a6.cR gs p) z ag T (λal b=>∃s k f,al=G f []/\mg P m f k b/\bx (mE gs) b k (res s)/\Below p.heap.size p b.a) []
  (λs f k b o q u e=>.stop ⟨s,k,f,rfl,o,q,⟨e.os,e.tape,e.output,e.size,λU N=>by
   by_cases A:U∈gs.map (·.1)
   .obtain⟨C,Z,rfl⟩:=g4.1 A;rw[u.iT Z,W C Z]
   .exact e.a7 U ⟨N,A⟩⟩⟩)
 have aM:AM.jH (λ_=>False)=λ_=>False:=by funext d;cases d<;>rfl
 obtain⟨t,ao,aq,an,b,V,x,ay,o,q,u,e,aa,ab,aw,⟨s,k,f,rfl,k1,ae,ai⟩⟩:=key.aC (λ_=>False) #[G (Frame.enter P m z.toArray .normal) []] n #[] (λ_=>0) T.mem rfl (Go.Conc.leavers_one P _)
  (by rw[aM];exact Go.Conc.past_nil.mono (g5 _)) ⟨λ_ g=>g.elim,λ_ g=>g.elim,λ_ g=>g.elim,λ_ g=>g.elim⟩ (λaB=>by intro s w;simp[Trace.act?]at w)
 have ak:=Go.Conc.beside_ends (P:=P) (Shun:=AM.jH ao) (B:=b.a.heap.size) (D:=λ_ _ _=>False) (Post:=fD) (λ_ _ _ g=>g.elim) (sl:=V) (n:=0) u e aa (Go.Conc.Goes.stop λw1 B=>by
  obtain⟨D,rfl⟩:=B;obtain⟨K,I,J⟩:=acf k1 w (b.a.at D) (λF r Y Q=>q F r Y Q);refine⟨a,k,K,I,λA L=>?_,ah s k b ae ai D⟩;obtain⟨F,r,Y,rfl,Q⟩:=J A L;refine Go.Conc.evL_cell _ _ (λH=>?_) (gy.lt q Q);have:=ab.D F H r
  grind)
 obtain⟨E,last,r,i,t2,R,az,ar,M⟩:=ak;refine⟨t+E,last,r,i,t2,?_,?_,ar,M⟩
 .rw[show t+E+1=t+(E+1) by omega];exact(El t (E+1) o).trans R
 have A:=runNT_fst P t (crowd #[G (Frame.enter P m z.toArray .normal) []] p n) #[];have av:(runNT P t (crowd #[G (Frame.enter P m z.toArray .normal) []] p n) #[]).1=.next (crowd aq b.a V):=by have:runNT P t (crowd #[G (Frame.enter P m z.toArray .normal) []] p n) #[]=_:=o;grind
 grind[Go.Conc.solo_eq_crowd,runN_add]
def Rd.cR{gs}{p}(S:∀a∈gs,p.heap[a.1]?=h (.cells #[a.2.2] a.2.1 (0,0)))(u:∀a∈gs,∃A z,a.2.2=.iface A z){aa}{o}{f j}{b:Nat->m M}(I:∀(g i:Nat)d,(b g)[i]?=h d->∃kd x,d=M.int kd x)(K:Rd (a6.bw p).D aa (.B o f j b)):Rd (a6.cR gs p).D aa (.B v f j b):=by
 obtain⟨U,D,C,k,rfl,r,s,Q,N,O⟩:=K.jJ;refine .hK r s Q N λg J i d e=>?_;obtain⟨z,q,y⟩:=O g J i d e;obtain⟨kd,x,rfl⟩:=I g i d e;cases y with
 |int w=>
  refine⟨_,?_,.int w⟩;have q:p.cell? ⟨C,k+g*f+i,n⟩=h (.int kd x):=q;show(if C∈gs.map (·.1)then n else p.cell? _)=_;rw[bj,q];intro t;obtain⟨a,E,rfl⟩:=g4.1 t;obtain⟨A,z,F⟩:=u a E;simp[aI,S a E,F]at q;grind
end
section
open Go.ChangeShapes Go.WideShapes Go.ChangeAt Go.RowKit
def abN{H:Type}{a:ak×X->H}{x}{M}{os}{r}{fn}{b}{g:m PathCond}{rx J' handsOn again}{q:au->Array X->Prop}(aa:∀d f args,d.heap=f.heap->q d args->q f args)(own:ownKnob M.prog.godebug=n)(I:os.Started)(W:M.prog.funcs[r]?=h fn)(K:∃(d:au) (i:Tape) (e:Input),d.os=os/\(d.forCall i e).Shaped M.prog/\e.vars=[]/\Input.okWide M.prog (d.forCall i e) .any d.heap.size r e /\
   ((b.pre a M.prog fn g rx (d.forCall i e).memory e.args/\q (d.forCall i e).memory e.args)/\sizedMet a M.prog fn (OpenSpec.ofChange b) rx (d.forCall i e).memory e.args)/\x.holds M.prog (lone (Frame.enter M.prog r e.args .normal) [] (d.forCall i e)))(N:∀(k:au) (base:Nat) (args:Array X) (o p:m (DataW H)) (w:m MemPlace),
   (∀(z:Nat) A t,fn.params[z]?=h A->args[z]?=h t->Value.okWide M.prog k .any base A t) ->
   DataW.Whole a M.prog fn.params.toList b.vars rx k args.toList o p w->k.ShapedOpen M.prog->q k args ->
   ∃u last s f j,runNT M.prog (u+1) (Conc.solo (Conc.G (Frame.enter M.prog r args .normal) []) k) #[]=(.ended s f,j)/\runN M.prog u (Conc.solo (Conc.G (Frame.enter M.prog r args .normal) []) k)=.next last /\
    step M.prog last=.ended s f/\Conc.Good M.prog (λt R=>b.post a M.prog fn rx J' handsOn again k args t R) last s f j):
  ReturnsInLeavingWide x M os r .any (λd args=>(b.pre a M.prog fn g rx d args/\q d args)/\sizedMet a M.prog fn (OpenSpec.ofChange b) rx d args) (b.post a M.prog fn rx J' handsOn again):=by refine returnsInLeavingWide_of_good own I K ?_;intro d i e _ V _ U S ae;obtain⟨_,_,_,Y,Q,_,_,_,_,O⟩:=U;have J:Y=fn:=sF (Q.symm.trans W);subst J;obtain⟨⟨⟨o,p,w,C,L⟩,F⟩,ab⟩:=S;have T:=DataW.Whole.of_heap (w':=d.forCall i e) oT C;obtain⟨u,last,s,f,j,y,Z,E,B⟩:=N (d.forCall i e) d.heap.size e.args o p w O T V (aa (d.forCall i e).memory (d.forCall i e) e.args rfl F);exact⟨u,last,s,f,j,y,Z,E,B.mono λt D=>ChangeSpec.post_blind D⟩
def Nz(f){a}{b}{t}(d)(kinds)(e)(i)(iI)(D:t.holds a b)(A:∀y∈d,(t.withDomain y).holds a b)(B:t.wfByText b=l)(x:∀y∈d,(t.withDomain y).wfByText b=l)(u:t.laidByTextAt f a kinds e)(g:t.start=.entering)(k:t.noBlocks=v/\t.again=v)(m:a.checked.prog.mainIs=h (i.1,i.2.toList))(E:(!i.1&&i.2.isEmpty&&!iI)=v)(p:∀j fn,a.checked.prog.funcNamed t.func=h j->a.checked.prog.funcs[j]?=h fn->iI=a.checked.prog.looks []/\∀(z:Nat) r,fn.params[z]?=h r->a.checked.prog.wantsStandIn r=v)(C:l=t.goesBy a.checked.prog):
  Claim7.holds a (.plain b) {stood:={row:=t,standIns:=[],harness:=i,looks:=iI},kinds:=[],alts:=d,goes:=l,laidByText:=l,laidKinds:=kinds,laidTests:=e,laidLooks:=f}:=by
 have o:∀q:OpenClaim,Claim7.isSixth {stood:={row:=q,standIns:=[],harness:=i,looks:=iI},kinds:=[]}=v:=λq=>by exact cV
 refine⟨Claim7.tied_new_at f kinds e (Claim7.new_of_sixth D i iI g k m (o t) p) B,λy s=>?_,u,(λw=>by cases w),C⟩;exact Claim7.tied_new_at f kinds e (Claim7.new_of_sixth (A y s) i iI g k m (o _) p) (x y s)
end
namespace R1
def yb(b:bD)(a:Nat):Int:=(dr b a-97) % 256
def pM(b:bD)(a:Nat):Bool:=(yb b (a-1)+2*yb b (a-2)+3*yb b (a-3)) % 5==0
def lS(b:bD)(a:Nat):Nat->Nat
 |0=>min (a+8) (c b)
 |d+1=>if c b<=a+(7-d)then c b else if pM b (a+(7-d))then a+(7-d)else lS b a d
def ep(b:bD)(a:Nat):Nat:=lS b a 5
def It(o)(a)(d:a<c o):∀b,b<=5->a<lS o a b/\lS o a b<=c o/\lS o a b<=a+8
 |0,_=>by simp only[lS];omega
 |b+1,e=>by
  simp only[lS];split
  .omega
  split
  .omega
  exact It o a d b w
theorem rJ(o)(a)(b:a<c o):a<ep o a/\ep o a<=c o/\ep o a<=a+8:=It o a b 5 w
def lj(a:bD):Nat->Nat->m Nat
 |0,_=>[]
 |d+1,b=>if b<c a then ep a b::lj a d (ep a b)else[]
def TI(a:bD):m Nat:=lj a (c a) 0
def iK(b:bD):Nat->Nat->m bD
 |0,_=>[]
 |d+1,a=>if a<c b then(b.drop a).take (ep b a-a)::iK b d (ep b a)else[]
def cn(a:bD):m bD:=iK a (c a) 0
def iY(a:m bD):Option bD:=if fO a.flatten&&(cn a.flatten==a)then h a.flatten else n
def cD(a:bD):Bool:=decide (1<=c a)&&decide (c a<=8)&&d6 a
def gm(d:bD):Int:=d.foldl (λb a=>27*b+((a.toNat:Int)-97) % 256+1) 0
def cm(a:Int):Bool:=decide (1<=a)&&decide (a<=99)
def d8(a:Int)(b:bD):Int:=(gm b*(2*a+1)+a*7919) % 999999999989
def fh(a:Nat):Nat:=if a<1∨8<a then 0 else if a<=2 then 2 else if a<=4 then 4 else 8
def fN(a:bD):bD:=if cD a then a++aV (fh (c a)-c a) 46 else[]
def fu(a:bD):bD:=(a.reverse.dropWhile (·==46)).reverse
def hM(a:bD):Option bD:=if cD (fu a)&&(fN (fu a)==a)then h (fu a)else n
abbrev cY:=Int×bD
abbrev b4:=Int×m cY
def right(b:Int)(a:cY):Bool:=match hM a.2 with|some d=>d8 b d==a.1|none=>v
def EB(b:m Int):Bool:=(aA (c b)).all λa=>a==0||decide (b.getD (a-1) 0<b.getD a 0)
def ij(b:Int)(a:b4):Bool:=
 decide (1<=a.1)&&decide (a.1<=99)&&cm b&&decide (1<=c a.2)&&decide (c a.2<=4)&&a.2.all (right b)&&EB (a.2.map (·.1))
def iW(a:Int)(d:cY):Option bD:=match hM d.2 with|some b=>if cm a&&(d8 a b==d.1)then h b else n|none=>n
def fX(b:Int)(e:b4)(d:Int):Option bD:=match e.2.find? (λa=>a.1==d)with|some a=>iW b a|none=>n
def fj(b:b4)(a:m Int):b4:=(b.1,b.2.filter λd=>a.contains d.1)
def fI(e:m cY)(a:cY):m cY:=match e with
 |[]=>[a]
 |b::d=>if a.1<b.1 then a::b::d else b::fI d a
def j0(a e:Int)(b:m bD):b4:=(a,b.foldl (λf d=>fI f (d8 e d,fN d)) [])
abbrev fo:=Int×Int
def f'(a:fo):Bool:=decide (0<=a.1)&&decide (a.1<999999999989)&&decide (1<=a.2)&&decide (a.2<=99)
def ec(e:m fo)(a:fo):m fo:=match e with
 |[]=>[a]
 |b::d=>if b.1<a.1 then b::ec d a else a::(b::d).filter (λf=>!(f.1==a.1))
def i6(b:m fo)(d:Int):Int:=match b.find? (λa=>a.1==d)with|some a=>a.2|none=>0
def dD(b:m b4):m fo:=b.flatMap λa=>a.2.map λd=>(d.1,a.1)
def eD(a:m b4):m fo:=if(dD a).all f' then(dD a).foldl ec []else[]
abbrev m7:=bD×m Int
abbrev dF:=Int×m m7
def kT(b:Int)(a:cJ):m7:=(a.1,(cn a.2).map (d8 b))
def fs(a b:Int)(d:m cJ):dF:=(a,d.map (kT b))
def fc(d:Int)(e:m fo)(a:m bD)(b:bD):m bD:=if i6 e (d8 d b)==0&&!a.contains b then a++[b]else a
def f_(b:Int)(e:m cJ)(d:m fo):m bD:=(e.flatMap λa=>cn a.2).foldl (fc b d) []
def dd(b:Int)(a:m b4)(d:Int):Option bD:=a.findSome? λe=>fX b e d
def qE{b}(e:d6 b=l):∀a∈b,97<=a.toNat/\a.toNat<=122:=by intro a d;have:=aW.1 e a d;simpa[jx]using this
def Cb:∀(e:bD) (a d:Int)(g:Nat),(∀b∈e,97<=b.toNat/\b.toNat<=122)->0<=a->a<d->1<=d ->
  0<=e.foldl (λa b=>27*a+((b.toNat:Int)-97) % 256+1) a/\e.foldl (λa b=>27*a+((b.toNat:Int)-97) % 256+1) a<d*27 ^ c e
 |[],a,d,_,_,j,i,_=>by grind
 |b::e,a,d,g,f,j,i,p=>by obtain⟨o,k⟩:=f b D;have:=Cb e (27*a+((b.toNat:Int)-97) % 256+1) (d*27) g (λm q=>f m N) w w w;grind[Int.mul_assoc]
def LZ:∀{j:Nat},j<=8->(27:Int) ^ j<=282429536481:=by
 intro j a
 match j,a with
 |0,_|1,_|2,_|3,_|4,_|5,_|6,_|7,_|8,_=>decide
def xT{b:bD}(d:cD b=l):0<=gm b/\gm b<282429536481:=by simp[cD,cp,bz]at d;obtain⟨e,a⟩:=Cb b 0 1 0 (qE d.2) w w w;have:=LZ d.1.2;rw[Int.one_mul]at a;exact⟨e,Int.lt_of_lt_of_le a this⟩
def TG:∀a:Fin 200,a.val≠0->Nat.gcd 999999999989 a.val=1:=afa
def aaE{x:Nat}{P t a}(b:P=(x:Int))(f:P ∣ t*a)(i:0<t)(k:t<P)(g:Nat.gcd x a.natAbs=1):False:=by
 subst b;have e:x ∣ t.natAbs*a.natAbs:=by have:=Int.natAbs_dvd_natAbs.2 f;grind[Int.natAbs_mul,Int.natAbs_natCast]
 have d:x ∣ t.natAbs:=Nat.Coprime.dvd_of_dvd_mul_right g e;have j:=Nat.le_of_dvd w d;omega
def Ua{a b P:Int}(d:a % P=b % P):P ∣ a-b:=Int.dvd_of_emod_eq_zero (by rw[Int.sub_emod,d,Int.sub_self,Int.zero_emod])
def o_(b:bD):Int:=b.foldr (λa d=>27*d+((a.toNat:Int)-97) % 256+1) 0
def H9:∀a:bD,0<=o_ a
 |[]=>by simp[o_]
 |b::a=>by have:=H9 a;simp[o_,List.foldr_cons]at *;omega
def H8:∀{S bm:bD},(∀a∈S,97<=a.toNat/\a.toNat<=122)->(∀a∈bm,97<=a.toNat/\a.toNat<=122)->o_ S=o_ bm->S=bm
 |[],[],_,_,_=>rfl
 |[],t::bm,_,b,d|t::bm,[],b,_,d=>by have:=H9 bm;simp[o_,List.foldr_cons,List.foldr_nil]at *;omega
 |a::S,t::bm,f,b,d=>by have j:=f a D;have k:=b t D;have g:=H8 (S:=S) (bm:=bm) (λe i=>f e N) (λe i=>b e N);simp[o_,List.foldr_cons]at d g;grind[UInt8.toNat_inj]
def TA{a d}(f:cD a=l)(g:cD d=l)(j:gm a=gm d):a=d:=by
 have i:∀a,gm a=o_ a.reverse:=λa=>by simp[gm,o_,List.foldr_reverse]
 simp[cD,cp]at f g;rw[i,i]at j;exact List.reverse_inj.1 (H8 (λe b=>qE f.2 e (List.mem_reverse.1 b)) (λe b=>qE g.2 e (List.mem_reverse.1 b)) j)
def y2(o:cm f=l){j k}(p:cD j=l)(q:cD k=l)(i:d8 f j=d8 f k):j=k:=by
 refine TA p q ?_;simp[cm,cp,bz]at o;obtain⟨r,m⟩:=xT p;obtain⟨g,d1⟩:=xT q;have key:∀d e:Int,0<=d->0<=e->d<282429536481->d>e->(d*(2*f+1)+f*7919) % 999999999989=(e*(2*f+1)+f*7919) % 999999999989->False:=by intro d e z y u t i;have b:=Ua i;rw[show(d*(2*f+1)+f*7919)-(e*(2*f+1)+f*7919)=(d-e)*(2*f+1) by grind]at b;have s:(2*f+1).natAbs<200:=w;exact aaE (x:=999999999989) a b w w (TG ⟨_,s⟩ N)
 rcases Int.lt_trichotomy (gm j) (gm k)with b|b|b
 .exact(key _ _ g r d1 b i.symm).elim
 .exact b
 exact(key _ _ r g m b i).elim
theorem acW{a}(g:d6 a=l)(j):fu (a++aV j 46)=a:=by
 have i:∀j,List.dropWhile (·==46) ((aV j (46:UInt8))++a.reverse)=a.reverse:=by
  intro j;induction j with
  |zero=>
   simp[List.replicate_zero,n7];cases k:a.reverse with
   |nil=>rfl
   |cons b m=>
    have f:b∈a:=List.mem_reverse.1 N;have:=qE g b f;have d:(b==46)=v:=by simp[eN];rintro rfl;grind
    simp[d]
  |succ j e=>simpa[List.replicate_succ]using e
 unfold fu;grind
def aa3{a}(b:cD a=l):hM (fN a)=h a:=by
 have e:d6 a=l:=by simp[cD,cp]at b;exact b.2
 have f:fN a=a++aV (fh (c a)-c a) 46:=by simp[fN,b]
 have d:fu (fN a)=a:=by grind[acW]
 simp[hM,d,b]
def jD(a:m cY)(b d:Nat):m cY:=(a.set b (a.getD d (0,[]))).set d (a.getD b (0,[]))
def nG(a:m cY)(b d:Nat):Bool:=decide ((a.getD b (0,[])).1<(a.getD d (0,[])).1)
def je:Nat->m cY->Nat->m cY
  |0,b,_=>b
  |d+1,b,a=>if(a-1) / 2=a then b else if nG b a ((a-1) / 2)=l then je d (jD b ((a-1) / 2) a) ((a-1) / 2)else b
def jv(b:m cY)(a d:Nat):Nat:=if 2*a+2<d/\nG b (2*a+2) (2*a+1)=l then 2*a+2 else 2*a+1
def hk:Nat->m cY->Nat->Nat->m cY
  |0,a,_,_=>a
  |e+1,a,b,d=>if d<=2*b+1 then a else if nG a (jv a b d) b=l then hk e (jD a b (jv a b d)) (jv a b d) d else a
def hN(a:m cY)(b:cY):m cY:=je (c a+1) (a++[b]) (c a)
def hp(a:m cY):m cY:=hk (c a) (jD a 0 (c a-1)) 0 (c a-1)
def kY:Nat->m cY->m cY
  |0,_=>[]
  |b+1,a=>if c a=0 then[]else(hp a).getD (c a-1) (0,[])::kY b ((hp a).take (c a-1))
def l_(a:m cY):m cY:=kY (c a) (a.foldl hN [])
theorem pJ(d)(e u):c (jD d e u)=c d:=by simp[jD]
def NL:∀a b d,c (je a b d)=c b
  |0,_,_=>rfl
  |a+1,b,d=>by unfold je;split;rfl;split;rw[NL a,pJ];rfl
def IH:∀a b d e,c (hk a b d e)=c b
  |0,_,_,_=>rfl
  |a+1,b,d,e=>by unfold hk;split;rfl;split;rw[IH a,pJ];rfl
def L5(d)(a):c (hN d a)=c d+1:=by simp[hN,NL]
theorem LW(d):c (hp d)=c d:=by simp[hp,IH,pJ]
def ac1{d}(f:e<c d)(g:u<c d){a}:a∈jD d e u->a∈d:=by intro b;unfold jD at b;grind
def D8(a):hN [] a=[a]:=cV
def D9(a b):hN [a] b=if b.1<a.1 then[b,a]else[a,b]:=F7
def L4(a i b):hN [a,i] b=if b.1<a.1 then[b,i,a]else[a,i,b]:=F7
def abj(b i t a):hN [b,i,t] a=if a.1<i.1 then(if a.1<b.1 then[a,b,t,i]else[b,a,t,i])else[b,i,t,a]:=F7
def D7(a){d ba}{E}(e:c d=j+1)(b:hp d=ba++[E])(f:c ba=j):kY (a+1) d=E::kY a ba:=by rw[kY,bj w,b];grind
def abc(a):kY 1 [a]=[a]:=cV
def LX(b i):kY 2 [b,i]=[b,i]:=by rw[D7 1 (ba:=[i]) (E:=b) (j:=1) a cV a,abc]
def LY(b i t):kY 3 [b,i,t]=if i.1<t.1 then[b,i,t]else[b,t,i]:=by rw[D7 2 (ba:=if i.1<t.1 then[i,t]else[t,i]) (E:=b) (j:=2) a (by simp[hp,hk,jD,jv,nG];split<;>rfl) (by split<;>rfl)];split<;>rw[LX]
def abd(d i t b):kY 4 [d,i,t,b]=d::kY 3 (if t.1<i.1 then(if t.1<b.1 then[t,i,b]else[b,i,t])else if i.1<b.1 then[i,b,t]else[b,i,t]):=by rw[D7 3 (ba:=if t.1<i.1 then(if t.1<b.1 then[t,i,b]else[b,i,t])else if i.1<b.1 then[i,b,t]else[b,i,t]) (E:=d) (j:=3) a ?_ (by split<;>split<;>rfl)];by_cases e:t.1<i.1<;>by_cases f:t.1<b.1<;>by_cases g:i.1<b.1<;>simp[hp,hk,jD,jv,nG,e,f,g]
theorem abn(d)(r:c d<=4)(i:d.Pairwise λa b=>a.1≠b.1):l_ d=d.foldl fI []:=by
  match d,r with
  |[],_=>rfl
  |[a],_=>exact cV
  |[a,b],_=>
    simp at i;simp[l_,List.foldl,D8,D9,fI,fe,gO];split<;>simp[LX]
  |[a,b,e],_=>
    simp at i;obtain⟨⟨x,w⟩,y⟩:=i;simp[l_,List.foldl,D8,D9,fI,fe,gO];by_cases o:b.1<a.1<;>by_cases g:e.1<a.1<;>by_cases p:e.1<b.1<;>first|omega |
      (have m:(a.1<b.1)=¬(b.1<a.1):=by grind
       have j:(a.1<e.1)=¬(e.1<a.1):=N;have k:(b.1<e.1)=¬(e.1<b.1):=N
       simp[o,g,p,m,j,k,L4,LY,fI])
  |[a,b,e,f],_=>
    simp at i;obtain⟨⟨x,w,y⟩,⟨C,D⟩,B⟩:=i;simp[l_,List.foldl,D8,D9,fI,fe,gO];by_cases o:b.1<a.1<;>by_cases g:e.1<a.1<;>by_cases p:e.1<b.1<;>by_cases q:f.1<a.1<;>by_cases A:f.1<b.1<;>by_cases u:f.1<e.1<;>first|omega |
      (have m:(a.1<b.1)=¬(b.1<a.1):=by grind
       have j:(a.1<e.1)=¬(e.1<a.1):=N;have k:(b.1<e.1)=¬(e.1<b.1):=N;have s:(a.1<f.1)=¬(f.1<a.1):=N;have z:(b.1<f.1)=¬(f.1<b.1):=N;have t:(e.1<f.1)=¬(f.1<e.1):=N
       simp[o,g,p,q,A,u,m,j,k,s,z,t,L4,abj,abd,LY,fI])
def pt{a:Type}[BEq a][LawfulBEq a]:∀(L b:m a),L.Nodup->(∀d∈L,d∈b)->c L<=c b
 |[],b,_,_=>g5 _
 |e::L,b,p,i=>by
  obtain⟨o,k⟩:=List.nodup_cons.1 p;have g:=i e iB;have:=pt L (b.erase e) k λd f=>by have:d≠e:=λj=>o (j▸f);exact(List.mem_erase_of_ne this).2 (i d (mm _ f))
  have j:=List.length_erase_of_mem g;have:=List.length_pos_of_mem g;simp[fe];omega
def Bh:∀{j k:m Int},j.Pairwise (· < ·)->k.Pairwise (· < ·)->(∀e,e∈j↔e∈k)->j=k
 |[],[],_,_,_=>rfl
 |[],g::k,_,_,a=>by have:=(a g).2 iB;cases this
 |f::j,[],_,_,a=>by have:=(a f).1 iB;cases this
 |f::j,g::k,u,w,a=>by
  obtain⟨r,p⟩:=iy.1 u;obtain⟨s,q⟩:=iy.1 w;have d:=(a f).1 iB;have b:=(a g).2 iB;simp[eT]at d b;have t:f=g:=by
   rcases d with d|d
   .exact d
   rcases b with b|b
   .exact b.symm
   have:=r g b;have:=s f d;omega
  subst t;rw[Bh p q λe=>?_];have o:=a e;simp[eT]at o;constructor
  .intro C;have:=r e C;rcases o.1 (.inr C)with i|i
   .omega
   exact i
  intro C;have:=s e C;rcases o.2 (.inr C)with i|i
  .omega
  exact i
section
variable {q:af T}
def BG:bH:=λargs a=>match args,a with
 |[.n (.Q (.c (.T b)))],[]=>h (bg (fY b),[],[])
 |_,_=>n
def adf:bK q 71 BG:=by intro args f b d a e _;unfold BG at e;grind[XF]
def xG:bH:=λargs a=>match args,a with
 |[.n (.Q (.c (.T b)))],[]=>h (bg (fO b),[],[])
 |_,_=>n
def t72:bK q 72 xG:=by intro args f b d a e _;unfold xG at e;grind[YA]
def BH:bH:=λargs d=>match args,d with
 |[.n (.Q (.c (.T a))),.n (.Q (.c (.T b)))],[]=>h (bg (lf a b),[],[a≠[],b≠[]])
 |_,_=>n
def adg:bK q 73 BH:=by
 intro args g e f d b a;unfold BH at b;split at b
 .cases b;exact UO _ _ a.1 a.2
 grind
def Io:m (Nat×bH):=(71,BG)::(72,xG)::(73,BH)::Ie
def lR:a_ q Io:=a_.cons adf (a_.cons t72 (a_.cons adg ql))
def cv(b:m cJ)(a:Nat):bD:=(b.getD a ([],[])).1
def lD(b:m cJ)(a:Nat):bD:=(b.getD a ([],[])).2
def kA(o)(e):(o.getD e bu.E).1=cv o e:=rfl
def t0(o)(e):(o.getD e bu.E).2=lD o e:=rfl
def jc(b:m cJ)(a:Nat):Bool:=fY (cv b a)&&fO (lD b a)&&(a==0||aS (cv b (a-1)) (cv b a))&&(aA a).all λd=>!lf (cv b d) (cv b a)
def dO(a:m cJ):Bool:=(aA (c a)).all (jc a)&&decide (c a<=6)
def gd{b:Nat->Bool}:(aA j).all b=l↔∀a,a<j->b a=l:=N
def ze{b}(a:fY b=l):b≠[]:=by rintro rfl;exact cV
def zT{o}(b:e<c o)(d:jc o e=v):dO o=v:=by
 cases a:dO o with
 |false=>rfl
 |true=>
  simp only[dO,cp]at a;grind
def YD(o):Y q 45 [bu.B o] [] (bg (dO o)) []:=by
 refine Y.ab func45 rfl λy=>?_;have E:=y.B 0 a;refine b9 lR a B (g.ej (λb=>b<=c o/\∀e,e<b->jc o e=l) (λb:Nat=>[(0,bu.B o),(3,Q b)]) (λ_=>[]) (λb=>c o-b) 0 a F_ ⟨by omega,by omega⟩ a ?_);rintro b ⟨u,x⟩;by_cases s:b<c o
 .by_cases i:fY (cv o b)=l
  .by_cases O:fO (lD o b)=l
   .by_cases j:b=0∨aS (cv o (b-1)) (cv o b)=l
    .apply g.cj [(0,bu.B o),(3,Q b),(4,Q 0)] []
     .intro b3;by_cases k:b=0
      .refine a8 lR [8,16,24,-29] a ?_ (b3 _ _ a ?_)
       .simp[-aj,s,kA,t0,i,O];omega
       simp[bs]
      have C:=j.resolve_left k;have t:a7 .i64 ((b:Int)-1):=cV;have A:((b:Int)-1).toNat=b-1:=w;refine a8 lR [8,16,24,29,-42] a QC (b3 _ _ a ?_);simp[bs]
     ·
      have z:jc o b=(aA b).all (λe=>!lf (cv o e) (cv o b)):=by
       rcases j with rfl|C
       .simp[jc,i,O]
       simp[jc,i,O,C]
      refine g.ej (λe=>e<=b/\∀m,m<e->lf (cv o m) (cv o b)=v) (λe:Nat=>[(0,bu.B o),(3,Q b),(4,Q e)]) (λ_=>[]) (λe=>b-e) 0 a F_ ⟨by omega,by omega⟩ a ?_;rintro e ⟨I,F⟩;by_cases f:e<b
      .have d:fY (cv o e)=l:=by have:=x e f;simp only[jc,cp]at this;exact this.1.1.1
       cases p:lf (cv o e) (cv o b)with
       |true=>
        refine a8 lR [47,60] a ?_ (g.bR (g.dJ (bW.zero a ?_)))
        .simp[-aj,s,f,kA,p,ze i,ze d];omega
        have:jc o b=v:=N;simp[zT s this]
       |false=>
        refine a8 lR [47,-60] a ?_ (g.again (e+1) a ?_ ?_ ?_ a)
        .simp[-aj,s,f,kA,p,ze i,ze d,a7];omega
        .simp[bs]
        .grind
        omega
      have f:e=b:=w;subst f;refine a8 lR [-47] a D (g.bs a a ?_);exact b9 lR a cV (g.again (e+1) a F_ N w a)
    have k:b≠0:=λr=>j (.inl r);have C:aS (cv o (b-1)) (cv o b)=v:=N;have t:a7 .i64 ((b:Int)-1):=cV;have A:((b:Int)-1).toNat=b-1:=w;refine a8 lR [8,16,24,29,42] a QC (g.bR (bW.zero a ?_));simp[U,zT s (by simp[jc,k,C])]
   refine a8 lR [8,16,-24] a ?_ (g.bR (bW.zero a ?_))
   .simp[-aj,s,kA,t0,i,O]
   simp[U,zT s (by simp[jc,O])]
  refine a8 lR [8,-16] a ?_ (g.bR (bW.zero a ?_))
  .simp[-aj,s,kA,i]
  simp[U,zT s (by simp[jc,i])]
 refine a8 lR [-8] a bM (g.bs a a ?_);refine b9 lR a B (g.ao a ?_);simp only[U,dO];grind
end
section
open Go.Proofs Go.Conc.Lib
def qZ:WgLink:={add:=108,done:=110,wait:=112,relMerge:=155,disable:=156,enable:=157,inBubble:=158,associate:=159,fatal:=160,uOr:=161,uAdd:=162,raceRead:=163,uLoad:=164,uStore:=165,disassociate:=166,semrelease:=167,acquire:=169,isAssociated:=170,uCas:=171,raceWrite:=172,semacquire:=173,orU64:=228,addU64:=229,loadU64:=230,storeU64:=231,casU64:=235,tWgP:=207,tUP:=209,tAssoc:=211,tWg:=162,tAU:=159,tU64:=157,tUint:=173,tU32:=160,tPU32:=215,tPAU:=280,tPU64:=282,tNoCopy:=154,tANoCopy:=155,tAlign64:=156}
def wz:WgLib T qZ where
 f_add:=Tryz.func108.trans (eF h bG)
 f_done:=Tryz.func110.trans (eF h bG)
 f_wait:=Tryz.func112.trans (eF h bG)
 f_relMerge:=Tryz.func155.trans (eF h bG)
 f_disable:=Tryz.func156.trans (eF h bG)
 f_enable:=Tryz.func157.trans (eF h bG)
 f_inBubble:=Tryz.func158.trans (eF h bG)
 f_associate:=Tryz.func159.trans (eF h bG)
 f_fatal:=Tryz.func160.trans (eF h bG)
 f_uOr:=Tryz.func161.trans (eF h bG)
 f_uAdd:=Tryz.func162.trans (eF h bG)
 f_raceRead:=Tryz.func163.trans (eF h bG)
 f_uLoad:=Tryz.func164.trans (eF h bG)
 f_uStore:=Tryz.func165.trans (eF h bG)
 f_disassociate:=Tryz.func166.trans (eF h bG)
 f_semrelease:=Tryz.func167.trans (eF h bG)
 f_acquire:=Tryz.func169.trans (eF h bG)
 f_isAssociated:=Tryz.func170.trans (eF h bG)
 f_uCas:=Tryz.func171.trans (eF h bG)
 f_raceWrite:=Tryz.func172.trans (eF h bG)
 f_semacquire:=Tryz.func173.trans (eF h bG)
 f_orU64:=Tryz.func228.trans (eF h bG)
 f_addU64:=Tryz.func229.trans (eF h bG)
 f_loadU64:=Tryz.func230.trans (eF h bG)
 f_storeU64:=Tryz.func231.trans (eF h bG)
 f_casU64:=Tryz.func235.trans (eF h bG)
 underlying_tWgP:=Tryz.underlying207
 runUnderlying_tWgP:=Tryz.runUnderlying207
 sizeOf_tWgP:=Tryz.sizeOf207
 isAgg_tWgP:=Tryz.isAgg207
 zeroValue_tWgP:=Tryz.zeroValue207
 underlying_tUP:=Tryz.underlying209
 runUnderlying_tUP:=Tryz.runUnderlying209
 sizeOf_tUP:=Tryz.sizeOf209
 isAgg_tUP:=Tryz.isAgg209
 zeroValue_tUP:=Tryz.zeroValue209
 underlying_tI32:=Tryz.underlying211
 runUnderlying_tI32:=Tryz.runUnderlying211
 sizeOf_tI32:=Tryz.sizeOf211
 isAgg_tI32:=Tryz.isAgg211
 zeroValue_tI32:=Tryz.zeroValue211
 underlying_tWg:=Tryz.underlying162
 runUnderlying_tWg:=Tryz.runUnderlying162
 sizeOf_tWg:=Tryz.sizeOf162
 isAgg_tWg:=Tryz.isAgg162
 zeroValue_tWg:=Tryz.zeroValue162
 underlying_tAU:=Tryz.underlying159
 runUnderlying_tAU:=Tryz.runUnderlying159
 sizeOf_tAU:=Tryz.sizeOf159
 isAgg_tAU:=Tryz.isAgg159
 zeroValue_tAU:=Tryz.zeroValue159
 underlying_tU64:=Tryz.underlying157
 runUnderlying_tU64:=Tryz.runUnderlying157
 sizeOf_tU64:=Tryz.sizeOf157
 isAgg_tU64:=Tryz.isAgg157
 zeroValue_tU64:=Tryz.zeroValue157
 underlying_tSh:=Tryz.underlying173
 runUnderlying_tSh:=Tryz.runUnderlying173
 sizeOf_tSh:=Tryz.sizeOf173
 isAgg_tSh:=Tryz.isAgg173
 zeroValue_tSh:=Tryz.zeroValue173
 underlying_tU32:=Tryz.underlying160
 runUnderlying_tU32:=Tryz.runUnderlying160
 sizeOf_tU32:=Tryz.sizeOf160
 isAgg_tU32:=Tryz.isAgg160
 zeroValue_tU32:=Tryz.zeroValue160
 underlying_tPU32:=Tryz.underlying215
 runUnderlying_tPU32:=Tryz.runUnderlying215
 sizeOf_tPU32:=Tryz.sizeOf215
 isAgg_tPU32:=Tryz.isAgg215
 zeroValue_tPU32:=Tryz.zeroValue215
 underlying_tPAU:=Tryz.underlying280
 runUnderlying_tPAU:=Tryz.runUnderlying280
 sizeOf_tPAU:=Tryz.sizeOf280
 isAgg_tPAU:=Tryz.isAgg280
 zeroValue_tPAU:=Tryz.zeroValue280
 underlying_tPU64:=Tryz.underlying282
 runUnderlying_tPU64:=Tryz.runUnderlying282
 sizeOf_tPU64:=Tryz.sizeOf282
 isAgg_tPU64:=Tryz.isAgg282
 zeroValue_tPU64:=Tryz.zeroValue282
 underlying_t0:=Tryz.underlying0
 runUnderlying_t0:=Tryz.runUnderlying0
 sizeOf_t0:=Tryz.sizeOf0
 isAgg_t0:=Tryz.isAgg0
 zeroValue_t0:=Tryz.zeroValue0
 underlying_t3:=Tryz.underlying3
 runUnderlying_t3:=Tryz.runUnderlying3
 sizeOf_t3:=Tryz.sizeOf3
 isAgg_t3:=Tryz.isAgg3
 zeroValue_t3:=Tryz.zeroValue3
 underlying_t4:=Tryz.underlying4
 runUnderlying_t4:=Tryz.runUnderlying4
 sizeOf_t4:=Tryz.sizeOf4
 isAgg_t4:=Tryz.isAgg4
 zeroValue_t4:=Tryz.zeroValue4
 underlying_t9:=Tryz.underlying9
 runUnderlying_t9:=Tryz.runUnderlying9
 sizeOf_t9:=Tryz.sizeOf9
 isAgg_t9:=Tryz.isAgg9
 zeroValue_t9:=Tryz.zeroValue9
 underlying_t20:=Tryz.underlying20
 runUnderlying_t20:=Tryz.runUnderlying20
 sizeOf_t20:=Tryz.sizeOf20
 isAgg_t20:=Tryz.isAgg20
 zeroValue_t20:=Tryz.zeroValue20
 underlying_t21:=Tryz.underlying21
 runUnderlying_t21:=Tryz.runUnderlying21
 sizeOf_t21:=Tryz.sizeOf21
 isAgg_t21:=Tryz.isAgg21
 zeroValue_t21:=Tryz.zeroValue21
 room_tWg:=bG
 room_tU32:=bG
end
end R1
def b5.imp{g f}{bh a}(i:∀e,bx k b e g->bx k b e f)(j:∀z,b5 k b z bh->b5 k b z a):∀z,b5 k b z (g::bh)->b5 k b z (f::a)
 |[],d=>d.elim
 |e::z,d=>⟨i e d.1,j z d.2⟩
abbrev x8(a:cJ):y:=.n (.agg [.c (.T a.1),.c (.T a.2)])
abbrev oO(a:m cJ)(b:Bool):y:=.S [.Q (.c (.B v 2 (c a) (bu.fn a))),.Q (.c (.bool b))]
namespace R1
variable {q:af T}
def sU:bH:=λargs d=>match args,d with
 |[e],[]=>match jA 2 e with
  |none=>n
  |some (a,b)=>h (bg (dO (bu.ad a b)),[],[bu.bN a b])
 |_,_=>n
def t45:bK q 45 sU:=by
 intro args j e f d a b;unfold sU at a;split at a
 .split at a
  .cases a
  rename_i k m g;cases a;exact(YD _ ).args (λ_ z=>b5.imp (λ_=>bu.cu g b) (λ_ i=>i) z)
 grind
def Ip:m (Nat×bH):=(45,sU)::Io
def TB:a_ q Ip:=a_.cons t45 lR
end R1
def c5.a0(a:c5 α)(d)(e):bs (c d+1) (ck (c d) (a.fn d) (λb=>[a.a8 e].getD b [])) (a.fn (d++[e])):=by intro b f;unfold ck c5.fn gI;grind
@[simp] theorem bs.same{a:Nat->m M}:bs j a a:=λ_ _=>rfl
@[simp] theorem bs.nil{a b:Nat->m M}:bs 0 a b:=λe d=>by omega
namespace R1
variable {q:af T}
def Iq:m (Nat×bH):=Ip
def TC:a_ q Iq:=TB
end R1
def kG.fY{args}(g:kG args k)(m:Nat){ah}(d:args[m]?=h (.n (.agg ah)))(i:Nat){o}{p}(b:ah[i]?=h (R.c (.B o p j V))):j<=9223372036854775807:=by obtain⟨q,s,f⟩:=g.at d;obtain⟨z,_,a⟩:=f;obtain⟨r,_,e⟩:=bN.get a b;cases e<;>omega
namespace R1
def lM{S:Nat->Bool}(a:e<j)(b:S e=v):(aA j).all S=v:=N
def jn{S:Nat->Bool}(b:∀a,a<e->S a=l)(f:S e=l):∀a,a<e+1->S a=l:=λa d=>by grind
end R1
def dJ.put(a b:Int):dJ->dJ
 |.nil=>.ax .nil a b .nil
 |.ax d E f e=>if a<E then .ax (d.put a b) E f e else if E<a then .ax d E f (e.put a b)else .ax d a b e
def dJ.ad:dJ->m (Int×Int)
 |.nil=>[]
 |.ax a d e b=>a.ad++(d,e)::b.ad
def dJ.find(a:Int):dJ->Int
 |.nil=>0
 |.ax d b f e=>if a=b then f else if a<b then d.find a else e.find a
namespace R1
theorem abr{d}{b}(f:∀a∈d,a.1<b.1):ec d b=d++[b]:=by
 induction d with
 |nil=>rfl
 |cons i g e=>
  simp[ec];grind
def L_{d a}{b}(g:∀e∈d,e.1<b.1):ec (d++a) b=d++ec a b:=by
 induction d with
 |nil=>rfl
 |cons i d f=>
  simp[sE,ec];grind
def abu{d ba}{b}(f:∀a∈ba,b.1<a.1):ec (d++ba) b=ec d b++ba:=by
 have k:ba.filter (λg=>!(g.1==b.1))=ba:=rl.2 λa j=>by grind
 induction d with
 |nil=>
  cases ba with
  |nil=>rfl
  |cons e ba=>
   have:=f e iB;simp[n7,ec];grind
 |cons e d i=>
  simp[sE,ec];grind
abbrev dJ.fq(a:dJ):Prop:=a.ad.Pairwise λb d=>b.1<d.1
theorem Ea{f i}:∀{o:dJ},dJ.fq o->(o.put f i).ad=ec o.ad (f,i)
 |.nil,_=>rfl
 |.ax d e g ba,q=>by
  obtain⟨s,p,t⟩:=nc.1 q;have r:=iy.1 p;have m:∀a∈d.ad,a.1<e:=λa b=>t a b (e,g) iB;simp[dJ.put,dJ.ad];split
  .rename_i j;simp[dJ.ad];rw[Ea (o:=d) s,abu (ba:=(e,g)::ba.ad)];grind
  split
  .rename_i _ j;simp[dJ.ad];rw[Ea (o:=ba) r.2,L_ (d:=d.ad) λa b=>by grind];simp[ec];grind
  have k:f=e:=w;subst k;simp[dJ.ad];rw[L_ (d:=d.ad) λa b=>m a b];simp only[ec];rw[bj D,n6,bj D,rl.2 λa b=>by grind]
theorem abw{d}{b}(j:d.Pairwise λe a=>e.1<a.1):(ec d b).Pairwise (λe a=>e.1<a.1)/\∀f∈ec d b,f=b∨f∈d:=by
 induction d with
 |nil=>simp[ec]
 |cons a p g=>
  obtain⟨m,i⟩:=iy.1 j;obtain⟨k,o⟩:=g i;simp[ec];grind[List.pairwise_cons]
def C2{j}:∀{o:dJ},dJ.fq o->o.find j=i6 o.ad j
 |.nil,_=>rfl
 |.ax b d q p,m=>by obtain⟨g,e,i⟩:=nc.1 m;have f:=iy.1 e;have s:∀a∈b.ad,a.1<d:=λa k=>i a k (d,q) iB;simp[dJ.find,dJ.ad];have r:=C2 (j:=j) (o:=b) g;have t:=C2 (j:=j) (o:=p) f.2;unfold i6 at *;grind
end R1
namespace R1
section
variable {q:af T}
def mN(b:cJ)(a:m cJ×Bool)(d:bD):m cJ×Bool:=if a.2=l then a else if aS d b.1=l then a else(a.1++[b],l)
def zk(d:cJ)(a:m cJ×Bool)(b:cJ):m cJ×Bool:=if b.1=d.1 then a else(a.1++[b],a.2)
def r6(b:cJ)(a:m cJ×Bool)(d:cJ):m cJ×Bool:=zk b (mN b a d.1) d
def mO(a:cJ)(b:m cJ):m cJ×Bool:=b.foldl (r6 a) ([],v)
def lx(b:m cJ)(a:cJ):m cJ:=if(mO a b).2=l then(mO a b).1 else(mO a b).1++[a]
theorem pe{o}(b:e<c o):o[e]=(cv o e,lD o e):=by have a:o.getD e ([],[])=o[e]:=N;simp only[cv,lD,a]
def abm{a}{o}(b:e<c o):mO a (o.take (e+1))=r6 a (mO a (o.take e)) (cv o e,lD o e):=by rw[sL,bJ b,pe b];simp[mO]
def L6(a)(uR)(C):(mN a uR C).1.length<=c uR.1+1:=Am
def abl(a)(uR)(C):(zk a uR C).1.length<=c uR.1+1:=by unfold zk;grind
def L8(b):∀e(a:m cJ×Bool),(e.foldl (r6 b) a).1.length<=c a.1+2*c e
 |[],a=>by simp
 |d::f,a=>by
  have g:=L8 b f (r6 b a d);have i:=L6 b a d.1;have j:=abl b (mN b a d.1) d;simp only[hS,fe];have:(r6 b a d).1.length<=c a.1+2:=by unfold r6;omega
  omega
abbrev x_(b:Nat)(a:m cJ):y:=.n (.Q (.x b 2 (c a) (bu.fn a)))
abbrev ng(a:m cJ):aq:=.x 81 2 (c a) (bu.fn a)
def XP(o)(al)(F:c o<=4000000):Y q 118 [bu.B o,x8 al] [] (x_ 0 (lx o al)) [ng (lx o al)]:=by
 refine Y.ab func118 rfl λE=>?_;refine aQ a B (g.bE 5 81 2 a a ?_);let R:Nat->m cJ×Bool:=λe=>mO al (o.take e);have t:∀e,e<=c o->(R e).1.length<=8000000:=by intro e k;have:=L8 al (o.take e) ([],v);simp at this;show(mO al (o.take e)).1.length<=_;unfold mO;omega
 refine g.b7 (λe=>e<=c o) (λe:Nat=>[(0,bu.B o),(3,aH 0 0),(7,Q e),(5,x_ 1 (R e).1),(6,bg (R e).2)]) (λe=>[.cells 81 [.c (.T al.1),.c (.T al.2)],ng (R e).1]) (λe=>c o-e) 0 a ?_ a ?_ w ?_
 .simp[bs,R,mO]
 .simp[bs,R,mO]
 intro e k;by_cases s:e<c o
 .have z:R (e+1)=r6 al (R e) (cv o e,lD o e):=abm s;have y:=t e k;generalize R e=b at *;have A:=L6 al b (cv o e);apply g.cj [(0,bu.B o),(3,aH 0 0),(7,Q e),(5,x_ 1 (mN al b (cv o e)).1),(6,bg (mN al b (cv o e)).2)] [.cells 81 [.c (.T al.1),.c (.T al.2)],ng (mN al b (cv o e)).1]
  .intro b3;cases r:b.2 with
   |true=>
    have j:mN al b (cv o e)=b:=Am;rw[j]at b3;refine bR [12,15,909] a ha (b3 _ _ a ?_);exact bw
   |false=>
    cases x:aS (cv o e) al.1 with
    |true=>
     have j:mN al b (cv o e)=b:=Am;rw[j]at b3;refine bR [12,-15,-25,909] a ?_ (b3 _ _ a ?_)
     .simp[-aj,s,kA,x]
     exact bw
    |false=>
     have j:mN al b (cv o e)=(b.1++[al],l):=Am;rw[j]at b3;refine bR [12,-15,25,909] a ?_ (g.bc _ a ?_ (b3 _ _ a ?_))
     .simp[-aj,s,kA,x,show rS.bytes=32 from a];omega
     .exact Rc
     exact Rc
  have u:R (e+1)=zk al (mN al b (cv o e)) (cv o e,lD o e):=z;generalize mN al b (cv o e)=f at *;by_cases p:cv o e=al.1
  .have i:R (e+1)=f:=by rw[u];exact bo p
   refine bR [-38] a ?_ (g.b4 (e+1) a ?_ a ?_ ?_ ?_)
   .simp[-aj,s,kA,p,a7];omega
   .simp_all
   .simp_all
   .omega
   omega
  have i:R (e+1)=(f.1++[(cv o e,lD o e)],f.2):=by rw[u];exact bj p
  refine bR [38] a ?_ (g.b4 (e+1) a ?_ a ?_ ?_ ?_)
  .simp[-aj,s,kA,p,a7,show rS.bytes=32 from a];omega
  .exact Qw
  .exact Qw
  .omega
  omega
 have:e=c o:=w;subst this;have C:R (c o)=mO al o:=N;have y:=t (c o) (bC _);refine a3 [-12] a D (g.bs a a ?_);have d:lx o al=if(R (c o)).2=l then(R (c o)).1 else(R (c o)).1++[al]:=hI;cases r:(R (c o)).2 with
 |true=>
  rw[r,bo a]at d;refine a3 [46] a D (g.bc [.cells 81 [.c (.T al.1),.c (.T al.2)],ng (lx o al)] a ds (g.aI [1] a ds ?_));grind
 |false=>
  rw[r,bj D]at d;refine a3 [-46] a ?_ (g.bc [.cells 81 [.c (.T al.1),.c (.T al.2)],ng (lx o al)] a ?_ (g.aI [1] a ?_ ?_))
  .simp[show rS.bytes=32 from a];omega
  .exact PR
  .exact PR
  grind
end
end R1
def bs.app0{b a:Nat->m M}:bs j (ck 0 b a) a:=λd _=>by simp[ck]
namespace R1
variable {q:af T}
def Bo:bH:=λargs f=>match args,f with
 |[g,.n (.agg [.c (.T a),.c (.T b)])],[]=>match jA 2 g with
  |none=>n
  |some (d,e)=>h (x_ 0 (lx (bu.ad d e) (a,b)) ,[ ng (lx (bu.ad d e) (a,b))],[bu.bN d e,c ((bu.ad d e))<=4000000])
 |_,_=>n
def t118:bK q 118 Bo:=by
 intro args j f g e a b;unfold Bo at a;split at a
 .split at a
  .cases a
  rename_i k m i;cases a;exact(XP _ _ (b.2)).args (λ_ z=>b5.imp (λ_=>bu.cu i b.1) (b5.imp (λ_ d=>d) (λ_ d=>d)) z)
 cases a
def Ir:m (Nat×bH):=(118,Bo)::Iq
def sX:a_ q Ir:=a_.cons t118 (TC)
def jE(a:m cJ)(b d:bD):m cJ×Bool:=
 if dO a=l/\fY b=l/\fO d=l then(if dO (lx a (b,d))=l then(lx a (b,d),l)else(a,v))else([],v)
abbrev aef(d:Nat)(a:m cJ)(b:Bool):y:=.S [.Q (.x d 2 (c a) (bu.fn a)),.Q (.c (.bool b))]
def NE{o}(a:dO o=l):c o<=6:=by simp only[dO,cp,bz]at a;omega
def JO(o)(b d):Y q 67 [bu.B o,b2 b,b2 d] [] (aef 0 (jE o b d).1 (jE o b d).2) [ng (jE o b d).1]:=by
 refine Y.ab func67 rfl λr=>?_;have e:¬(dO o=l/\fY b=l/\fO d=l)->jE o b d=([],v):=λp=>bj p;cases f:dO o with
 |false=>
  rw[e N];refine a8 sX [-10] a ?_ ?_
  .simp[bu.l,bu.J,f]
  exact FN
 |true=>
  have s:=NE f;cases i:fY b with
  |false=>
   rw[e N];refine a8 sX [10,-14] a ?_ ?_
   .simp[bu.l,bu.J,f,i]
   exact FN
  |true=>
   cases m:fO d with
   |false=>
    rw[e N];refine a8 sX [10,14,-19] a ?_ ?_
    .simp[bu.l,bu.J,f,i,m]
    exact FN
   |true=>
    have j:jE o b d=if dO (lx o (b,d))=l then(lx o (b,d),l)else(o,v):=bo ⟨f,i,m⟩;cases k:dO (lx o (b,d))with
    |true=>
     rw[k,bo a]at j;rw[j];refine a8 sX [10,14,19,29] a ?_ (g.bc [ng (lx o (b,d))] a ?_ (g.aI [0] a ?_ ?_))
     .simp[bu.l,bu.J,f,i,m,k];omega
     .simp[bu.l]
     .simp[bu.l]
     grind
    |false=>
     rw[k,bj D]at j;rw[j];refine a8 sX [10,14,19,-29] a ?_ (g.bc [ng (lx o (b,d)),ng o] a ?_ (g.aI [1] a ?_ ?_))
     .simp[bu.l,bu.J,f,i,m,k,show rS.bytes=32 from a];omega
     .simp[bu.l,bs.app0]
     .simp[bs.app0]
     grind
def YE(o)(b d):Y q 67 [bu.B o,b2 b,b2 d] [] (oO (jE o b d).1 (jE o b d).2) []:=
 (JO o b d).b2 a D a
def BF:bH:=λargs f=>match args,f with
 |[g,.n (.Q (.c (.T d))),.n (.Q (.c (.T e)))],[]=>match jA 2 g with
  |none=>n
  |some (a,b)=>h (oO (jE (bu.ad a b) d e).1 (jE (bu.ad a b) d e).2,[],[bu.bN a b])
 |_,_=>n
def ade:bK q 67 BF:=by
 intro args j f g e a d;unfold BF at a;split at a
 .split at a
  .cases a
  rename_i k m i;cases a;exact(YE _ _ _ ).args (λ_ z=>b5.imp (λ_=>bu.cu i d) (b5.imp (λ_ b=>b) (b5.imp (λ_ b=>b) (λ_ b=>b))) z)
 cases a
def Is:m (Nat×bH):=(67,BF)::Ir
def TD:a_ q Is:=a_.cons ade (sX)
end R1
def mV(a:m M)(d:Nat):Nat×(Nat->m M):=match db d a with|some (.B _ _ e b)=>(e,b)|_=>(0,λ_=>[])
def az:c5 Int:={bj:=1,a8:=λb=>[.int .i64 b],b6:=λa=>nB a 0,E:=0,inv:=λ_=>rfl,len:=λ_=>rfl}
def bS:c5 bD:={bj:=1,a8:=λb=>[.T b],b6:=λa=>tT a 0,E:=[],inv:=λ_=>rfl,len:=λ_=>rfl}
namespace R1
def bI:c5 cY:={bj:=2,a8:=λb=>[.int .i64 b.1,.T b.2],b6:=λa=>(nB a 0,tT a 1),E:=(0,[]),inv:=λ_=>rfl,len:=λ_=>rfl}
def ff:c5 fo:={bj:=2,a8:=λb=>[.int .i64 b.1,.int .i64 b.2],b6:=λa=>(nB a 0,nB a 1),E:=(0,0),inv:=λ_=>rfl,len:=λ_=>rfl}
abbrev ly(a:b4):M:=.B v 2 (c a.2) (bI.fn a.2)
def a1:c5 b4:={bj:=2,a8:=λb=>[.int .i64 b.1,ly b],b6:=λa=>(nB a 0,bI.ad (mV a 1).1 (mV a 1).2),E:=(0,[]),inv:=λb=>by show(b.1,bI.ad (c b.2) (bI.fn b.2))=b;rw[bI.l],len:=λ_=>rfl}
def cx:c5 m7:={bj:=2,a8:=λd=>[.T d.1,.B v 1 (c d.2) (az.fn d.2)],b6:=λa=>(tT a 0,az.ad (mV a 1).1 (mV a 1).2),E:=([],[]),inv:=λb=>by show(b.1,az.ad (c b.2) (az.fn b.2))=b;rw[az.l],len:=λ_=>rfl}
def bd:c5 dF:={bj:=2,a8:=λd=>[.int .i64 d.1,.B v 2 (c d.2) (cx.fn d.2)],b6:=λa=>(nB a 0,cx.ad (mV a 1).1 (mV a 1).2),E:=(0,[]),inv:=λb=>by show(b.1,cx.ad (c b.2) (cx.fn b.2))=b;rw[cx.l],len:=λ_=>rfl}
def a4:c5 (Int×Int):=ff
abbrev fM(a:b4):y:=.n (.agg [.c (.int .i64 a.1),.c (ly a)])
abbrev x6(a:Option bD):y:=.n (.agg [.c (.T (a.getD [])),.c (.bool a.isSome)])
end R1
structure jh(α:Type) where
 a8:α->y
 dW:y->Option (α×m Prop)
 ok:∀{O x r},dW O=h (x,r)->U r->∀{k:m aq} {b:a6} {aa:X},bx k b aa O->bx k b aa (a8 x)
def c7:jh Int:=⟨Q,λa=>match a with|.n (.Q (.c (.int .i64 b)))=>h (b,[])|_=>n,λ{a d f} e _ _ _ _ g=>by grind⟩
def eG:jh bD:=⟨b2,λa=>match a with|.n (.Q (.c (.T b)))=>h (b,[])|_=>n,λ{a d f} e _ _ _ _ g=>by grind⟩
def dB:jh Bool:=⟨bg,λa=>match a with|.n (.Q (.c (.bool b)))=>h (b,[])|_=>n,λ{a d f} e _ _ _ _ g=>by grind⟩
def eS(b:c5 α):jh (m α):=⟨b.B,λg=>match jA b.bj g with|some (f,a)=>h (b.ad f a,[b.bN f a])|none=>n,λ{g j k} d e _ _ _ i=>by
 split at d
 .rename_i f a he;cases d;exact b.cu he e i
 .cases d⟩
def sy:jh (Int×bD):=⟨λd=>.n (.agg [.c (.int .i64 d.1),.c (.T d.2)]),λb=>match b with|.n (.agg [.c (.int .i64 a),.c (.T e)])=>h ((a,e),[])|_=>n,λ{b a g} f _ _ _ _ i=>by grind⟩
def sx:jh (Int×Int):=⟨λd=>.n (.agg [.c (.int .i64 d.1),.c (.int .i64 d.2)]),λb=>match b with|.n (.agg [.c (.int .i64 a),.c (.int .i64 e)])=>h ((a,e),[])|_=>n,λ{b a g} f _ _ _ _ i=>by grind⟩
def jI(e:c5 α):jh (Int×m α):=⟨λj=>.n (.agg [.c (.int .i64 j.1),.c (.B v e.bj (c j.2) (e.fn j.2))]),λp=>match p with
 |.n (.agg [.c (.int .i64 o),.c q])=>match jA e.bj (.n (.Q (.c q)))with|some (i,d)=>h ((o,e.ad i d),[e.bN i d])|none=>n
 |_=>n,λ{p o u} f g _ b _ t=>by
 split at f
 .split at f
  .rename_i i d he;cases f;obtain⟨z,r,a⟩:=t
   match z,a with
   |[],a=>exact a.elim
   |[_],a=>exact a.2.elim
   |_::_::_::_,a=>exact a.2.2.elim
   |[w,s],a=>exact⟨_,r,a.1,e.cu (k:=[]) (b:=b) (aa:=s) he g a.2.1,B⟩
  cases f
 .cases f⟩
def di(d:jh α)(a:α->y)(pre:α->m Prop):bH:=λargs e=>match args,e with
 |[f],[]=>match d.dW f with
  |some (b,g)=>h (a b,[],gQ g (pre b))
  |none=>n
 |_,_=>n
def ej{b:Type}(f:jh α)(g:jh b)(a:α->b->y)(pre:α->b->m Prop):bH:=λargs i=>match args,i with
 |[j,k],[]=>match f.dW j with
  |some (d,o)=>match g.dW k with
   |some (e,p)=>h (a d e,[],gQ o (gQ p (pre d e)))
   |none=>n
  |none=>n
 |_,_=>n
def jS{b d:Type}(i:jh α)(j:jh b)(k:jh d)(a:α->b->d->y)(pre:α->b->d->m Prop):bH:=λargs o=>match args,o with
 |[p,q,r],[]=>match i.dW p with
  |some (e,s)=>match j.dW q with
   |some (f,t)=>match k.dW r with
    |some (g,u)=>h (a e f g,[],gQ s (gQ t (gQ u (pre e f g))))
    |none=>n
   |none=>n
  |none=>n
 |_,_=>n
section
variable {q:af P}{al:a0}{e u:Type}{R:jh α}{bU:jh e}{M:jh u}
def bK.a9{b:α->y}{pre:α->m Prop}(k:∀e,U (pre e)->Y q al [R.a8 e] [] (b e) []):bK q al (di R b pre):=by
 intro args o f j g a d;unfold di at a;split at a
 .split at a
  .rename_i p e r i;cases a;rw[U.Y]at d;exact(k e d.2).args λs z=>b5.imp (λ_ f=>R.ok i d.1 f) (λ_ f=>f) z
  cases a
 cases a
def bK.bk{d:α->e->y}{pre:α->e->m Prop}(o:∀g i,U (pre g i)->Y q al [R.a8 g,bU.a8 i] [] (d g i) []):bK q al (ej R bU d pre):=by
 intro args p f k j a b;unfold ej at a;split at a
 .split at a
  .rename_i s u g r t;split at a
   .rename_i i w cW;cases a;rw[U.Y,U.Y]at b;exact(o g i b.2.2).args λx z=>b5.imp (λ_ f=>R.ok t b.1 f) (b5.imp (λ_ f=>bU.ok cW b.2.1 f) (λ_ f=>f)) z
   cases a
  cases a
 cases a
def bK.cM{j:α->e->u->y}{pre:α->e->u->m Prop}(s:∀k i t,U (pre k i t)->Y q al [R.a8 k,bU.a8 i,M.a8 t] [] (j k i t) []):bK q al (jS R bU M j pre):=by
 intro args w g p o a b;unfold jS at a;split at a
 .split at a
  .rename_i x A C k r f;split at a
   .rename_i i B cW;split at a
    .rename_i t D d;cases a;rw[U.Y,U.Y,U.Y]at b;exact(s k i t b.2.2.2).args λE z=>b5.imp (λ_ g=>R.ok f b.1 g) (b5.imp (λ_ g=>bU.ok cW b.2.1 g) (b5.imp (λ_ g=>M.ok d b.2.2.1 g) (λ_ g=>g))) z
    cases a
   cases a
  cases a
 cases a
end
namespace R1
def eO(d:m y)(a:y):bH:=λargs b=>match b with|[]=>h (a,[],[args=d])|_=>n
def e8{b:af T}{al}{d}{res}(j:Y b al d [] res []):bK b al (eO d res):=by
 intro args i k f e a g;unfold eO at a;split at a
 .cases a;simp_all
 cases a
def lb(f:m y)(d:m aq)(a:y)(b:m aq):bH:=λargs e=>h (a,b,[args=f,e=d])
def l'{d:af T}{al}{e}{a aU}{res}(k:Y d al e a res aU):bK d al (lb e a res aU):=by intro args j m g f b i;cases b;simp_all
end R1
def lI(b:Mem):m X->m M->Prop
 |[],[]=>True
 |e::z,d::a=>Rd b e d/\lI b z a
 |_,_=>False
structure re(α:Type) where
 a8:α->m M
 b6:m M->Option (α×m Prop×m M)
 ok:∀{ah x r ba},b6 ah=h (x,r,ba)->U r->∀{bB:Mem} {z:m X},lI bB z ah->∃v1 v2,z=v1++v2/\lI bB v1 (a8 x)/\lI bB v2 ba
def lI.app{bB}:∀{f g:m X}{a b:m M},lI bB f a->lI bB g b->lI bB (f++g) (a++b)
 |[],_,[],_,_,d=>d
 |_::_,_,_::_,_,e,i=>⟨e.1,e.2.app i⟩
 |[],_,_::_,_,d,_=>d.elim
 |_::_,_,[],_,d,_=>d.elim
def lI.Q{t}{e}(d:lI bB z (t::e)):∃a b,z=a::b/\Rd bB a t/\lI bB b e:=by
 cases z with
 |nil=>exact d.elim
 |cons a z=>exact⟨a,z,rfl,d⟩
def vm(e:c5 α):re (m α):=⟨λp=>[.B v e.bj (c p) (e.fn p)],λf=>match f with
 |t::q=>match jA e.bj (.n (.Q (.c t)))with|some (o,d)=>h (e.ad o d,[e.bN o d],q)|none=>n
 |_=>n,λ{f x y q} g i r z j=>by
 split at g
 .split at g
  .rename_i o d he;cases g;obtain⟨aa,s,rfl,u,w⟩:=j.Q;exact⟨[aa],s,a,⟨e.cu (k:=[]) (b:=⟨[],r,default,λ_=>True⟩) (aa:=aa) he i u,B⟩,w⟩
  cases g
 .cases g⟩
def yr{k:Type}(R:re α)(e:re k):re (α×k):=⟨λp=>R.a8 p.1++e.a8 p.2,λb=>match R.b6 b with
 |some (j,m,o)=>match e.b6 o with|some (q,y,A)=>h ((j,q),gQ m y,A)|none=>n
 |none=>n,λ{b j m o} d a B z f=>by
 split at d
 .rename_i u;split at d
  .rename_i C;cases d;rw[U.Y]at a;obtain⟨g,D,rfl,t,s⟩:=R.ok u a.1 f;obtain⟨w,i,rfl,x,r⟩:=e.ok C a.2 s;exact⟨g++w,i,(k_ _ _ _).symm,t.app x,r⟩
  cases d
 .cases d⟩
def zV:m R->Option (m M)
 |[]=>h []
 |.c d::b=>match zV b with|some a=>h (d::a)|none=>n
 |_=>n
def Ej:m M->m R
 |[]=>[]
 |b::a=>.c b::Ej a
def NI{k}{b}:∀{e:m R}{f:m M}{z:m X},zV e=h f->bN k b z e->lI b.D z f
 |[],f,z,a,d=>by cases a;cases z with|nil=>trivial|cons=>exact d.elim
 |.c o::g,f,z,a,d=>by
  simp only[zV]at a;split at a
  .rename_i i;cases a;cases z with
   |nil=>exact d.elim
   |cons j z=>exact⟨d.1,NI i d.2⟩
  cases a
 |.ptr ..::_,_,_,a,_=>by cases a
 |.x ..::_,_,_,a,_=>by cases a
 |.aY ..::_,_,_,a,_=>by cases a
 |.O ..::_,_,_,a,_=>by cases a
 |.any::_,_,_,a,_=>by cases a
def Mi{k}{b}:∀{d:m M}{z:m X},lI b.D z d->bN k b z (Ej d)
 |[],[],_=>trivial
 |_::_,_::_,a=>⟨a.1,Mi a.2⟩
 |[],_::_,a=>a.elim
 |_::_,[],a=>a.elim
def AL(d:re α):jh α:=⟨λb=>.n (.agg (Ej (d.a8 b))),λj=>match j with
 |.n (.agg i)=>match zV i with
  |some e=>match d.b6 e with|some (b,k,[])=>h (b,k)|_=>n
  |none=>n
 |_=>n,λ{j b k} a f t u w s=>by
 split at a
 .split at a
  .rename_i C;split at a
   .rename_i p;cases a;obtain⟨z,rfl,r⟩:=s;obtain⟨g,q,rfl,o,m⟩:=d.ok p f (NI C r);cases q with
    |nil=>exact⟨g,by simp,Mi o⟩
    |cons=>exact m.elim
   cases a
  cases a
 .cases a⟩
namespace R1
section
variable {q:af T}
def Wo(f):Y q 25 [Q f] [] (bg (cm f)) []:=by
 refine Y.ab func25 rfl λd=>?_;by_cases b:1<=f
 .by_cases i:f<=99
  .refine a3 [4,7] a bw (g.ao a ?_);simp[cm,b,i]
  refine a3 [4,-7] a bw (g.ao a ?_);simp[cm,b,i]
 refine a3 [-4] a bM (g.ao a ?_);simp[cm,b]
def qU:bK q 25 (di c7 (λa=>bg (cm a)) λ_=>[]):=.a9 λa _=>Wo a
def aaa{b}(a:e<c b):d6 (b.take (e+1))=(d6 (b.take e)&&jx (b.getD e 0)):=by unfold d6;grind[List.take_add_one]
def Dx{i}:jx i=l↔97<=(i.toNat:Int)/\(i.toNat:Int)<=122:=by simp[jx];omega
def KQ{b}(f:e<c b)(d:jx (b.getD e 0)=v):d6 b=v:=by
 cases a:d6 b with
 |false=>rfl
 |true=>
  have:=aW.1 a (b.getD e 0) N;grind
def WJ(b):Y q 138 [b2 b] [] (bg (d6 b)) []:=by
 refine Y.ab func138 rfl λo=>?_;have r:=o.T 0 a;refine aQ a B (g.ej (λd=>d<=c b/\d6 (b.take d)=l) (λd:Nat=>[(0,b2 b),(5,Q (c b)),(6,Q d)]) (λ_=>[]) (λd=>c b-d) 0 a D ⟨by omega,by simp[d6]⟩ a ?_);rintro d ⟨p,k⟩;by_cases e:d<c b
 .by_cases i:dr b d<97
  .refine a3 [7,12] a ?_ (g.bR (bW.zero a ?_))
   .simp[-aj,e,kn,i]
   have:jx (b.getD d 0)=v:=by
    cases j:jx (b.getD d 0)with
    |false=>rfl
    |true=>have:=Dx.1 j;unfold dr at i;omega
   simp[KQ e this]
  by_cases f:dr b d<=122
  .refine a3 [7,-12,-17] a ?_ (g.again (d+1) a ?_ ?_ ?_ a)
   .simp[-aj,e,kn,i,f,a7];grind
   .simp
   .refine⟨by omega,?_⟩;rw[aaa e,k,fV];exact Dx.2 (by unfold dr at i f;omega)
   omega
  refine a3 [7,-12,17] a ?_ (g.bR (bW.zero a ?_))
  .simp[-aj,e,kn,i];grind
  have:jx (b.getD d 0)=v:=by
   cases j:jx (b.getD d 0)with
   |false=>rfl
   |true=>have:=Dx.1 j;unfold dr at f;omega
  simp[KQ e this]
 have m:d=c b:=w;subst m;refine a3 [-7] a D (g.bs a a ?_);refine aQ a B (g.ao a ?_);simp_all
def adF:bK q 138 (di eG (λb=>bg (d6 b)) λ_=>[]):=.a9 λa _=>WJ a
abbrev aeh:m (Nat×bH):=[(25,di c7 (λa=>bg (cm a)) λ_=>[]),(138,di eG (λb=>bg (d6 b)) λ_=>[])]
def B9:a_ q aeh:=.cons qU (.cons adF .nil)
def XJ(b):Y q 300 [b2 b] [] (bg (cD b)) []:=by
 refine Y.ab func300 rfl λe=>?_;by_cases d:1<=c b
 .by_cases i:c b<=8
  .refine a8 B9 [5,9,11] a bM (g.ao a ?_);simp[cD,d,i]
  refine a8 B9 [5,-9,-11] a bM (g.ao a ?_);simp[cD,d,i]
 refine a8 B9 [-5,-11] a bM (g.ao a ?_);simp[cD,d]
def t300:bK q 300 (di eG (λb=>bg (cD b)) λ_=>[]):=.a9 λa _=>XJ a
def UP(d:Nat)(i:d<=4000000):Y q 302 [Q d] [] (Q (fh d)) []:=by
 refine Y.ab func302 rfl λk=>?_;by_cases f:d<1
 .refine a3 [5,9] a bM (g.ao a ?_);simp[fh,f]
 by_cases e:8<d
 .refine a3 [-5,8] a bM (g.ao a ?_);simp[fh,e]
 refine a3 [-5,-8] a bM ?_;have m:fh d=2∨fh d=4∨fh d=8:=Gb;refine g.ej (λb:Nat=>(b=2∨b=4∨b=8)/\b<=fh d) (λb:Nat=>[(0,Q d),(3,Q b)]) (λ_=>[]) (λb=>8-b) 2 a D ⟨by simp,by omega⟩ a ?_;rintro b ⟨j,x⟩;by_cases i:b<d
 .exact a3 [12] a lO (g.again (2*b) a bM OF w a)
 refine a3 [-12] a bM (g.bs a a ?_);refine aQ a B (g.ao a ?_);have:b=fh d:=OF;simp[this]
theorem acX(b)(i):fu (b++[i])=if i=46 then fu b else b++[i]:=by unfold fu;grind[List.dropWhile_cons]
def M5{b}(a:j<c b):fu (b.take (j+1))=if b.getD j 0=46 then fu (b.take j)else b.take (j+1):=by grind[List.take_add_one,acX]
theorem YH(b):Y q 312 [b2 b,ve 46] [] (b2 (fu b)) []:=by
 refine Y.ab func312 rfl λf=>?_;have o:=f.T 0 a;refine aQ a B (g.ej (λj=>j<=c b/\fu (b.take j)=fu b) (λj:Nat=>[(0,b2 (b.take j)),(1,ve 46)]) (λ_=>[]) (λj=>j) (c b) a D ⟨by omega,by simp⟩ a ?_);rintro j ⟨p,d⟩;cases j with
 |zero=>
  refine a3 [-7,-16] a D (g.bs a a ?_);refine aQ a B (g.ao a ?_);have:fu b=[]:=by rw[<-d];rfl
  simp[this]
 |succ j=>
  have O:c (b.take (j+1))=j+1:=N;have C:dr (b.take (j+1)) j=dr b j:=by simp[dr,aj,iA]
  have k:=M5 (b:=b) (j:=j) w;have i:((j:Int)+1-1).toNat=j:=w;by_cases e:b.getD j 0=46
  .refine a3 [7,15,16] a ?_ (g.again j a ?_ ?_ ?_ a)
   .have t:dr b j=46:=by unfold dr;exact bE
    exact RA
   .simp;show(b.take (j+1)).take _=_;grind
   .grind
   simp
  refine a3 [7,-15,-16] a ?_ (g.bs a a ?_)
  .have t:dr b j≠46:=by unfold dr;intro m;exact e (uH.1 N)
   exact RA
  refine aQ a B (g.ao a ?_);rw[k,bj e]at d;simp[d]
def Ha:bH:=λargs a=>match args,a with
 |[.n (.Q (.c (.T b))),.n (.Q (.c (.int .u8 46)))],[]=>h (b2 (fu b),[],[])
 |_,_=>n
def t312:bK q 312 Ha:=by intro args f b d a e _;unfold Ha at e;grind[YH]
theorem YG(b):Y q 304 [b2 b,b2 [46]] [] (b2 (fu b)) []:=by
 refine Y.ab func304 rfl λf=>?_;by_cases d:b=[]
 .subst d;refine a8 (a_.cons t312 .nil) [8,12] a D (g.ao a ?_);exact bE
 refine a8 (a_.cons t312 .nil) [-8,-11,-12,16,20,21] a ?_ (g.ao a);cases b with
 |nil=>grind
 |cons e i=>simp;decide
def BA:bH:=λargs a=>match args,a with
 |[.n (.Q (.c (.T b))),.n (.Q (.c (.T [46])))],[]=>h (b2 (fu b),[],[])
 |_,_=>n
def adb:bK q 304 BA:=by intro args f b d a e _;unfold BA at e;grind[YG]
def H7{a:bD}(b:e<c a):gm (a.take (e+1))=27*gm (a.take e)+(dr a e-97) % 256+1:=by unfold gm;rw[sL,bJ b];simp only[uK,Option.toList_some,hS,List.foldl_nil,dr,aj,bJ b,h9]
def xU{a:bD}(d:cD a=l)(k:e<=c a):0<=gm (a.take e)/\gm (a.take e)<282429536481:=by simp[cD,cp,bz]at d;obtain⟨i,b⟩:=Cb (a.take e) 0 1 0 (λg f=>qE d.2 g (gN f)) w w w;have:=LZ (j:=c (a.take e)) N;rw[Int.one_mul]at b;exact⟨i,Int.lt_of_lt_of_le b this⟩
def Db{a:bD}(b:e<c a):a.getD e 0∈a:=N
abbrev aei:m (Nat×bH):=[(25,di c7 (λa=>bg (cm a)) λ_=>[]),(300,di eG (λb=>bg (cD b)) λ_=>[])]
def iF:a_ q aei:=.cons qU (.cons t300 .nil)
abbrev Cq(a:Int):y:=.S [.Q (.c (.int .i64 a)),.Q (.c .bD)]
def Xf(d:Int)(b:bD)(m:cm d=l)(f:cD b=l):Y q 295 [Q d,b2 b] [] (Cq (d8 d b)) []:=by
 refine Y.ab func295 rfl λz=>?_;have j:=f;simp[cD,cp,bz]at j;have r:=m;simp[cm,cp,bz]at r;refine a8 iF [-8,-13] a ds (g.ej (λe=>e<=c b) (λe:Nat=>[(0,Q d),(1,b2 b),(6,Q (gm (b.take e))),(19,Q (c b)),(20,Q e)]) (λ_=>[]) (λe=>c b-e) 0 a (by simp[gm]) w a ?_);intro e k;by_cases i:e<c b
 .have p:=xU f k;have A:=xU f (e:=e+1) w;have o:=H7 i;refine a3 [21] a ?_ (g.again (e+1) a ?_ ?_ ?_ a)
  .simp only[U,kn,a7];simp[-aj,i,kn];have x:=qE j.2 (b.getD e 0) (Db i);have s:97<=dr b e/\dr b e<=122:=Fe;omega
  .have x:=qE j.2 (b.getD e 0) (Db i);have s:97<=dr b e/\dr b e<=122:=Fe;have C:(dr b e-97) % 256=dr b e-97:=Int.emod_eq_of_lt w w;exact bE
  .grind
  grind
 have o:e=c b:=w;subst o;have p:=xT f;refine a3 [-21] a D (g.bs a a ?_);refine aQ a ?_ (g.ao a ?_)
 .rw[c0];have u:0<=gm b*(2*d+1):=Int.mul_nonneg p.1 w;have t:gm b*(2*d+1)<=282429536481*199:=Int.mul_le_mul w w w w;generalize gm b*(2*d+1)=y at u t;exact wP
 rw[c0];refine U.Y.2 ⟨?_,U.Y.2 ⟨a,B⟩⟩;show(_:Int)=_;rw[Int.mul_comm 7919 d];rfl
def EO:bK q 295 (ej c7 eG (λa b=>Cq (d8 a b)) λa b=>[cm a=l,cD b=l]):=.bk λa b d=>Xf a b d.1 d.2
def DQ{p:ae}(j:r.op=.binOp op o p (.const .nilIface) ty){t:Bool}{s:Array (String×ak)}(x:P.underlying o=h (.interface s))(z:η p=ay .bD)(y:η (.const .nilIface)=ay .bD)(q:ih op l=h t):a2 P r η k (ay (.bool t)) k:=by
 refine .aQ λe f C w=>?_;have d:=w p;have b:=w (.const .nilIface);rw[z]at d;rw[y]at b;replace d:=b8 d;replace b:=b8 b;generalize g:f p=A at d;generalize i:f (.const .nilIface)=B at b;cases d;cases b;have m:(Op.equal o .nilIface .nilIface).run P e.a=.ok l e.a:=by show(aL (9999+1) o _ _).run P e.a=_;unfold aL;simp[underlying,x]
 have u:∀a,(Op.equal o .nilIface .nilIface).events P e.a a=a:=λa=>by show(aL (9999+1) o _ _).events P e.a a=a;unfold aL;simp[underlying,x]
 cases op<;>simp[ih,reduceCtorEq,e_]at q
 .subst q;exact⟨.bool l,by simp[ab,j,g,i,eqGuard,binOp,m],Rd.bool,by simp[ab,j,g,i,eqGuard,binOp,m,u]⟩
 subst q;exact⟨.bool v,by simp[ab,j,g,i,eqGuard,binOp,m],Rd.bool,by simp[ab,j,g,i,eqGuard,binOp,m,u]⟩
def Xd(b:Int)(d:bD)(e:Int)(f:cm b=l)(i:cD d=l):Y q 278 [Q b,b2 d,Q e] [] (bg (d8 b d==e)) []:=by refine Y.ab func278 rfl λj=>?_;refine a8 (a_.cons EO .nil) [17] a ds ?_;refine g.aK (DQ a underlying191 a a a) a a ?_;refine a8 (a_.cons EO .nil) [17] a oT (g.ao a ?_);simp
def ac':bK q 278 (jS c7 eG c7 (λa b d=>bg (d8 a b==d)) λa b _=>[cm a=l,cD b=l]):=.cM λa b d e=>Xd a b d e.1 e.2
abbrev my(a:Int):y:=ay (.int .u64 a)
def _root_.Go.AM.b1.fy{r:af P}{aM}{J s}(C:b1 r F s aM I k):b1 r F (.cond (.const (.bool v)) J s) aM I k:=by intro K u A d w D i t m j;refine .ctl d a (λ_=>zx (o:=v) a) λy b=>?_;exact C y u (A.rely b d) (d.rely b) w D i t m λz e f p g E x B q=>j z e f p g E x B (b.aT.trans q)
def _root_.Go.AM.g.fy{P:aD}{a:af P}{F}{be}{av}{I}{k}{e b}(d:g a F be (.code b::av) .normal I k):g a F be (.code (.cond (.const (.bool v)) e b)::av) .normal I k:=b1.fy d
def KB{j m:ae}{f d}{p i}(t)(u:r.op=.binOp op o j m ty)(B:η j=ay (.int f p))(A:η m=ay (.int d i))(y:a7 f t)(q:∀g,(binOp op o (.int f p) (.int d i)).run P g=.ok (.int f t) g)(z:∀g,(binOp op o (.int f p) (.int d i)).events P g #[]=#[]):
  a2 P r η k (ay (.int f t)) k:=by refine .aQ λE e F x=>?_;have b:=x j;have a:=x m;rw[B]at b;rw[A]at a;replace b:=b8 b;replace a:=b8 a;generalize s:e j=C at b;generalize w:e m=D at a;cases b;cases a;exact⟨.int f t,by simp only[ab,u,cL,s,w,qo,c',q,d_],.int y,by simp[ab,u,s,w,qo,yj,q,z]⟩
def W':Y q 318 [my 1,my 2] [] (.S [.Q (.c (.int .u64 0)),.Q (.c (.int .u64 2))]) []:=RT
def Xa:Y q 318 [my 1,my 3] [] (.S [.Q (.c (.int .u64 0)),.Q (.c (.int .u64 3))]) []:=RT
def Hb:bH:=λargs b=>match args,b with
 |[.n (.Q (.c (.int .u64 1))),.n (.Q (.c (.int .u64 a)))],[]=>h (.S [.Q (.c (.int .u64 0)),.Q (.c (.int .u64 a))],[],[a=2∨a=3])
 |_,_=>n
def Na:bK q 318 Hb:=by
 intro args g e f d a b;unfold Hb at a;split at a
 .cases a;rcases b with rfl|rfl
  .exact W'
  exact Xa
 grind
def W_(b:Int)(d:b=2∨b=3):Y q 310 [my 1,my b] [] (.S [.Q (.c (.int .u64 0)),.Q (.c (.int .u64 b))]) []:=by refine Y.ab func310 rfl λe=>?_;refine b9 (a_.cons Na .nil) a B ?_;refine g.fy ?_;refine b9 (a_.cons Na .nil) a ?_ (g.ao a);exact bw
def BB:bH:=λargs b=>match args,b with
 |[.n (.Q (.c (.int .u64 1))),.n (.Q (.c (.int .u64 a)))],[]=>h (.S [.Q (.c (.int .u64 0)),.Q (.c (.int .u64 a))],[],[a=2∨a=3])
 |_,_=>n
def adc:bK q 310 BB:=by
 intro args g e f d a b;unfold BB at a;split at a
 .cases a;exact W_ _ b
 grind
abbrev lN:bH:=di eG (λa=>b2 (fN a)) λ_=>[]
abbrev i1(a:Option bD):y:=.S [.Q (.c (.T (a.getD []))),.Q (.c (.bool a.isSome))]
def Xy(f:bK q 270 lN)(i):Y q 277 [b2 i] [] (i1 (hM i)) []:=by
 refine Y.ab func277 rfl λk=>?_;have d:a_ q [(304,BA),(300,di eG (λj=>bg (cD j)) λ_=>[]),(270,lN)]:=.cons adb (.cons t300 (.cons f .nil));by_cases b:cD (fu i)=l
 .by_cases e:fN (fu i)=i
  .refine a8 d [-10,-15] a ds (g.ao a ?_);simp[hM,b,e]
  refine a8 d [-10,15] a ds (g.ao a ?_);simp[hM,b,e]
 refine a8 d [10,15] a ?_ (g.ao a ?_)
 .simp[b]
 simp[hM,b]
def adW(b:bK q 270 lN):bK q 277 (di eG (λa=>i1 (hM a)) λ_=>[]):=.a9 λa _=>Xy b a
def LD{i a}(b:hM i=h a):cD a=l:=by unfold hM at b;grind
abbrev Cp(a:cY):y:=sy.a8 a
def UL(m:bK q 270 lN)(e)(f)(b:cm f=l):Y q 234 [Cp e,Q f] [] (i1 (iW f e)) []:=by
 refine Y.ab func234 rfl λr=>?_;have i:a_ q [(277,di eG (λk=>i1 (hM k)) λ_=>[]),(278,jS c7 eG c7 (λf d o=>bg (d8 f d==o)) λf d _=>[cm f=l,cD d=l])]:=.cons (adW m) (.cons ac' .nil);cases x:hM e.2 with
 |none=>
  refine a8 i [16,23] a nU (g.ao a ?_);simp[iW,x]
 |some d=>
  have p:=LD x;by_cases j:d8 f d=e.1
  .refine a8 i [-16,-23] a ds (g.ao a ?_);simp[iW,x,j,b]
  refine a8 i [-16,23] a ds (g.ao a ?_);simp[iW,x,j,b]
def Nc(d:bK q 270 lN):bK q 234 (ej sy c7 (λb a=>i1 (iW a b)) λ_ a=>[cm a=l]):=.bk λb a e=>UL d b a e
def Wd(b)(j):Y q 233 [Cp b,ay (.R [.int .i64 j])] [] (bg (b.1==j)) []:=by refine Y.ab func233 rfl λd=>?_;exact aQ a B (g.ao a)
def Bx:bH:=λargs d=>match args,d with
 |[.n (.agg [.c (.int .i64 b),.c (.T a)]),.n (.Q (.c (.R [.int .i64 e])))],[]=>h (bg (b==e),[],[a=a])
 |_,_=>n
def ac9:bK q 233 Bx:=by
 intro args k d e b a g;unfold Bx at a;split at a
 .rename_i i f j;cases a;exact Wd (i,f) j
 grind
abbrev Iw(a:Int):y:=ay (.fn (.func 233) [] [.R [.int .i64 a]])
def pm(b:m cY)(d:Int):Int:=match b.findIdx? (λe=>e.1==d)with|some a=>a|none=>-1
def ZD{o}{j}(a:e<c o)(i:(o.getD e (0,[])).1=j)(f:∀b,b<e->(o.getD b (0,[])).1≠j):pm o j=e:=by
 have:o.findIdx? (λd=>d.1==j)=h e:=by rw[uO];refine⟨a,N,λb g=>?_⟩;grind
 rw[pm,this]
def ZF{o}{j}(d:∀a,a<c o->(o.getD a (0,[])).1≠j):pm o j=-1:=by have:o.findIdx? (λb=>b.1==j)=n:=ug;rw[pm,this]
def VV(o)(j):Y q 232 [bI.B o,Iw j] [] (Q (pm o j)) []:=by
 refine Y.ab func232 rfl λi=>?_;have p:=i.B 0 a;have d:a_ q [(233,Bx)]:=.cons ac9 .nil;refine b9 d a B (g.b7 (λb=>b<=c o/\∀e,e<b->(o.getD e (0,[])).1≠j) (λb:Nat=>[(0,bI.B o),(1,Iw j),(7,Q (c o)),(8,Q b)]) (λ_=>[]) (λb=>c o-b) 0 a D a B ⟨by omega,by omega⟩ ?_);rintro b ⟨m,f⟩;by_cases k:b<c o
 .by_cases t:(o.getD b (0,[])).1=j
  .refine a8 d [9,16] a ?_ (g.bR (bW.zero a ?_))
   .simp only[U,cR];grind
   simp[ZD k t f]
  refine a8 d [9,-16] a ?_ (g.b4 (b+1) a ?_ a B ?_ ?_)
  .simp only[U,cR];exact⟨by exact bE,B,eN.2 t,by omega,by omega,fA w⟩
  .simp
  .grind
  omega
 refine a8 d [-9] a bM (g.bs a a ?_);refine b9 d a B (g.ao a ?_);simp[ZF (λe r=>f e w)]
def Bw:bH:=λargs d=>match args,d with
 |[e,.n (.Q (.c (.fn (.func 233) [] [.R [.int .i64 f]])))],[]=>match jA 2 e with
  |none=>n
  |some (b,a)=>h (Q (pm (bI.ad b a) f),[],[bI.bN b a])
 |_,_=>n
def ac8:bK q 232 Bw:=by
 intro args m g i f a d;unfold Bw at a;split at a
 .rename_i o j;split at a
  .cases a
  rename_i p k b;cases a;exact(VV _ j).args (λ_ z=>b5.imp (λ_=>bI.cu b d) (b5.imp (λ_ e=>e) (λ_ e=>e)) z)
 grind
def ZE(o)(j):(pm o j=-1/\o.find? (λb=>b.1==j)=n)∨∃a:Nat,a<c o/\pm o j=a/\o.find? (λb=>b.1==j)=h (o.getD a (0,[])):=by unfold pm;grind[List.findIdx?_eq_some_iff_getElem,List.find?_eq_some_iff_getElem]
def Xs(k:bK q 270 lN)(f)(b)(j)(o:cm f=l):Y q 168 [Q f,fM b,Q j] [] (i1 (fX f b j)) []:=by
 refine Y.ab func168 rfl λs=>?_;have d:a_ q [(232,Bw),(234,ej sy c7 (λp f=>i1 (iW f p)) λ_ f=>[cm f=l])]:=.cons ac8 (.cons (Nc k) .nil);have t:bI.ad (c b.2) (bI.fn b.2)=b.2:=bI.l _;refine gH [] 7 a B (g.freeze 5 1 a a a ?_);rcases ZE b.2 j with⟨m,i⟩|⟨e,bp,m,i⟩
 .refine a8 d [14] a bE (g.ao a ?_);simp[fX,i]
 refine a8 d [-14] a bE (g.ao a ?_);have r:fX f b j=iW f (b.2.getD e (0,[])):=by simp only[fX,i]
 simp_all
def ad2(e:bK q 270 lN):bK q 168 (jS c7 (jI bI) c7 (λa d b=>i1 (fX a d b)) λa _ _=>[cm a=l]):=.cM λa d b f=>Xs e a d b f
def yQ:∀b(a:UInt8),Lib.indexByte b a<c b∨Lib.indexByte b a=-1
 |[],a=>.inr (by rw[Lib.indexByte.eq_def])
 |e::b,a=>by have d:=yQ b a;grind[Lib.indexByte.eq_def]
set_option maxRecDepth 20000 in
theorem V7(b)(t):Y q 289 [b2 b,ve t.toNat] [] (Q (Lib.indexByte b t)) []:=by
 refine Y.ab func289 rfl λM=>?_;have ae:=M.T 0 a;refine aQ a B (g.Q (E:=Q (Lib.indexByte b t)) (ar:=[]) ?_ a ?_)
 .refine aY.a3 (λ_ _ _ _=>jf oT) ?_;refine a2.dr λe d W f=>?_;have p:=b8 (f (.tmp 5));have o:=b8 (f (.tmp 6));generalize m:d (.tmp 5)=N at p;generalize i:d (.tmp 6)=O at o;cases p with
  |T x J=>
  cases o with
  |int K=>
  have k:d (.func 307)=.func (.func 307) #[] #[]:=by
   have:=b8 (f (.func 307));generalize d (.func 307)=Z at this;cases this with
   |fn D w R r z C s u d1 d2=>
    grind
  have y:(callFunc 307 #[.string ‹ByteArray›,.int .u8 t.toNat]).run T e.a=.ok (.value (.int .i64 (Lib.indexByte b t))) e.a:=by rw[run_callFunc_extern func307 bG bG bG (e:=Extern.BytealgIndexByte.indexByte) bG,Lib.run_indexByteString];simp_all
  have I:dA T (Extern.BytealgIndexByte.indexByte #[.string ‹ByteArray›,.int .u8 t.toNat]):=by
   refine dA.bind (A:=Extern.Bytes.bytesOf (.string ‹ByteArray›)) (λ_ _=>rfl) λr=>dA.bind (A:=Extern.Bytes.asByte (.int .u8 t.toNat)) (λ_ _=>?_) λS=>?_
   .simp[Extern.Bytes.asByte]
   .skip
    split<;>exact .pure
  have F:=IW func307 bG bG bG (ap:=Extern.BytealgIndexByte.indexByte) bG _ I e.a #[];refine⟨.int .i64 (Lib.indexByte b t),?_,Rd.int ?_,?_⟩
  rotate_left 2
  .intro V j;simp[ab,resolve,Deferred.ofValue,invoke,m,i,k,F]at j;subst j;exact .inr ⟨_,a⟩
  .simp[ab,resolve,Deferred.ofValue,invoke,m,i,k,y]
  have aa:=Lib.indexByte_ge b t;have X:=yQ b t;exact cV
 exact sl
def Wf(b:Int)(e:M)(d:Int):Y q 34 [.n (.agg [.c (.int .i64 b),.c e]),ay (.R [.int .i64 d])] [] (bg (b==d)) []:=by refine Y.ab func34 rfl λf=>?_;exact aQ a B (g.ao a)
def BD:bH:=λargs b=>match args,b with
 |[.n (.agg [.c (.int .i64 a),.c e]),.n (.Q (.c (.R [.int .i64 d])))],[]=>h (bg (a==d),[],[])
 |_,_=>n
def t34:bK q 34 BD:=by
 intro args g d e b a f;unfold BD at a;split at a
 .cases a;exact Wf _ _ _
 cases a
abbrev Ix(a:Int):y:=ay (.fn (.func 34) [] [.R [.int .i64 a]])
def ov(b:m dF)(d:Int):Int:=match b.findIdx? (λe=>e.1==d)with|some a=>a|none=>-1
def ZG{a:m dF}{d:Int}(f:e<c a)(o:(a.getD e (0,[])).1=d)(g:∀b,b<e->(a.getD b (0,[])).1≠d):ov a d=e:=by
 have:a.findIdx? (λk=>k.1==d)=h e:=by rw[uO];refine⟨f,ds,λb j=>?_⟩;have i:b<c a:=w;simpa[aj,bJ i]using g b j
 rw[ov,this]
def ZI{a:m dF}{d:Int}(g:∀b,b<c a->(a.getD b (0,[])).1≠d):ov a d=-1:=by
 have:a.findIdx? (λe=>e.1==d)=n:=by rw[AT];intro e f;obtain⟨b,i,rfl⟩:=hd f;simp_all
 rw[ov,this]
def V1(d:m dF)(i:Int):Y q 33 [bd.B d,Ix i] [] (Q (ov d i)) []:=by
 refine Y.ab func33 rfl λp=>?_;have t:=p.B 0 a;have e:a_ q [(34,BD)]:=.cons t34 .nil;refine b9 e a B (g.b7 (λb=>b<=c d/\∀f,f<b->(d.getD f (0,[])).1≠i) (λb:Nat=>[(0,bd.B d),(1,Ix i),(7,Q (c d)),(8,Q b)]) (λ_=>[]) (λb=>c d-b) 0 a D a B ⟨by omega,by omega⟩ ?_);rintro b ⟨s,k⟩;by_cases r:b<c d
 .by_cases o:(d.getD b (0,[])).1=i
  .refine a8 e [9,16] a bE (g.bR (bW.zero a ?_));simp[ZG r o k]
  refine a8 e [9,-16] a ?_ (g.b4 (b+1) a ?_ a B ?_ ?_)
  .simp only[U,cR];exact⟨by exact bE,eN.2 o,by omega,by omega,fA w⟩
  .simp
  .refine⟨by omega,λf j=>?_⟩;rcases w9.1 j with j|rfl
   .simp_all
   omega
  omega
 refine a8 e [-9] a bM (g.bs a a ?_);refine b9 e a B (g.ao a ?_);simp[ZI (λf j=>k f w)]
def BC:bH:=λargs d=>match args,d with
 |[e,.n (.Q (.c (.fn (.func 34) [] [.R [.int .i64 f]])))],[]=>match jA 2 e with
  |none=>n
  |some (b,a)=>h (Q (ov (bd.ad b a) f),[],[bd.bN b a])
 |_,_=>n
def t33:bK q 33 BC:=by
 intro args m g i f a d;unfold BC at a;split at a
 .rename_i o j;split at a
  .cases a
  rename_i p k b;cases a;exact(V1 _ j).args (λ_ z=>b5.imp (λ_=>bd.cu b d) (b5.imp (λ_ e=>e) (λ_ e=>e)) z)
 cases a
def ZH(b:m dF)(g:Int):(ov b g=-1/\b.find? (λe=>e.1==g)=n)∨∃d:Nat,d<c b/\ov b g=d/\b.find? (λe=>e.1==g)=h (b.getD d (0,[])):=by
 unfold ov;cases i:b.findIdx? (λe=>e.1==g)with
 |none=>
  refine .inl ⟨a,?_⟩;rw[AT]at i;exact sB.2 λe p=>by exact bE
 |some d=>
  rw[uO]at i;obtain⟨f,j,o⟩:=i;refine .inr ⟨d,f,a,?_⟩;rw[SD];refine⟨ds,d,f,ds,λq k=>?_⟩;simp_all
def qh(a:Nat->Int):Nat->m M:=λb=>[.int .u8 (a b)]
def Bytes(a:Nat->Int):Prop:=∀b,0<=a b/\a b<=255
abbrev e6(d:Nat)(a:Nat->Int)(b:Int):aq:=.cells 90 [.c (.B v 1 d (qh a)),.c (.int .i64 b)]
def bl.cb{e}{fn}{args}{a:ι->m aq}(p:Tryz.prog.funcs[e]?=h fn)(o:(fn.name== "runtime.NumGoroutine")=v)(d:fn.body=h t)(j:ax args.length fn.ntmps=l)(u:kG args k->g q fn.ntmps (λr i b=>∃f,bW fn k.length (res f) (a f) r i b) [.code t] .normal (h_ 0 args) k):bl q e args k res a:=
 bl.e7 p o d j λs=>b1.bw (g.aO (u s))
def g.bu{fn}{d}{a:ι->m aq}(e)(j:g q F (bW fn d (res e) (a e)) av .normal I k):g q F (λi I b=>∃f,bW fn d (res f) (a f) i I b) av .normal I k:=
 g.bV (λ_ _ _ o=>⟨e,o⟩) j
def qN(b:Nat)(d:Nat->Int)(a:Nat)(e:Int):Int:=
 if b=0 then 0 else if a<b then d a % e else
  ((d ((a:Int) % b).toNat*131+d (((a:Int)*7+3) % b).toNat*1117+a*29+(a:Int) / b*53).toNat ^^^ ((d ((a:Int) % b).toNat*131+d (((a:Int)*7+3) % b).toNat*1117+a*29+(a:Int) / b*53) / 64).toNat:Nat) % e
set_option maxRecDepth 20000 in
def Ju(A)(d:Nat->Int)(o:Bytes d)(b:Nat)(j)(s:b<=4000000)(B:A<=1048576)(M:1<=j/\j<=4000000):
  Y q 17 [aH 0 0,Q j] [e6 A d b] (Q (qN A d b j)) [e6 A d (b+1)]:=by
 refine Y.ab func17 rfl λx=>?_;have i:∀e,e<c ([e6 A d b]:m aq)->([0]:m Nat)[e]?=h e:=λe D=>by grind
 by_cases k:A=0
 .subst k;refine a3 [-17,24] a cV (g.aI [0] a ?_ i);exact cV
 have f:((b:Int)+1-1)=b:=w;have z:((b:Int)+1-1).toNat=b:=w;have y:=o b;by_cases F:(b:Int)<A
 .refine a3 [-17,-24,36] a ?_ (g.aI [0] a ?_ i)
  .simp only[U,f,cR,bz,dq,eN,a7];omega
  have:b<A:=w;simp[qN,k,this]
 refine bR [-17,-24,-36] a ?_ (g.aI [0] a ?_ i)
 .simp only[U,f,dq,eN,a7];have r:(0:Int)<A:=w;have C:=sG (b:Int) (by omega:(A:Int)≠0);have E:=sC (b:Int) r;have u:=sG ((b:Int)*7+3) (by omega:(A:Int)≠0);have I:=sC ((b:Int)*7+3) r;have w1:0<=(b:Int) / A:=Int.ediv_nonneg w w;have w2:(b:Int) / A<=b:=Int.ediv_le_self _ w;generalize(b:Int) % A=t at *;generalize((b:Int)*7+3) % A=aa at *;generalize(b:Int) / A=p at *;have J:=o t.toNat;have K:=o aa.toNat;grind
 have:¬b<A:=w;simp[qN,k,this,f]
def LL(A)(a:Nat->Int)(f)(j)(b:1<=j):0<=qN A a f j/\qN A a f j<j:=by
 unfold qN;split
 .omega
 split
 .exact⟨sG _ w,sC _ w⟩
 exact⟨sG _ w,sC _ w⟩
def gC(A)(a:Nat->Int)(s:Bytes a)(b:Nat)(j)(i:b<=4000000)(r:A<=1048576)(m:1<=j/\j<=4000000):
  bl (ι:={d:Int // 0<=d/\d<j}) q 17 [aH 0 0,Q j] [e6 A a b] (λd=>Q d.1) (λ_=>[e6 A a (b+1)]):=by have o:=Ju (q:=q) A a s b j i r m;exact⟨o.1,λt z k g p e f=>o.2 t z k g p e (f ⟨_,LL A a b j m.1⟩)⟩
def kQ:∀a,a<1->([0]:m Nat)[a]?=h a:=λa b=>by grind
set_option maxRecDepth 20000 in
def CJ(A)(b:Nat->Int)(o:Bytes b)(e:Nat)(f:e<=4000000)(m:A<=1048576)(d)(t:1<=c d/\c d<=1000):
  bl (ι:={i:bD // i∈d}) q 70 [aH 0 0,bS.B d] [e6 A b e] (λi=>b2 i.1) (λ_=>[e6 A b (e+1)]):=by refine bl.cb func70 rfl rfl rfl λs=>?_;refine aQ a B (g.a1 (gC A b o e (c d) f m w) [0] a bk ?_);rintro⟨j,p,r⟩;refine aQ a bM ?_;have k:d.getD j.toNat bS.E∈d:=N;refine g.bu ⟨d.getD j.toNat bS.E,k⟩ (g.aI [0] a ?_ kQ);simp
def LH:m bD:=[[],[102],[97,47],[97,98],[97,47,98,47,99],[47,97]]
def LI:m bD:=[[97],[98],[99,47,97],[99,47,98],[100,47,97],[101],[97,47,98],[100]]
set_option maxRecDepth 20000 in
def Jt(A)(d:Nat->Int)(k:Bytes d)(f:Nat)(m:f<=100000)(j:A<=1048576):
  bl (ι:={b:bD // c b<=8}) q 68 [aH 0 0] [e6 A d f] (λb=>b2 b.1) (λ_=>[e6 A d (f+1+1)]):=by
 refine bl.cb func68 rfl rfl rfl λt=>?_;refine aQ a B (g.a1 (gC A d k f 40 w j w) [0] a bk ?_);rintro⟨o,p,r⟩;by_cases s:o=0
 .refine a3 [5] a ha ?_;have:=CJ (q:=q) A d k (f+1) w j LH ca;refine g.bI this [0] a a a a ?_ a a a bk a bk a ?_
  .refine⟨a,λe bp=>?_⟩;rcases e with _|_|_|_|_|_|e<;>first|rfl|omega
  rintro⟨b,i⟩;refine aQ a B (g.bu ⟨b,(by decide:∀b∈LH,c b<=8) b i⟩ (g.aI [0] a ?_ kQ));simp
 refine a3 [-5] a ha ?_;have:=CJ (q:=q) A d k (f+1) w j LI ca;refine g.bI this [0] a a a a QD a a a bk a bk a ?_;rintro⟨b,i⟩;refine aQ a B (g.bu ⟨b,(by decide:∀b∈LI,c b<=8) b i⟩ (g.aI [0] a ?_ kQ));simp
def NY:m bD:=[[97,98,99],[104,101,108,108,111],[119,111,114,108,100],[97,97,97,97],[107,101,101,112],[122,122],[98,97,99,107,117,112],[113]]
abbrev SA(b:Nat):={a:bD×Nat // c a.1<=100000/\b<=a.2/\a.2<=b+60}
def Jm(b)(j)(u:c b<=10)(A:0<=j/\j<=100):bl (ι:={o:bD // c o<=100000}) q 119 [b2 b,Q j] [] (λo=>b2 o.1) (λ_=>[]):=by
 refine bl.cb func119 rfl rfl rfl λx=>?_;refine aQ a B (g.b7 (λk:Nat×bD×bD=>k.1<=100/\c k.2.2+c k.2.1*k.1<=1010) (λk=>[(0,b2 k.2.1),(1,Q k.1),(5,b2 k.2.2)]) (λ_=>[]) (λk=>k.1) (j.toNat,b,[]) a bM a B ⟨by grind,?_⟩ ?_)
 .have:c b*j.toNat<=10*100:=Nat.mul_le_mul u w;grind
 rintro⟨d,f,i⟩ ⟨r,s⟩;simp only at r s;by_cases m:0<d
 .have e:c f<=c f*d:=uG _ m;have y:((d:Int) / 2)=((d / 2:Nat):Int):=w;by_cases z:d % 2=1
  .have p:c (f++f)*(d / 2)+c f=c f*d:=by have t:d=2*(d / 2)+1:=w;grind
   refine a3 [7,10] a bw (g.b4 (d / 2,f++f,i++f) a D a B N ?_);grind
  have p:c (f++f)*(d / 2)=c f*d:=by have t:d=2*(d / 2):=w;grind
  refine a3 [7,-10] a bw (g.b4 (d / 2,f++f,i) a D a B N ?_);grind
 obtain rfl:d=0:=w;refine a3 [-7] a D (g.bs a a ?_);exact aQ a B (g.bu ⟨i,by omega⟩ (g.ao a))
set_option maxRecDepth 20000 in
def Yz(A)(d:Nat->Int)(j:Bytes d)(f)(I:f<=100000)(k:A<=1048576):
  bl (ι:=SA f) q 69 [aH 0 0] [e6 A d f] (λu=>b2 u.1.1) (λu=>[e6 A d u.1.2]):=by
 refine bl.cb func69 rfl rfl rfl λR=>?_;refine aQ a B (g.a1 (gC A d j f 5 w k w) [0] a bk ?_);rintro⟨T,U,V⟩;refine aQ a B (g.aB 1 (λb:Nat×bD×Nat=>b.1<=4/\c b.2.1+6*b.1<=24/\f<=b.2.2/\b.2.2+b.1<=f+5) (λb=>[(0,aH 0 0),(4,Q b.1),(3,b2 b.2.1)]) (λb=>[e6 A d b.2.2]) (λb=>b.1) (T.toNat,[],f+1) a bM a D a ⟨by omega,by grind,by simp,by grind⟩ ?_);rintro⟨m,b,k1⟩ ⟨C,J,F,Y⟩;simp only at C J F Y;by_cases s:0<m
 .refine a3 [9] a ha ?_;have:=CJ (q:=q) A d j k1 w k NY ca;refine g.bI this [0] a a a a QD a a a bk a bk a ?_;rintro⟨i,r⟩;have ae:c i<=6:=(by decide:∀i∈NY,c i<=6) i r;refine aQ a j8 (g.aw (m-1,b++i,k1+1) a bM D N ?_);grind
 obtain rfl:m=0:=w;refine a3 [-9] a D (g.az ?_);refine aQ a B (g.a1 (gC A d j k1 4 w k w) [0] a bk ?_);rintro⟨S,aa,ab⟩;by_cases z:S=0
 .refine a3 [19] a (by simp[z]) (g.a1 (gC A d j (k1+1) 12 w k w) [0] a bk ?_);rintro⟨W,ce,w1⟩;refine aQ a B (g.aB 1 (λb:Nat×bD×Nat=>b.1<=11/\c b.2.1+b.1<=36/\f<=b.2.2/\b.2.2+b.1<=f+20) (λb=>[(0,aH 0 0),(5,Q b.1),(3,b2 b.2.1)]) (λb=>[e6 A d b.2.2]) (λb=>b.1) (W.toNat,b,k1+2) a bM a bM a ⟨by omega,by grind,by grind,by grind⟩ ?_);rintro⟨m,o,p⟩ ⟨y,O,H,M⟩;simp only at y O H M;by_cases s:0<m
  .refine a3 [23] a ha (g.a1 (gC A d j p 26 w k w) [0] a bk ?_);rintro⟨X,Z,L⟩;refine aQ a j8 (g.aw (m-1,o++[UInt8.ofNat (97+X).toNat],p+1) a bM D N ?_);grind
  obtain rfl:m=0:=w;refine a3 [-23] a D (g.az ?_);refine a3 [-36] a bM (g.a1 (gC A d j p 60 w k w) [0] a bk ?_);rintro⟨t,G,K⟩;by_cases E:t=0
  .refine a3 [41] a bw (g.bu ⟨(o++[65],p+1),by grind,by grind,by grind⟩ (g.aI [0] a ?_ kQ));simp
  by_cases x:t=1
  .refine a3 [-41,45] a nU (g.a1 (Jm [97,98,99,100,101] 9 ca ca) [] a bk ?_);rintro⟨i,r⟩;refine aQ a B (g.bu ⟨(i,p+1),r,by grind,by grind⟩ (g.aI [0] a ?_ kQ));simp
  refine a3 [-41,-45] a bw (g.bu ⟨(o,p+1),by grind,by grind,by grind⟩ (g.aI [0] a ?_ kQ));simp
 refine gH [-19] 2 a (by simp[z]) (a3 [-36] a bM (g.a1 (gC A d j (k1+1) 60 w k w) [0] a bk ?_));rintro⟨t,G,K⟩;by_cases E:t=0
 .refine a3 [41] a bw (g.bu ⟨(b++[65],(k1+1)+1),by grind,by grind,by grind⟩ (g.aI [0] a ?_ kQ));simp
 by_cases x:t=1
 .refine a3 [-41,45] a nU (g.a1 (Jm [97,98,99,100,101] 9 ca ca) [] a bk ?_);rintro⟨i,r⟩;refine aQ a B (g.bu ⟨(i,(k1+1)+1),r,by grind,by grind⟩ (g.aI [0] a ?_ kQ));simp
 refine a3 [-41,-45] a bw (g.bu ⟨(b,(k1+1)+1),by grind,by grind,by grind⟩ (g.aI [0] a ?_ kQ));simp
def Xp(A)(b:Nat->Int)(f:A<=1048576):bl (ι:={d:Nat // d<=1048576}) q 16 [ay (.B v 1 A (qh b))] [] (λ_=>aH 0 0) (λd=>[e6 d.1 b 0]):=by
 refine bl.cb func16 rfl rfl rfl λj=>?_;by_cases k:2000<A
 .refine a3 [5] a bM (g.bc [e6 2000 b 0] a ?_ (g.bu ⟨2000,by decide⟩ (g.aI [0] a ?_ (λi e=>by grind))))
  .simp[bs,fH,bV]
  simp
 exact a3 [-5] a bM (g.bu ⟨A,f⟩ (g.aI [0] a D (λi e=>by grind)))
def C3:∀a,a<1->([0]:m Nat)[a]?=h a:=ca
def ta:∀a,a<2->([0,1]:m Nat)[a]?=h a:=ca
def gE:m cY->m X
 |[]=>[]
 |a::b=>.int .i64 a.1::jr a.2::gE b
def gw(b:m cY):Prop:=∀a∈b,a7 .i64 a.1/\c a.2<=9223372036854775807
theorem yz:∀a:m cY,c (gE a)=c a*2
 |[]=>rfl
 |d::b=>by simp only[gE,fe,yz b];omega
def JZ:∀{d:m cY}{e:Nat},e<c d->(gE d)[e*2]?=h (.int .i64 (d.getD e (0,[])).1)/\(gE d)[e*2+1]?=h (jr (d.getD e (0,[])).2)
 |[],e,a=>absurd a (iU _)
 |f::b,0,_=>⟨rfl,rfl⟩
 |f::b,e+1,a=>by rw[show(e+1)*2=e*2+1+1 by omega];exact JZ (d:=b) (e:=e) N
def C5:∀b a:m cY,gE (b++a)=gE b++gE a
 |[],a=>rfl
 |d::b,a=>by simp only[sE,gE,C5 b a]
theorem J0:∀b(a:Nat)d,a<c b->gE (b.set a d)=(gE b).take (a*2)++[.int .i64 d.1,jr d.2]++(gE b).drop (a*2+2)
 |[],a,d,e=>absurd e (iU _)
 |f::b,0,d,_=>by simp[gE]
 |f::b,a+1,d,e=>by rw[List.set_cons_succ,gE,J0 b a d N,gE,show(a+1)*2=a*2+1+1 by omega,show a*2+1+1+2=(a*2+2)+1+1 by omega];simp
theorem C6{d}(o:gw d):eo 2 (c d) (bI.fn d) (gE d):=by
 refine⟨yz d,λb _=>rfl,λb e p q a=>?_⟩;obtain⟨i,j⟩:=JZ e;obtain⟨m,f⟩:=o (d.getD b (0,[])) N;have k:bI.fn d b=[.int .i64 (d.getD b (0,[])).1,.T (d.getD b (0,[])).2]:=rfl;rw[k]at a
 match p,a with
 |0,a=>cases a;exact⟨_,i,λg=>Rd.int m⟩
 |1,a=>cases a;exact⟨_,j,λg=>Rd.T N f⟩
abbrev hj(a:X):y:=ay (.val a)
abbrev aJ(a:fv)(d:Nat)(b:m cY):aq:=.K (cu 170 2 a d (gE b))
abbrev iD(b:Nat)(a:fv)(d:Nat):aq:=.K (ef b 321 (c6 a d))
abbrev sY(a:cY):y:=ay (.cE 170 [.int .i64 a.1,.T a.2])
abbrev x7(a:cY):y:=.n (.agg [.c (.int .i64 a.1),.c (.T a.2)])
theorem aew{a:cY}(m:m' z [.c (.int .i64 a.1),.c (.T a.2)]):z=[.int .i64 a.1,jr a.2]:=by
 obtain⟨i,e⟩:=m
 match z,i with
 |[q,r],_=>
  obtain⟨o,g,b⟩:=e 0 _ rfl;obtain⟨p,j,d⟩:=e 1 _ rfl;cases g;cases j;have f:=b λ_ _=>n;have k:=(EK (d λ_ _=>n)).1;cases f;rw[k]
def SU{b d:ae}(e:r.op=.call {callee:=.builtin .append,args:=#[b,d],argTypes:=#[321,321]}):j_ T r b d 170 mF:=
 ⟨⟨321,321,Dk,Dk,e,(bc _ _ a),rfl,(bc _ _ a),rfl⟩,(bc _ _ a),by decide,by decide⟩
def CA(bP)(j)(d):Y q 271 [hj (c6 bP j)] [aJ bP j d] (Q j) [aJ bP j d]:=by refine Y.ab func271 rfl λb=>?_;refine gH [] 7 a B ?_;refine g.jg bc 0 a a a a a a a a ?_;exact aQ a B (g.aI [0] a a C3)
def CB(i cap){d}(k:gw d)(o:Nat)(b:e<c d)(j:u<c d):Y q 354 [hj (c6 (.row i cap) (c d)),Q e,Q u] [aJ (.row i cap) (c d) d] (bg (decide ((d.getD e (0,[])).1<(d.getD u (0,[])).1))) [aJ (.row i cap) (c d) d]:=by
 refine Y.ab func354 rfl λm=>?_
 have f:=C6 k;refine a3 [901] a B ?_;refine g.gf b7 [hj (c6 (.row i cap) (c d)),Q e,hj (.pointer (h ⟨i,0+(e:Int).toNat*2,n⟩)),hj (.pointer (h ⟨i,0+(e:Int).toNat*2+0,n⟩)),Q (d.getD e (0,[])).1,hj (c6 (.row i cap) (c d)),Q u,hj (.pointer (h ⟨i,0+(u:Int).toNat*2,n⟩)),hj (.pointer (h ⟨i,0+(u:Int).toNat*2+0,n⟩)),Q (d.getD u (0,[])).1,bg (decide ((d.getD e (0,[])).1<(d.getD u (0,[])).1))] 10 a a a a a ⟨
  aY.w,aY.w,aY.eval (bh:=[]) bc a_.nil a bw,aY.w,
  aY.a3 (j5 a) (a2.fa (d:=0) (e:=e) (al:=0) bc a a D a f a a b),
  aY.w,aY.w,aY.eval (bh:=[]) bc a_.nil a bw,aY.w,
  aY.a3 (j5 a) (a2.fa (d:=0) (e:=u) (al:=0) bc a a D a f a a j),
  aY.w,B⟩ ?_
 exact aQ a B (g.aI [0] a a C3)
def M4{g m:ae}{cap}{d}{aa}(u:r.op=.store o g m)(s:bX eQ o=h mF)(b:off=e*2)(t:bF I g=cN (.pointer (h ⟨i,off,n⟩)))(p:mt (bF I m)=h [.c (.int .i64 aa.1),.c (.T aa.2)])(z:c d=j)(w:e<c d)(y:r.guard=n):
  aY q F all r I [aJ (.row i cap) j d] .any [aJ (.row i cap) j (d.set e aa)]:=by subst b;have x:=ei.eS (F:=F) (k:=[aJ (.row i cap) j d]) bc 0 (W:=170) (f:=2) (j:=j) (i:=i) (cap:=cap) (off:=e*2) (ag:=gE d) u s t p a a a (by grind[yz]);grind[aew,J0,aY.eo]
abbrev M_(d a:Nat)(b:m cY)(e f:Nat)(g i:Bool):m aq:=match g with
 |false=>[aJ (.row d a) (c b) b]
 |true=>match i with
  |false=>[aJ (.row d a) (c b) (b.set e (b.getD f (0,[])))]
  |true=>[aJ (.row d a) (c b) (jD b e f)]
def CC(i cap){d}(o:gw d)(b:e<c d)(k:u<c d):Y q 357 [hj (c6 (.row i cap) (c d)),Q e,Q u] [aJ (.row i cap) (c d) d] (.S []) [aJ (.row i cap) (c d) (jD d e u)]:=by
 refine Y.ab func357 rfl λr=>?_;have x:=C6 o;refine a3 [900] a B ?_;let f:Nat->y:=λp=>([hj (c6 (.row i cap) (c d)),Q e,hj (c6 (.row i cap) (c d)),Q u,hj (c6 (.row i cap) (c d)),Q u,hj (.pointer (h ⟨i,0+(u:Int).toNat*2,n⟩)),x7 (d.getD u (0,[])),hj (c6 (.row i cap) (c d)),Q e,hj (.pointer (h ⟨i,0+(e:Int).toNat*2,n⟩)),x7 (d.getD e (0,[])),hj (.pointer (h ⟨i,0+(e:Int).toNat*2,n⟩)),.any,hj (.pointer (h ⟨i,0+(u:Int).toNat*2,n⟩))]:m y).getD p .any
 refine g.ca b7 f (ns (M_ i cap d e u) 13 15) a a a a ⟨
  .bo,.bo,.bo,.bo,.bo,.bo,
  .de bc a_.nil,
  cg.g_ a a a a (aY.a3 (j5 a) (a2.fa (d:=0) (e:=u) (al:=0) bc a a D a x a a k)),
  .bo,.bo,
  .de bc a_.nil,
  cg.g_ a a a a (aY.a3 (j5 a) (a2.fa (d:=0) (e:=e) (al:=0) bc a a D a x a a b)),
  .de bc a_.nil,
  cg.fe a a ?_,
  .de bc a_.nil,
  cg.ff a a ?_,B⟩ ?_
 .exact M4 a a D a a a b a
 .exact M4 a a D a a D N a
 intro y j;show g q _ _ _ _ _ (M_ i cap d e u (y 13) (y 15));rw[j 13 ca,j 15 ca];exact bW.dh [0] a B a a a C3
def VB(C)(bP){d}(z:gw d)(D:c d<=1000){b}(A:c b.2<=9223372036854775807):
  bl (ι:=fv) q 356 [hj (.pointer (h ⟨C,0,n⟩)),sY b] [iD C bP (c d),aJ bP (c d) d] (λ_=>.S []) (λe=>[iD C e (c d+1),aJ e (c d+1) (d++[b])]):=by
 refine bl.cb func356 rfl rfl rfl λx=>?_;refine a3 [900] a B ?_;have k:=tR bP (c d);refine g.eI (ι:=fv) b7 7 8 10 (λi=>ax i 6) (λi=>([hj (.pointer (h ⟨C,0,n⟩)),hj (.pointer (h ⟨C,0,n⟩)),hj (.pointer (h ⟨C,0,n⟩)),hj (c6 bP (c d)),sY b,x7 b,ay (.B l 2 1 λp=>([[.int .i64 b.1,.T b.2]]:m (m M)).getD p [])]:m y).getD i .any) (λe _=>hj (c6 e (c d+1))) (λe=>[iD C bP (c d),.K (cu 170 2 e (c d+1) (gE d++[.int .i64 b.1,jr b.2]))])
  rfl rfl rfl rfl rfl rfl rfl (λi w=>by exact lO) rfl
  ⟨aY.w,aY.w,aY.a3 (j5 a) (a2.dP a a),aY.eE bc 0 a a a a a k a,aY.w,aY.a3 (j5 a) (a2.f_ (ah:=[.int .i64 b.1,.T b.2]) bc a a a a),aY.w,B,B,B,B⟩
  (λe=>⟨aY.w,aY.w,aY.a3 (j5 a) (a2.dP a a),aY.eE bc 0 a a a a a k a,aY.w,aY.a3 (j5 a) (a2.f_ (ah:=[.int .i64 b.1,.T b.2]) bc a a a a),aY.w,B,B⟩)
  (dX.eo a (ei.fu (d:=1) (bP:=bP) (ag:=gE d) (j:=c d) (h6:=[.int .i64 b.1,jr b.2]) (SU a) a a a a a (λt E r u f s=>?_) Al)) λe=>?_
 .match r,f with
  |0,f=>cases f;cases s;exact bE
  |1,f=>grind[EK]
 have o:=tR e (c d+1);refine g.aK (a2.dP a a) a a ?_;refine g.hV bc 0 a a a a a (by cases e<;>rfl) o a a a ?_;refine aQ a B ⟨e,bW.dh [0,1] a B ?_ a a ta⟩;show h [_,aq.K (cu _ _ _ _ (gE d++_))]=h [_,aq.K (cu _ _ _ _ (gE (d++[b])))];rw[C5];rfl
def cu.cut{cap}{d}{e}(k:cu W 2 (.row i cap) (c d+1) (gE (d++[e])) aa ld):cu W 2 (.row i cap) (c d) (gE d) aa ld:=by obtain⟨a,b,r,p,g,j,o,q⟩:=k;rw[C5]at *;refine⟨a,λm f=>b m (A0 _ f),yz d,by omega,g,gE [e]++j,N,?_⟩;grind
def VA(C i cap){d}{b}(p:gw (d++[b]))(r:c d<=1000)(f:c d+1<=cap):
  Y q 355 [hj (.pointer (h ⟨C,0,n⟩))] [iD C (.row i cap) (c d+1),aJ (.row i cap) (c d+1) (d++[b])] (sY b) [iD C (.row i cap) (c d),aJ (.row i cap) (c d) d]:=by
 refine Y.ab func355 rfl λo=>?_;have j:eo 2 (c d+1) (bI.fn (d++[b])) (gE (d++[b])):=by grind[C6,List.length_append]
 refine aQ a B (g.aK (a2.dP a a) a a ?_);refine g.Q (aY.eE bc 0 a a a a a a a) a ?_;refine aQ a bE (g.aK (a2.dP a a) a a ?_);refine g.Q (aY.eE bc 0 a a a a a a a) a ?_;refine aQ a bw (g.aK (a2.fa (d:=1) (e:=c d) (al:=0) bc a a (by simp[show mF.size=2 from a]) a j a a D) a a ?_);refine aQ a B (g.aK (a2.dP a a) a a ?_);refine g.Q (aY.eE bc 0 a a a a a a a) a ?_;refine aQ a B (g.aK (a2.jS bc a a a a a a f w w) a a ?_);rw[show(((c d+1:Nat):Int)-1).toNat=c d from by omega];refine g.aK (a2.dP a a) a a ?_;refine g.hV bc 0 a a a a a a a a a a ?_;refine gH [] 2 a B (g.gx (ι:=Unit) 1 (λ_=>cu 170 2 (.row i cap) (c d) (gE d)) a (λs k m=>⟨(),cu.cut m⟩) λ_=>?_);refine aQ a B (g.aI [0,1] a ?_ ta);simp
end
end R1
end Go.AM
