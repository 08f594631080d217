/- Part 3. No condition. -/
import Derived.Test.YtpddeenenibhjaaGreatDoorA2
import Derived.Lib.SliceRun
import Derived.Lib.FrozenHead
import Derived.Lib.UnsafeStr
import Derived.Lib.MakeNoZero
import Derived.Laws.Externs
import Derived.Lib.Builder
import Derived.Conc.Beside
import Derived.Conc.CrowdRun
import Derived.Conc.WgGenN2
import Derived.Conc.WgGenN3
import Derived.Conc.CrowdComm
import Derived.Conc.SmallLaws
import Derived.Conc.EventLaws
import Derived.Conc.LeavingOf
import Derived.Below
set_option linter.all false
set_option maxHeartbeats 8000000
open Go.Conc (G)
open Go renaming Value → ai, TypeId → aw, Frame → aU, FuncId → aJ, execOp → ak, undef → ah, Operand → aC, World → aA, Program → aM, Oper → aB, Goroutine → aq, stepG → aG
open Option renaming some → aa, none → af
open Bool renaming true → ab, false → ae
open Go.Region renaming wanted → aY
open Go.World renaming cell? → aV
open Go.Sem renaming events_bind → aK
open Go.Result renaming evThen_ok → aP
open Go.MemAct renaming ofEvent → aF, touch? → bj
open Nat renaming beq → av, ble → bu
open Go.Conc renaming stepG_seq → az, stepG_region_end → ay
namespace Go.AM
variable {n k l b i j:Nat}{E:aw}{H:ai->(Nat->Option Obj)->Prop}{L:Array Bool}{M:Mem}{N:Nat}{P:aM}{S:aq->St->Prop}{c:Code}{g:aq}{o:aB}{s:St}{t:aw}{v:ai}{w:aA}{x y:aC}{α:Type}{η:aC->D}{ι:Type}{σ:List bd}{φ:Fr}{all:List aB}{jJ:Array aw}{cap:List C}{cm:List D}{cs:List aU}{ds:List (Nat×Bool)}{es:Nat->List C}{fo:aC}{gs:Array aq}{obs:List Prop}{off:Nat}{op:BinOp}{ops:Array aB}{ps:List Prop}{rest:List aB}{s':St}{ty:aw}{val:Nat->Nat->ai}{vs:List ai}{w':aA}{xs:Array aC}{σ' σs:List bd}{res:ι->D}{σ1:ι->List bd}
variable {CT:List (Nat×dy)}{K:List It}{Qf:Post}{T:List (Nat×TI)}{ie:TI}
section
variable {X:Cx P}
def AK.Tx(t:Nat)(E k:Nat)(es':Nat->List C){k':Nat}{d:Nat->List C}(g:look φ t=.e (.one (.c (.sl ab k' 0 d))))(kk:AK X N Qf (.code c::K) .normal ((t,.e (.one (.bp σ.length (.sl 0 k 0 0))))::φ) (σ++[.buf E k 0 es'])):AK X N Qf (.code c::K) .normal φ σ:=by
 refine AK.ghost (λs a b hh=>?_) kk;have f:=b.slot t;rw[g]at f;obtain⟨h,g2⟩:=hh.gx (B:=.buf E k 0 es') (L:=⟨.slice af 0 0,[]⟩) (.refl _ _) rfl hh (.inl ⟨rfl,rfl⟩) (by simp);refine⟨{s with β:=s.β++[⟨.slice af 0 0,[]⟩]},rfl,⟨b.size,b.defers.imp λ_ h1=>h1.mono g2.ext,λu=>?_⟩,h,g2⟩;simp only[look];cases hb:av t u with
 |false=>exact(b.slot u).mono g2.ext hh.len
 |true =>
  have e:=bX hb;subst e;exact uq (E:=E) (es:=es') (fH f) (by simp) (by simp[<-hh.len])
def AK.vM(l j:Nat)(E k:Nat)(es':Nat->List C){E0:aw}{cs:List A}{k':Nat}{x:Nat->List C}(hl:eB l σ=aa (.cells E0 cs))(hj:eB j cs=aa (.c (.sl ab k' 0 x)))(kk:AK X N Qf (.code c::K) .normal φ ((σ++[bd.buf E k 0 es']).set l (.cells E0 (cs.set j (.bp σ.length (.sl 0 k 0 0)))))):AK X N Qf (.code c::K) .normal φ σ:=by
 refine AK.ghost (λs a F hh=>?_) kk;have I:=cX hl;have O:=cX hj;have G:l<σ.length:=(b8.1 I).1;have m:l<s.β.length:=by rw[hh.len];grind
 have y:=bm m;generalize s.β[l]=L at y;obtain⟨b,vs,t,f,g,T⟩:=hh.box l _ L I y;obtain⟨v,Q,J⟩:=g.get O;let d:Loc:=⟨.slice af 0 0,[]⟩
 obtain⟨H,g2⟩:=hh.gx (B:=.buf E k 0 es') (L:=d) (.refl _ _) rfl hh (.inl ⟨rfl,rfl⟩) (by grind);have z:(σ++[bd.buf E k 0 es'])[l]?=aa (.cells E0 cs):=by grind
 have q:(s.β++[d])[l]?=aa L:=by grind
 have n:(s.β++[d]).set l L=s.β++[d]:=by apply gK;grind
 have r:hU (.cells E0 cs) L (.cells E0 (cs.set j (.bp σ.length (.sl 0 k 0 0)))) L:=rfl;have p:eH ((σ++[bd.buf E k 0 es']).set l (.cells E0 (cs.set j (.bp σ.length (.sl 0 k 0 0))))) ⟨(s.β++[d]).set l L,s.M,s.w,s.own⟩ (.cells E0 (cs.set j (.bp σ.length (.sl 0 k 0 0)))) L:=by
  rw[n];refine⟨b,vs,t,f,?_,T⟩;have ex:Ext (σ++[bd.buf E k 0 es']) {s with β:=s.β++[d]} ((σ++[bd.buf E k 0 es']).set l (.cells E0 (cs.set j (.bp σ.length (.sl 0 k 0 0))))) {s with β:=s.β++[d]}:=by
   refine⟨λ_ _ _ h=>h,λi B L R D=>?_⟩;by_cases e:l=i
   .grind
   .exact⟨B,L,by grind,D,.refl _ _⟩
  have o:dZ (σ++[bd.buf E k 0 es']) {s with β:=s.β++[d]} vs cs:=g.mono g2.ext hh.len;exact dZ.set (o.mono ex H.len) Q (uq (E:=E) (es:=es') J (by grind) (by simp[<-hh.len,d]))
 obtain⟨S,q2⟩:=H.hX (M':=s.M) (w':=s.w) (L':=L) z q r (aZ _) (λ_ _ _=>rfl) (λ_ _ _ _=>rfl) (λ_ _ _ h=>h) hh.mem (λb hb=>⟨.inl hb,hh.lt L (bH y) b hb⟩) rfl rfl rfl p;have st:=g2.trans q2;exact⟨⟨(s.β++[d]).set l L,s.M,s.w,s.own⟩,rfl,⟨F.size,F.defers.imp λ_ h1=>h1.mono st.ext,λu=>(F.slot u).mono st.ext hh.len⟩,S,st⟩
end
def sk:Nat->(Nat->List C)->Nat->List C
 |0,es=>es
 |o+1,es=>kX (o+1) es
def ux(o:Nat)(es:Nat->List C)(i:Nat):sk o es i=es (o+i):=by cases o<;>simp[sk,kX]
def zN(l k n:Nat)(es:Nat->List C)(a:A):Option (A×List Prop):=match F2 l a with
 |true=>aa (a,[])
 |false=>match a with
  |.bp l' (.sl g k' o m)=>match av l' l,av k' k with
   |true,ab=>aa (.c (.sl ae k m (sk o es)),[g=n,o+m<=n])
   |_,_=>af
  |_=>af
def zO(l k n:Nat)(es:Nat->List C):List A->Option (List A×List Prop)
 |[]=>aa ([],[])
 |a::r=>match zN l k n es a with
  |some (a',p)=>match zO l k n es r with
   |some (r',q)=>aa (a'::r',iF p q)
   |none=>af
  |none=>af
def vN(l k n:Nat)(es:Nat->List C):E1->Option (E1×List Prop)
 |.one a=>match zN l k n es a with|some (a,p)=>aa (.one a,p)|none=>af
 |.agg cs=>match zO l k n es cs with|some (cs,p)=>aa (.agg cs,p)|none=>af
def uE(l k n:Nat)(es:Nat->List C):List E1->Option (List E1×List Prop)
 |[]=>aa ([],[])
 |a::r=>match vN l k n es a with
  |some (a',p)=>match uE l k n es r with
   |some (r',q)=>aa (a'::r',iF p q)
   |none=>af
  |none=>af
def vO(l k n:Nat)(es:Nat->List C):D->Option (D×List Prop)
 |.e x=>match vN l k n es x with|some (x,p)=>aa (.e x,p)|none=>af
 |.fw xs=>match uE l k n es xs with|some (xs,p)=>aa (.fw xs,p)|none=>af
 |.any=>aa (.any,[])
section
variable {σ1:List bd}{s2:St}{E:Nat}
structure lI(σ1:List bd)(E k n:Nat)(es:Nat->List C)(s s2:St):Prop where
 keep:∀v a,gd (σ1++[.buf E k n es]) s v a->F2 σ1.length a=ab->gd σ1 s2 v a
 H4:∀v k' o m,gd (σ1++[.buf E k n es]) s v (.bp σ1.length (.sl n k' o m))->k'=k->o+m<=n->Rd s2.M v (.sl ae k m (sk o es))
def lI.a(h:lI σ1 E k n es s s2){v:ai}{a a':A}{ps:List Prop}(b:zN σ1.length k n es a=aa (a',ps))(d:au ps)(r:gd (σ1++[.buf E k n es]) s v a):gd σ1 s2 v a':=by
 unfold zN at b;split at b
 .rename_i c;cases b;exact h.keep v a r c
 .split at b
  .rename_i l' g k' o m _;split at b
   .rename_i e1 e2;cases b;have e1:=bX e1;have e2:=bX e2;subst e1 e2;obtain⟨rfl,h2⟩:g=n/\o+m<=n:=d;exact h.H4 v _ _ _ r rfl h2
   grind
  grind
def lI.cl(h:lI σ1 E k n es s s2):∀{vs:List ai}{cs lS:List A}{ps:List Prop},zO σ1.length k n es cs=aa (lS,ps)->au ps->dZ (σ1++[.buf E k n es]) s vs cs->dZ σ1 s2 vs lS
 |[],[],_,_,b,_,_=>by cases b;trivial
 |[],_::_,_,_,_,_,r=>r.elim
 |_::_,[],_,_,_,_,r=>r.elim
 |v::vs,c::cs,lS,ps,b,d,r=>by
  simp only[zO]at b;split at b
  .rename_i a' p h1;split at b
   .rename_i r' q h2;cases b;rw[au.cat]at d;exact⟨h.a h1 d.1 r.1,h.cl h2 d.2 r.2⟩
   grind
  grind
def lI.e(h:lI σ1 E k n es s s2){x c:E1}(b:vN σ1.length k n es x=aa (c,ps))(d:au ps)(r:nh (σ1++[.buf E k n es]) s v x):nh σ1 s2 v c:=by
 cases x with
 |one a =>
  simp only[vN]at b;split at b
  .rename_i a' p h1;cases b;exact h.a h1 d r
  grind
 |agg cs =>
  simp only[vN]at b;split at b
  .rename_i a' p h1;cases b;obtain⟨vs,g,f⟩:=r;exact⟨vs,g,h.cl h1 d f⟩
  grind
def lI.es'(h:lI σ1 E k n es s s2):∀{vs:List ai}{cs lS:List E1}{ps:List Prop},uE σ1.length k n es cs=aa (lS,ps)->au ps->gC (σ1++[.buf E k n es]) s vs cs->gC σ1 s2 vs lS
 |[],[],_,_,a,_,_=>by cases a;trivial
 |[],_::_,_,_,_,_,r=>r.elim
 |_::_,[],_,_,_,_,r=>r.elim
 |v::vs,c::cs,lS,ps,a,b,r=>by
  simp only[uE]at a;split at a
  .rename_i a' p h1;split at a
   .rename_i r' q h2;cases a;rw[au.cat]at b;exact⟨h.e h1 b.1 r.1,h.es' h2 b.2 r.2⟩
   grind
  grind
def lI.d(h:lI σ1 E k n es s s2){x b:D}(a:vO σ1.length k n es x=aa (b,ps))(c:au ps)(r:dk (σ1++[.buf E k n es]) s v x):dk σ1 s2 v b:=by
 cases x with
 |e x =>
  simp only[vO]at a;split at a
  .rename_i a' p h1;cases a;exact h.e h1 c r
  grind
 |fw xs =>
  simp only[vO]at a;split at a
  .rename_i a' p h1;cases a;obtain⟨vs,g,f⟩:=r;exact⟨vs,g,h.es' h1 c f⟩
  grind
 |any=>cases a;trivial
def aD.H4(hh:aD (σ1++[.buf E k n es]) s)(B:xn σ1.length σ1=ab):
  ∃s2:St,aD σ1 s2/\eK s s2/\lI σ1 E k n es s s2/\∀{σ0:List bd} {s0:St},cN σ0 s0 (σ1++[.buf E k n es]) s->σ0.length<=σ1.length->cN σ0 s0 σ1 s2:=by
 have C:(σ1++[bd.buf E k n es])[σ1.length]?=aa (.buf E k n es):=by simp
 have F:s.β.length=σ1.length+1:=by rw[hh.len];simp
 have x:s.β[σ1.length]?=aa s.β[σ1.length]:=bm (by omega);generalize s.β[σ1.length]=L at x;have z:=hh.box _ _ L C x;obtain⟨M',H,N,I,Z⟩:∃M':Mem,(∀b o v,s.M b o=aa v->M' b o=aa v)/\(∀b,b∉L.bs->∀o,M' b o=s.M b o)/\(∀b o v,M' b o=aa v->s.w.cell? ⟨b,o,af⟩=aa v) /\
   (∀v k' o m,gd (σ1++[.buf E k n es]) s v (.bp σ1.length (.sl n k' o m))->k'=k->o+m<=n->Rd M' v (.sl ae k m (sk o es))):=by
  rcases z with⟨rfl,rfl⟩|⟨b,S,vs,zs,rfl,hw,Y,V,W,D,hM⟩
  .refine⟨s.M,λ_ _ _ h=>h,λ_ _ _=>rfl,hh.mem,λv k' o m r e l=>?_⟩;obtain⟨lv,⟨a,a0,cap,S,g,h1,h2,O,A,U⟩,_,G⟩:=r;grind[Rd.jr]
  .let M':Mem:=λd o=>if d=b then vs[o]? else s.M d o;have K:∀d o v,s.M d o=aa v->M' d o=aa v:=λd o v g=>by grind
   refine⟨M',K,λd T o=>?_,λd o v g=>?_,λv k' o m r e l=>?_⟩
   .grind
   .by_cases e:d=b
    .subst e;simp only[M',b5]at g;simp only[aV,hw];grind
    .simp only[M',e,bM]at g;exact hh.mem d o v g
   .subst e;obtain⟨lv,⟨a,a0,cap,c1,g,h1,h2,O,A,U⟩,_,G⟩:=r;obtain⟨L',f,t⟩:=(G _ _ _ _ C).2 rfl;rw[x]at f;cases f;rw[A]at t;cases t;rw[g];have p:∀i,i<m->∀j c,(sk o es i)[j]?=aa c->∃u,vs[(o+i)*k'+j]?=aa u/\Rd s.M u c:=λi hi j c hj=>by rw[ux]at hj;exact D.rd (o+i) (by omega) j c hj
    refine .sl b (o*k') (λi j=>(vs[(o+i)*k'+j]?).getD ah) h1 (by omega) (by simp) (λi hi=>by rw[ux];exact D.width _ (by omega)) (λhm=>?_) (λi hi j c hj=>?_) (λi hi j c hj=>?_)
    .grind
    .grind
    .obtain⟨u,R,Q⟩:=p i hi j c hj;rw[R];exact Q.mono K
 have y:(σ1++[bd.buf E k n es]).set σ1.length .dead=σ1++[.dead]:=by simp
 obtain⟨J,q2⟩:=hh.hX (M':=M') (w':=s.w) (B':=.dead) (L':=⟨L.v,[]⟩) C x ar (aZ _) (λ_ _ _=>rfl) (λb _ hb o=>N b hb o) H I (by simp) rfl rfl rfl ar;rw[y]at J q2;have q3:=J.drop (rest:=[.dead]) B;refine⟨_,q3,⟨rfl,H,λb hb o=>N b (hb L (bH x)) o,I,λb hb=>?_⟩,⟨λv a r q=>?_,λv k' o m r e l=>Z v k' o m r e l⟩,λ{σ0 s0} st hle=>(st.trans (q2.n3 hh)).drop (rest:=[.dead]) hle⟩
 .rcases hb with hb|⟨L',f,hb⟩
  .exact .inl hb
  .have:=ji f;grind
 .exact(r.mono q2.ext hh.len).drop (rest:=[.dead]) q
end
def dL.Bx{X:Cx P}{f:aJ}{args:List D}{res':ι->D}{σ1:ι->List bd}{E:Nat}{n:ι->Nat}{es:ι->Nat->List C}(h:dL X f args σ res (λi=>σ1 i++[.buf E k (n i) (es i)])){ps:ι->List Prop}(e:∀i,vO (σ1 i).length k (n i) (es i) (res i)=aa (res' i,ps i))(c:∀i,au (ps i))(b:∀i,xn (σ1 i).length (σ1 i)=ab)(a:∀i,σ.length<=(σ1 i).length):dL X f args σ res' σ1:=by refine⟨h.1,λs vs hr hh S cs hS=>h.2 s vs hr hh S cs λi fr v s' hl lR jf st=>?_⟩;obtain⟨s2,c1,c2,c3,c4⟩:=jf.H4 (b i);exact .ghost c2 (hS i fr v s2 (hl.mono c2.mem) (c3.d (e i) (c i) lR) c1 (c4 st (a i)))
def Ev.Bx{P:aM}{X:Cx P}{f:aJ}{args:List D}{σ:List bd}{res res':D}{σ1:List bd}{E k n:Nat}{es:Nat->List C}(h:Ev X f args σ res (σ1++[.buf E k n es])){ps:List Prop}(d:vO σ1.length k n es res=aa (res',ps))(c:au ps)(b:xn σ1.length σ1=ab)(a:σ.length<=σ1.length):Ev X f args σ res' σ1 :=
 (dL.Bx (ι:=Unit) h.HX (λ_=>d) (λ_=>c) (λ_=>b) (λ_=>a)).F3
section
def zl(h:o.op=.call {callee:=.builtin .clear,args:=#[x],argTypes:=#[t]})(a:aC->ai):
  ak a o=(do pure (.value (<-Builtin.clear_ #[t] o.type #[a x]))):=by simp[ak,h,resolve,invoke,builtin]
def H3{z:ai}{e:List C}{m:Nat}(l:z.cells.toList.map qv=e.map aa)(o:e.length=k):Flat M k m (λ_=>e) (Builtin.zeroCells z.cells m).toList:=by
 have d:z.cells.size=k:=by have:=dA List.length l;grind
 have h:dZ [] ⟨[],M,default,λ_=>False⟩ z.cells.toList (e.map A.c):=ki l;refine⟨by simp[Builtin.zeroCells,d],λ_ _=>o,λi hi j c s=>?_⟩;have n:j<k:=by grind
 obtain⟨v,v1,p⟩:=h.get (j:=j) (a:=A.c c) (by grind);refine⟨v,?_,p⟩;have f:i*k+j<m*k:=by
  have:i*k+k<=m*k:=by rw[<-kH];exact eu k hi
  omega
 have b:(i*k+j) % k=j:=by grind[Nat.add_mul_mod_self_right,Nat.mod_eq_of_lt]
 have q:j<z.cells.size:=by omega
 have r:z.cells[j]=v:=by grind
 have g:z.cells[j]! = v:=by grind
 simp[Builtin.zeroCells,d,f,b,g]
def bD.C0(X:c8 P T)(h:o.op=.call {callee:=.builtin .clear,args:=#[x],argTypes:=#[t]}){i:TI}(hi:bE T t=aa i)(hd:i.desc=.slice E)(hE:bE T E=aa ie){q m:Nat}{G:aw}(hx:η x=.e (.one (.bp l (.sl n ie.size q m))))(hl:σ[l]?=aa (.buf G ie.size n es))(B:q+m<=n):
  bD P o η σ .any (σ.set l (.buf G ie.size n (nC q (q+m) ie.zero es))):=by
 intro s ρ hh hr;have h1:=hr x;rw[hx]at h1;change gd σ s (ρ x) (.bp l _)at h1;obtain⟨lv,⟨a,a0,cap,c0,hv,Va,RR,VH,Q,O⟩,_,R⟩:=h1;obtain⟨L,J,p⟩:=(R _ _ _ _ hl).2 rfl;rw[Q]at p;have c:=(X t i hi).RX;rw[hd]at c;rw[zl h,hv];by_cases hm:m=0
 .subst hm;have hz:nC q (q+0) ie.zero es=es:=by funext j;simp only[nC];grind
  have hs:σ.set l (.buf G ie.size n es)=σ:=by apply gK;grind
  rw[hz,hs];refine⟨.value (.tuple #[]),s,?_,ar,hh,.refl _ _,?_⟩
  .cases a<;>simp[Builtin.clear_,run_underlying c]
  .intro N g;cases a<;>simp[Builtin.clear_,run_underlying c,aK]at g
 .obtain⟨b,rfl,rfl⟩:=O (by omega);rcases hh.box l _ L hl J with⟨_,rfl⟩|⟨b',c1,vs,D,rfl,d,I,K,H,U,Z⟩
  .cases p
  .cases p;obtain⟨inf,z,V,z2,z3,Y,z5,z6,z7⟩:=(X E ie hE).info;have r:=H3 (M:=s.M) (m:=m) z5 z7;have W:(Builtin.zeroCells z.cells m).toList.length=m*ie.size:=r.len;have Oo:=U.len;have hb:q*ie.size+m*ie.size<=n*ie.size:=by rw[<-gM];exact eu _ B
   have q2:=U.HL r B;have he:(λi=>if q<=i/\i<q+m then(λ_=>ie.zero) (i-q)else es i)=nC q (q+m) ie.zero es:=rfl;rw[he]at q2;obtain⟨t1,t2⟩:=hh.eb hl J I K H d q2 (by grind) Z;have f:∀v∈(Builtin.zeroCells z.cells m).toList,v.oneCell'=ab:=r.cell;have k:=run_storeCells_at P b (q*ie.size) G (Builtin.zeroCells z.cells m).toList 0 (vs++D).toArray s.w d (by grind) f;have y:((vs++D).toArray.toList.take (q*ie.size+0)++(Builtin.zeroCells z.cells m).toList++(vs++D).toArray.toList.drop (q*ie.size+0+(Builtin.zeroCells z.cells m).toList.length))=vs.take (q*ie.size)++(Builtin.zeroCells z.cells m).toList++vs.drop (q*ie.size+(Builtin.zeroCells z.cells m).toList.length)++D:=by grind
   rw[y]at k;have C:∀u,(zeroValue E).run P u=.ok z u:=λu=>by simp[zeroValue,typeInfo,V,Y]
   have S:∀u es,(zeroValue E).events P u es=es:=λu es=>by simp[zeroValue,typeInfo,V,Y,aK]
   obtain⟨F,rfl⟩:∃F,m=F+1:=⟨m-1,by omega⟩
   refine⟨.value (.tuple #[]),_,?_,ar,t1,t2,?_⟩
   .simp[Builtin.clear_,run_underlying c,C,k]
   .intro N g;have A:N∈(storeCells ⟨b,q*ie.size,af⟩ (Builtin.zeroCells z.cells (F+1)).toList).events P s.w #[]:=by simp only[Builtin.clear_,aK,g8,kC]at g;simpa[run_underlying c,C,S,k]using g
    rcases eh (Builtin.zeroCells z.cells (F+1)).toList 0 (vs++D).toArray s.w #[] d (by grind) f N A with LH|⟨j,_,_,rfl⟩
    .grind
    .exact kT (bH J) (by simp) (Z _)
end
section
variable {X:Cx P}
def AK.Qc{φ':Fr}(h:∀s a,ck N σ s φ a->aD σ s->∃s':St,s'.w=s.w/\ck N σ' s' φ' a/\aD σ' s'/\Step σ s σ' s')(k:AK X N Qf (.ops all rest::K) .normal φ' σ'):AK X N Qf (.ops all rest::K) .normal φ σ:=by intro s a g hh b kk cs S idx hb iC hQ;obtain⟨s',j,f,d,st⟩:=h s a g hh;have c:=st.n3 hh;refine .ghost (.of hh d j c) ?_;exact k s' a f d b kk cs S idx hb iC λe σ2 s2 a2 q i h2 oe=>hQ e σ2 s2 a2 q i h2 (c.trans oe)
def AK.IW(t:Nat)(E k:Nat)(es':Nat->List C){k':Nat}{d:Nat->List C}(g:look φ t=.e (.one (.c (.sl ab k' 0 d))))(kk:AK X N Qf (.ops all rest::K) .normal ((t,.e (.one (.bp σ.length (.sl 0 k 0 0))))::φ) (σ++[.buf E k 0 es'])):AK X N Qf (.ops all rest::K) .normal φ σ:=by
 refine AK.Qc (λs a b hh=>?_) kk;have f:=b.slot t;rw[g]at f;obtain⟨h,g2⟩:=hh.gx (B:=.buf E k 0 es') (L:=⟨.slice af 0 0,[]⟩) (.refl _ _) rfl hh (.inl ⟨rfl,rfl⟩) (by simp);refine⟨{s with β:=s.β++[⟨.slice af 0 0,[]⟩]},rfl,⟨b.size,b.defers.imp λ_ h1=>h1.mono g2.ext,λu=>?_⟩,h,g2⟩;simp only[look];cases hb:av t u with
 |false=>exact(b.slot u).mono g2.ext hh.len
 |true =>
  have e:=bX hb;subst e;exact uq (E:=E) (es:=es') (fH f) (by simp) (by simp[<-hh.len])
def AK.IX(B:c8 P T){d g:Nat}(h:o.op=.binOp .eql t x (.const (.slice af d g)) ty){i:TI}(hi:bE T t=aa i)(D:i.desc=.slice E){tt:Bool}(v:bJ φ x=.e (.one (.c (.sl tt k n es))))(F:o.guard=af)(C:fD N o.dst=ab)(kk:∀b:Bool,(b=ab->n=0)->AK X N Qf (.ops all rest::K) .normal (kg o.dst (.e (.one (.c (.bool b)))) φ) σ):AK X N Qf (.ops all (o::rest)::K) .normal φ σ:=by
 refine AK.hand (ι:={b:Bool // b=ab->n=0}) (λb=>.e (.one (.c (.bool b.1)))) (λ_=>σ) F C (λs a u hh=>?_) λb=>kk b.1 b.2;have m:=cY u x;rw[v]at m;obtain⟨ad,cap,vs,m,_,_,_,_,hm⟩:=(fH m).flat;have j:=(B t i hi).RX;rw[D]at j;have p:=fH (by have:=cY u x;rw[v]at this;exact this);have r:ad.isNone=ab->n=0:=by
  intro H;rw[m]at p;cases p with
  |sl b off f z hb ht hk ha hm hr =>
   grind
 refine⟨⟨ad.isNone,r⟩,.value (.bool ad.isNone),s,.bool ad.isNone,?_,.inl rfl,Rd.bool,hh,.refl _ _,?_⟩
 .have hr:(binOp .eql t (.slice ad n cap) (.slice af d g)).run P s.w=.ok (.bool ad.isNone) s.w:=Go.Lib.run_eql_slice_nil s.w t E ad n cap d g j;have l:∀y,eqGuard .eql t x y (.slice ad n cap) (.slice af d g)=pure ():=λy=>by simp[eqGuard]
  have e1:a.eval (.const (.slice af d g))=.slice af d g:=rfl;simp only[ak,h,m,e1,l];simp[hr]
 .have A:∀es,(Op.equal t (.slice ad n cap) (.slice af d g)).events P s.w es=es:=λes=>by show(Op.equalIn (9999+1) t _ _).events P s.w es=es;unfold Op.equalIn;cases ad<;>simp[underlying,j]
  have hr:(Op.equal t (.slice ad n cap) (.slice af d g)).run P s.w=.ok ad.isNone s.w:=by show(Op.equalIn (9999+1) t _ _).run P s.w=_;grind[Go.Lib.run_equalIn_slice_nil]
  have l:∀y,eqGuard .eql t x y (.slice ad n cap) (.slice af d g)=pure ():=λy=>by simp[eqGuard]
  have e1:a.eval (.const (.slice af d g))=.slice af d g:=rfl;intro G q;exfalso;simp only[ak,h,m,e1,l,binOp]at q;simp[hr,A,aK]at q
end
def qa(xs:List UInt8):List ai:=xs.map λx=>.int .u8 x.toNat
theorem uv{xs:List UInt8}:(qa xs).length=xs.length:=by simp[qa]
def LY{xs b:List UInt8}:qa (xs++b)=qa xs++qa b:=by simp[qa]
def oE(bf:Option (Nat×Nat))(n:Nat):ai:=match bf with|none=>.slice af 0 0|some (g,cap)=>.slice (aa ⟨g,0,af⟩) n cap
def BB(T E:aw)(a:Bool)(v1:ai)(bf:Option (Nat×Nat))(xs:List UInt8)(f:Nat):ai->(Nat->Option Obj)->Prop:=λv d =>
 ∃b,v=.pointer (aa ⟨b,0,af⟩)/\cW v1=ab/\d b=aa (.cells #[if a then v else .pointer af,v1] T (0,0)) /\
 match bf with
 |none=>xs=[]/\∀c,(d c).isSome=ab↔c=b
 |some (g,cap)=>g≠b/\xs.length<=cap/\0<cap/\cap<=9223372036854775807/\f<=xs.length/\(∃e,(qa xs++e).length=cap/\d g=aa (.cells (qa xs++e).toArray E (0,f)))/\∀c,(d c).isSome=ab↔c=b∨c=g
section
variable {X:Cx P}{k:List (Nat×TI)}{T:aw}{a:Bool}{v1:ai}{bf:Option (Nat×Nat)}{xs:List UInt8}{f:Nat}
structure uQ(P:aM)(σ:List bd)(s:St)(l:Nat)(T E:aw)(a:Bool)(v1:ai)(bf:Option (Nat×Nat))(xs:List UInt8)(f:Nat)(L:Loc)(b:Nat)(ch:Nat->Option Obj):Prop where
 β:s.β[l]?=aa L
 v:L.v=.pointer (aa ⟨b,0,af⟩)
 bb:BB T E a v1 bf xs f L.v ch
 heap:∀(b:Nat) (o:Obj),ch b=aa o->s.w.heap[b]?=aa o
 bs:∀b,b∈L.bs↔(ch b).isSome=ab
 M:∀b∈L.bs,∀o,s.M b o=af
 ch:ch b=aa (.cells #[if a then L.v else .pointer af,v1] T (0,0))
 cell:cW v1=ab
def BB.row(hh:aD σ s)(hl:σ[l]?=aa (.cf (BB T E a v1 bf xs f))):∃L b ch,uQ P σ s l T E a v1 bf xs f L b ch:=by
 have c:l<s.β.length:=by rw[hh.len];grind
 have d:=bm c;generalize s.β[l]=L at d;obtain⟨ch,g,h1,h2,h⟩:=hh.box l _ L hl d;have e:=g;obtain⟨b,i,j,hb,_⟩:=e;exact⟨L,b,ch,d,i,g,h1,h2,h,hb,j⟩
def uQ.mem{L:Loc}{ch:Nat->Option Obj}(r:uQ P σ s l T E a v1 bf xs f L b ch):b∈L.bs:=(r.bs b).2 (by rw[r.ch];rfl)
def uQ.ptr{L:Loc}{ch:Nat->Option Obj}(r:uQ P σ s l T E a v1 bf xs f L b ch)(h:dk σ s v (.e (.one (.ptr l off)))):v=.pointer (aa ⟨b,off,af⟩):=by obtain⟨_,d,c,h1,h2,rfl⟩:=(h:gd σ s v (.ptr l off));rw[r.β]at h1;cases h1;rw[r.v]at h2;grind
def HO(y:c8 P k){i:TI}(h:o.op=.load t x)(hi:bE k t=aa i)(I:i.agg=ae)(B:σ[l]?=aa (.cf (BB T E a v1 bf xs f))){d:D}(H:η x=.e (.one (.ptr l off)))(J:∀s L b ch,aD σ s->uQ P σ s l T E a v1 bf xs f L b ch->∃v,(#[if a then L.v else .pointer af,v1]:Array ai)[off]?=aa v/\dk σ s v d):bD P o η σ d σ:=by
 refine .ny λs F u G=>?_;obtain⟨L,b,ch,r⟩:=BB.row (P:=P) u B;have z:=r.ptr (by have:=G x;rwa [H]at this);obtain⟨v,C,q⟩:=J s L b ch u r;have g:s.w.cell? ⟨b,off,af⟩=aa v:=by simp only[aV,r.heap _ _ r.ch];grind
 have c:(loadVar t ⟨b,off,af⟩).run P s.w=.ok v s.w:=by simp[loadVar,(y t i hi).jU,I,run_load,g]
 refine⟨v,by simp[ak,h,z,Instr.loadAt,Instr.sureAddr,c],q,λA m=>?_⟩;have p:A∈(loadVar t ⟨b,off,af⟩).events P s.w #[]:=by
  have e:ak F o=(do pure (.value (<-loadVar t ⟨b,off,af⟩))):=by simp[ak,h,z,Instr.loadAt,Instr.sureAddr]
  rw[e]at m;simpa[c]using m
 obtain⟨j,K,rfl⟩:=iV (y t i hi) (n:=1) (λj K=>by grind) (by grind) A p
 exact oF (bH r.β) r.mem
def bD.fb(c:c8 P k){i:TI}(h:o.op=.load t x)(hi:bE k t=aa i)(g:i.agg=ae)(hl:σ[l]?=aa (.cf (BB T E a v1 bf xs f)))(d:η x=.e (.one (.ptr l 1))):bD P o η σ (.e (.one (.v v1))) σ :=
 HO c h hi g hl d λs L b ch hh r=>⟨v1,by simp,Rd.val r.cell⟩
def LZ(b:σ[l]?=aa (.cf H)):∀B,σ[l]?=aa B->B.gr=ae:=by intro B h;rw[b]at h;cases h;rfl
def bD.HP(c:c8 P k){i:TI}(h:o.op=.load t x)(hi:bE k t=aa i)(g:i.agg=ae)(hl:σ[l]?=aa (.cf (BB T E ab v1 bf xs f)))(d:η x=.e (.one (.ptr l 0))):bD P o η σ (.e (.one (.ptr l 0))) σ :=
 HO c h hi g hl d λs L b ch hh r=>⟨L.v,by simp,LZ hl,L,b,r.β,r.v,r.v⟩
def bD.Pq(d:c8 P k){i:TI}(h:o.op=.load t x)(hi:bE k t=aa i)(j:i.agg=ae)(hl:σ[l]?=aa (.cf (BB T E ae v1 bf xs f)))(g:η x=.e (.one (.ptr l 0))):bD P o η σ (.e (.one (.c .oG))) σ :=
 HO d h hi j hl g λs L b ch hh r=>⟨.pointer af,by simp,Rd.oG⟩
def setRow_size(w:aA)(b:Nat)(row:Array ai):(w.setRow b row).heap.size=w.heap.size:=by simp[World.setRow]
def HQ(U:c8 P k){i:TI}(h:o.op=.store t x y)(hi:bE k t=aa i)(F:i.size=1)(Y:σ[l]?=aa (.cf (BB T E a v1 bf xs f))){c:Bool}{d:ai}(hx:η x=.e (.one (.ptr l off)))(ho:off<2)(hc:cW d=ab)(hd:∀s L b ch v,aD σ s->uQ P σ s l T E a v1 bf xs f L b ch->dk σ s v (η y)->cW v=ab/\(#[if a then L.v else .pointer af,v1]:Array ai).setIfInBounds off v=#[if c then L.v else .pointer af,d]):bD P o η σ .any (σ.set l (.cf (BB T E c d bf xs f))):=by
 intro s p Q S;obtain⟨L,b,ch,r⟩:=BB.row (P:=P) Q Y;have H:=r.ptr (by have:=S x;rwa [hx]at this);obtain⟨I,C⟩:=hd s L b ch (p y) Q r (S y);have q:(p y).cells=#[p y]:=by cases N:p y<;>simp[N,cW,Value.cells]at I⊢
 have A:∀v∈[p y],v.oneCell'=ab:=by intro v H;simp at H;subst H;cases N:p y<;>simp[N,cW,Value.oneCell']at I⊢
 have m:=r.heap _ _ r.ch;have D:=run_storeCells_at P b off T [p y] 0 _ s.w m (by grind) A;have B:((#[if a then L.v else .pointer af,v1]:Array ai).toList.take (off+0)++[p y]++(#[if a then L.v else .pointer af,v1]:Array ai).toList.drop (off+0+[p y].length)).toArray=#[if c then L.v else .pointer af,d]:=by
  rw[<-C]
  match off,ho with
  |0,_=>grind
  |1,_=>grind
 rw[B]at D;have R:(s.w.setRow b #[if c then L.v else .pointer af,d]).heap[b]?=aa (.cells #[if c then L.v else .pointer af,d] T (0,0)):=setRow_heap s.w b _ _ T _ m;have z:∀g,g≠b->(s.w.setRow b #[if c then L.v else .pointer af,d]).heap[g]?=s.w.heap[g]?:=λg n=>setRow_other s.w b g _ n;obtain⟨t1,V⟩:=Q.iD (l:=l) (H':=BB T E c d bf xs f) (L':=L) (w':=s.w.setRow b #[if c then L.v else .pointer af,d]) Y r.β rfl (by rw[setRow_size];grind)
  (λg n hn=>z g (by rintro rfl;exact hn r.mem)) (λg n=>.inl n)
  ⟨λg=>if g=b then aa (.cells #[if c then L.v else .pointer af,d] T (0,0))else ch g,by
   obtain⟨K,Z,q2,q3,q4⟩:=r.bb;have:K=b:=by rw[r.v]at Z;grind
   subst this;have O:∀g,(if g=K then aa (Obj.cells #[if c then L.v else .pointer af,d] T (0,0))else ch g).isSome=ab↔(ch g).isSome=ab:=by grind
   refine⟨K,Z,hc,by simp,?_⟩;grind,λg o' n=>by
   by_cases e:g=b
   .grind
   .simp only[e,bM]at n;rw[z g e];exact r.heap _ _ n,λg=>by
   rw[r.bs g];by_cases e:g=b
   .subst e;simp[r.ch]
   grind⟩ rfl rfl rfl
 have G:s.β.set l L=s.β:=by
  apply gK;intro j;by_cases e:l=j
  .subst e;rw[fQ (b8.1 r.β).1,r.β]
  grind
 rw[G]at t1 V;refine⟨.skip,{s with w:=s.w.setRow b #[if c then L.v else .pointer af,d]},?_,rfl,t1,V,?_⟩
 .simp[ak,h,H,Instr.storeAt,Instr.sureAddr,storeVar,(U t i hi).run_sizeOf,F,q,D]
 .intro W u;have e:ak p o=(do storeVar t ⟨b,off,af⟩ (p y);pure .skip):=by simp[ak,h,H,Instr.storeAt,Instr.sureAddr]
  rw[e]at u;have J:W∈(storeCells ⟨b,off,af⟩ [p y]).events P s.w #[]:=by
   simp only[storeVar,aK,(U t i hi).run_sizeOf,q,F,aP,events_sizeOf,cR,fa,bM,bO,b9,Sem.events_pure,List.size_toArray,e9]at u;generalize(storeCells ⟨b,off,af⟩ [p y]).run P s.w=r at u;cases r with
   |ok v w'=>simpa using u
   |halt x w'=>simpa using u
  rcases eh [p y] 0 _ s.w #[] m (by grind) A W J with LH|⟨j,_,_,rfl⟩
  .grind
  .exact kT (bH r.β) r.mem (r.M _ r.mem _)
def bD.y5(j:c8 P k){i:TI}(h:o.op=.store t x y)(hi:bE k t=aa i)(d:i.size=1)(hl:σ[l]?=aa (.cf (BB T E a v1 bf xs f))){c:ai}(m:η x=.e (.one (.ptr l 1)))(p:η y=.e (.one (.v c)))(n:cW c=ab):bD P o η σ .any (σ.set l (.cf (BB T E a c bf xs f))) :=
 HQ j h hi d hl m (by omega) n λs L b ch v hh r g=>by rw[p]at g;have:=Rd.fj g;grind
def bD.L5(g:c8 P k){i:TI}(h:o.op=.store t x y)(hi:bE k t=aa i)(c:i.size=1)(hl:σ[l]?=aa (.cf (BB T E a v1 bf xs f)))(j:η x=.e (.one (.ptr l 0)))(n:η y=.e (.one (.ptr l 0)))(m:cW v1=ab):bD P o η σ .any (σ.set l (.cf (BB T E ab v1 bf xs f))) :=
 HQ g h hi c hl j (by omega) m λs L b ch v hh r d=>by rw[n]at d;have:=r.ptr d;subst this;refine⟨rfl,?_⟩;rw[<-r.v];rfl
def bD.Pr{T:aw}(h:o.op=.alloc T)(j:∀w,(zeroValue T).run P w=.ok (.agg #[.pointer af,.slice af 0 0]) w)(g:∀w es,(zeroValue T).events P w es=es):bD P o η σ (.e (.one (.ptr σ.length 0))) (σ++[.cf (BB T E ae (.slice af 0 0) af [] 0)]):=by
 intro s r hh hr;let w':=s.w.alloc (.cells #[.pointer af,.slice af 0 0] T);obtain⟨m,g2⟩:=hh.grow (M':=s.M) (w':=w') (by simp[w']) (λb hb=>cM s.w _ hb) (λ_ _ _=>rfl) (λb hb o v hm=>by have:=hh.block hm;omega) rfl rfl rfl;have p:w'.heap.size=s.w.heap.size+1:=by simp[w']
 have i:w'.heap[s.w.heap.size]?=aa (.cells #[.pointer af,.slice af 0 0] T (0,0)):=dF s.w _;obtain⟨n,q⟩:=m.gx g2 rfl hh (B:=.cf (BB T E ae (.slice af 0 0) af [] 0)) (L:=⟨.pointer (aa ⟨s.w.heap.size,0,af⟩),[s.w.heap.size]⟩)
  ⟨λd=>if d=s.w.heap.size then aa (.cells #[.pointer af,.slice af 0 0] T (0,0))else af,⟨s.w.heap.size,rfl,rfl,by simp,rfl,λd=>by by_cases e:d=s.w.heap.size<;>simp[e]⟩,λd l c=>by
   grind,λd=>by by_cases e:d=s.w.heap.size<;>simp[e],λd c l=>by
   simp at c;subst c;show s.M _ _=af;cases hm:s.M s.w.heap.size l with
   |none=>rfl
   |some v=>have:=hh.block hm;omega⟩ (λd c=>by grind)
 refine⟨.value (.pointer (aa ⟨s.w.heap.size,0,af⟩)),_,?_,⟨by simp,⟨.pointer (aa ⟨s.w.heap.size,0,af⟩),[s.w.heap.size]⟩,s.w.heap.size,?_,rfl,rfl⟩,n,q,?_⟩
 .simp[ak,h,Instr.alloc,j,Go.newVar,newRow,Value.cells,w']
 .simp[<-hh.len]
 .simp[ak,h,Instr.alloc,j,g,Go.newVar,newRow];exact .nil
end
section
variable {X:Cx P}{q:List (Nat×TI)}{T:aw}{d:Bool}{v1:ai}{bf:Option (Nat×Nat)}{xs:List UInt8}{k:Nat}
def oH{P:aM}{b o:Nat}{t:aw}{k:Nat×Nat}:∀(vs:List ai)(i:Nat)(a:Array ai)(w:aA)(es:Array Event),w.heap[b]?=aa (.cells a t k)->k.2<=o+i->o+i+vs.length<=a.size->(∀v∈vs,v.oneCell'=ab) ->
  ∀e∈(storeCells ⟨b,o,af⟩ vs i).events P w es,e∈es∨∃j,i<=j/\j<i+vs.length/\e=F0 b (o+j)
 |[],_,_,_,_,_,_,_,_=>λe h=>.inl (by simpa[storeCells]using h)
 |v::rest,i,a,w,es,m,r,x,n=>λe h=>by
  have hi:o+i<a.size:=by grind
  have c:w.cell? ⟨b,o+i,af⟩=aa a[o+i]:=by simp[aV,m,hi]
  have f:w.frozen? ⟨b,o+i,af⟩=ae:=by obtain⟨lo,p⟩:=k;simp only[World.frozen?,m,qQ,b7];grind
  have g:(store (⟨b,o+i,af⟩:Addr) v).run P w=.ok () (w.setRow b (a.setIfInBounds (o+i) v)):=by grind[run_store,setCell_eq_setRow]
  have l:(store (⟨b,o+i,af⟩:Addr) v).events P w es=es.push (F0 b (o+i)):=by rw[events_store P w es _ v _ (n v (by simp)),c];simp only[f,gJ,bM];rfl
  simp only[storeCells,aK,dm,g,l,aP]at h;rcases oH rest (i+1) (a.setIfInBounds (o+i) v) _ _ (setRow_heap _ _ _ _ _ _ m) (by omega) (by grind) (λu s=>n u (by grind)) e h with A|⟨j,y,z,rfl⟩
  .grind
  grind
def uQ.at{L:Loc}{b g cap:Nat}{ch:Nat->Option Obj}(r:uQ P σ s l T E d v1 (aa (g,cap)) xs k L b ch):
  g≠b/\xs.length<=cap/\0<cap/\cap<=9223372036854775807/\k<=xs.length/\(∃a,(qa xs++a).length=cap/\ch g=aa (.cells (qa xs++a).toArray E (0,k)))/\(∀c,(ch c).isSome=ab↔c=b∨c=g)/\g∈L.bs:=by
 obtain⟨i,e,_,_,a1,a2,a3,a4,a5,a6,f⟩:=r.bb;have:i=b:=by rw[r.v]at e;grind
 subst this;obtain⟨a,a6,h⟩:=a6;exact⟨a1,a2,a3,a4,a5,⟨a,a6,h⟩,f,(r.bs g).2 (by grind)⟩
def HR{L:Loc}(h:s.β[l]?=aa L):s.β.set l L=s.β:=by apply gK;grind
def uQ.iD{L:Loc}{b g cap:Nat}{ch:Nat->Option Obj}(hh:aD σ s)(hl:σ[l]?=aa (.cf (BB T E d v1 (aa (g,cap)) xs k)))(r:uQ P σ s l T E d v1 (aa (g,cap)) xs k L b ch){xs':List UInt8}{fz':Nat}{zs':List ai}{w':aA}(f:(qa xs'++zs').length=cap)(m:xs'.length<=cap)(n:fz'<=xs'.length)(u:w'.heap.size=s.w.heap.size)(h:∀a,a≠g->w'.heap[a]?=s.w.heap[a]?)(C:w'.heap[g]?=aa (.cells (qa xs'++zs').toArray E (0,fz')))(ho:w'.os=s.w.os)(j:w'.tape=s.w.tape)(o:w'.output=s.w.output):
  aD (σ.set l (.cf (BB T E d v1 (aa (g,cap)) xs' fz'))) {s with w:=w'}/\Step σ s (σ.set l (.cf (BB T E d v1 (aa (g,cap)) xs' fz'))) {s with w:=w'}:=by
 obtain⟨a1,a2,a3,a4,a5,⟨B,a6,y⟩,x,p⟩:=r.at;obtain⟨t,i⟩:=hh.iD (l:=l) (H':=BB T E d v1 (aa (g,cap)) xs' fz') (L':=L) (w':=w') hl r.β rfl (by omega)
  (λa c A=>h a (by grind)) (λa c=>.inl c)
  ⟨λa=>if a=g then aa (.cells (qa xs'++zs').toArray E (0,fz'))else ch a,⟨b,r.v,r.cell,(show(if b=g then _ else ch b)=_ from(a9 λe=>a1 e.symm).trans r.ch),a1,m,a3,a4,n,⟨zs',f,by simp⟩,λa=>by
   grind⟩,λa z c=>by
   by_cases e:a=g
   .grind
   .simp only[e,bM]at c;rw[h a e];exact r.heap _ _ c,λa=>by
   rw[r.bs a]
   grind⟩ ho j o
 rw[HR r.β]at t i;grind
def bD.L6{J:aw}(ho:o.op=.call {callee:=.builtin .append,args:=#[x,y],argTypes:=#[t,J]}){ie:TypeInfo}(S:P.underlying t=aa (.slice E))(C:P.underlying J=aa .string)(m:P.info? E=aa ie)(B:ie.size=1){g cap:Nat}(hl:σ[l]?=aa (.cf (BB T E d v1 (aa (g,cap)) xs k)))(hx:η x=.e (.one (.v (oE (aa (g,cap)) n))))(hn:xs.length=n){str:List UInt8}(hy:η y=.e (.one (.c (.str str))))(W:n+str.length<=cap):
  bD P o η σ (.e (.one (.v (oE (aa (g,cap)) (n+str.length))))) (σ.set l (.cf (BB T E d v1 (aa (g,cap)) (xs++str) k))):=by
 intro s ρ hh hr;subst hn;obtain⟨L,b,ch,r⟩:=BB.row (P:=P) hh hl;obtain⟨a1,a2,a3,a4,a5,⟨a,a6,a7⟩,a8,A⟩:=r.at;have G:=hr x;rw[hx]at G;have G:=Rd.fj G;have I:=hr y;rw[hy]at I;have I:=fH I;generalize H:ρ y=vy at I;cases I with
 |@str sb _ V Z =>
 have F:sb.size=str.length:=by rw[<-V,iS];rfl
 have K:=r.heap _ _ a7;have U:(qa xs++a).toArray.size=cap:=by grind
 have z:=Lib.run_append_room_stringF (P:=P) s.w t J o.type E ie S C m B g xs.length cap _ _ K a5 sb (by omega) (by grind);have u:((qa xs++a).toArray.toList.take xs.length++Lib.strCells sb++(qa xs++a).toArray.toList.drop (xs.length+sb.size))=qa (xs++str)++a.drop str.length:=by
  have e1:(qa xs++a).take xs.length=qa xs:=by grind[uv]
  have e2:(qa xs++a).drop (xs.length+sb.size)=a.drop str.length:=by rw[List.drop_append,uv,List.drop_eq_nil_of_le (by grind),F];simp
  have e3:Lib.strCells sb=qa str:=by simp[Lib.strCells,qa,V]
  rw[List.toList_toArray,e1,e2,e3,LY]
 rw[u,F]at z;have hlz:a.length=cap-xs.length:=by grind[uv]
 have f:(qa (xs++str)++a.drop str.length).length=cap:=by grind[uv]
 have p:(s.w.setRow g (qa (xs++str)++a.drop str.length).toArray).heap[g]?=aa (.cells (qa (xs++str)++a.drop str.length).toArray E (0,k)):=setRow_heap s.w g _ _ E _ K;obtain⟨t1,O⟩:=r.iD (fz':=k) (w':=s.w.setRow g (qa (xs++str)++a.drop str.length).toArray) hh hl f (by grind) (by grind) (setRow_size _ _ _) (λb' Q=>setRow_other s.w g b' _ Q) p rfl rfl rfl;refine⟨.value (.slice (aa ⟨g,0,af⟩) (xs.length+str.length) cap),_,?_,Rd.val rfl,t1,O,?_⟩
 .rw[db ho,G,H];simp only[bO,cT];have D:(Builtin.append_ #[t,J] o.type #[oE (aa (g,cap)) xs.length,.string sb]).run P s.w=_:=z;rw[D];rfl
 .rw[db ho,G,H];refine ek λe Y=>?_;have hf:=Lib.run_firstCells_string (P:=P) s.w 1 sb;have N:=run_storeCells_atF P g xs.length E (0,k) (Lib.strCells sb) 0 _ s.w K (by grind) (by grind) (Lib.strCells_oneCell sb);have i:xs.length+sb.size<=cap:=by omega
  have R:(Builtin.firstCells 1 sb.size (.string sb)).events P s.w #[]=#[]:=rfl;simp[oE,Builtin.append_,run_underlying S,run_underlying C,sizeOf,typeInfo,m,B,Builtin.lenOf,i,hf,R,dm,N]at Y;rcases oH (Lib.strCells sb) 0 _ s.w _ K (by grind) (by grind) (Lib.strCells_oneCell sb) e Y with h|⟨j,h1,h2,rfl⟩
  .grind
  .exact kT (bH r.β) A (r.M _ A _)
def bD.HS{p:aw}(ho:o.op=.call {callee:=.builtin .append,args:=#[x,y],argTypes:=#[t,p]}){ie:TypeInfo}(m:P.underlying t=aa (.slice E))(i:P.underlying p=aa .string)(b:P.info? E=aa ie)(u:η x=.e (.one (.v (oE af 0))))(z:η y=.e (.one (.c (.str [])))):bD P o η σ (.e (.one (.v (oE af 0)))) σ:=by
 refine .quiet λs r hh hr=>?_;have f:=hr x;rw[u]at f;have f:=Rd.fj f;have g:=hr y;rw[z]at g;have g:=fH g;generalize h:r y=vy at g;cases g with
 |@str sb _ A n =>
 have a:sb.size=0:=by
  have:sb.data.toList.length=0:=by grind
  rw[iS]at this;exact this
 have j:=Lib.run_firstCells_string (P:=P) s.w ie.size sb;rw[a]at j;have l:(Builtin.firstCells ie.size 0 (.string sb)).events P s.w #[]=#[]:=rfl;refine⟨.slice af 0 0,?_,Rd.val rfl,?_⟩
 .rw[db ho,f,h];simp[oE,Builtin.append_,run_underlying m,run_underlying i,sizeOf,typeInfo,b,Builtin.lenOf,a,j]
 .rw[db ho,f,h];simp[oE,Builtin.append_,run_underlying m,run_underlying i,sizeOf,typeInfo,b,Builtin.lenOf,a,j,l]
def So{f:aJ}{fn:Func}{ps:Array aw}(ht:P.underlying t=aa (.slice E))(hf:P.funcs[f]?=aa fn)(C:(fn.name== "runtime.NumGoroutine")=ae)(Z:fn.body.isNone=ab)(O:Extern.findNext fn=af)(J:Extern.find fn=aa (Extern.BytealgMakeNoZero.makeNoZero ps #[t]))(ho:o.op=.call {callee:=.value fo,args:=#[x],argTypes:=jJ})(N:η fo=.e (.one (.c (.fn (.func f) [] []))))(hx:η x=.e (.one (.c (.int .i64 n))))(h0:0<n)(ZC:n<=140737488355328)(hl:σ[l]?=aa (.cf (BB T E d v1 af xs k))):
  ∀s A,aD σ s->(∀y,dk σ s (A y) (η y))->∃(j:{p:Nat×Nat // n<=p.2}) (s':St) (v:ai),(ak A o).run P s.w=.ok (.value v) s'.w/\dk (σ.set l (.cf (BB T E d v1 (aa j.1) [] 0))) s' v (.e (.one (.v (oE (aa j.1) n)))) /\
   aD (σ.set l (.cf (BB T E d v1 (aa j.1) [] 0))) s'/\Step σ s (σ.set l (.cf (BB T E d v1 (aa j.1) [] 0))) s'/\ey s ((ak A o).events P s.w #[]):=by
 intro s A V Y;obtain⟨L,b,ch,r⟩:=BB.row (P:=P) V hl;have G:A fo=.func (.func f) #[] #[]:=by
  have g:=Y fo;rw[N]at g;have g:=fH g;generalize A fo=v at g;cases g with
  |fn fs cs a b f1 f2 c1 c2 d1 d2 =>
   grind
 have D:A x=.int .i64 n:=by have g:=Y x;rw[hx]at g;have g:=fH g;generalize A x=v at g;cases g;rfl
 obtain⟨cs,g,S,K⟩:=Lib.run_makeNoZero (P:=P) s.w ps t E ht n (by omega);have K:=K (by simp only[maxLen];omega);have B:(callFunc f #[.int .i64 n]).run P s.w=.ok (.value (.slice (aa ⟨s.w.heap.size,0,af⟩) n cs.size)) (s.w.drew.drew.alloc (.cells cs E)):=by rw[run_callFunc_extern hf C Z O J,g];rfl
 let w':aA:=s.w.drew.drew.alloc (.cells cs E);have W:w'.heap[s.w.heap.size]?=aa (.cells cs E (0,0)):=dF s.w.drew.drew _;have Ps:w'.heap.size=s.w.heap.size+1:=by show(s.w.drew.drew.heap.push _).size=_;simp
 obtain⟨z,q1,q2,q3,q4⟩:=r.bb;have U:z=b:=by rw[r.v]at q1;grind
 subst U;have F:z<s.w.heap.size:=V.lt L (bH r.β) z r.mem;have H:s.w.heap.size≠z:=by omega
 obtain⟨t1,t2⟩:=V.iD (l:=l) (H':=BB T E d v1 (aa (s.w.heap.size,cs.size)) [] 0) (L':=⟨L.v,[z,s.w.heap.size]⟩) (w':=w') hl r.β rfl (by omega)
  (λu i O=>cM s.w.drew.drew _ i) (λu i=>by
   simp at i;rcases i with rfl|rfl
   .exact .inl r.mem
   grind)
  ⟨λu=>if u=z then aa (.cells #[if d then L.v else .pointer af,v1] T (0,0))else if u=s.w.heap.size then aa (.cells cs E (0,0))else af,⟨z,r.v,r.cell,by simp,H,by simp,by omega,by simp only[maxLen]at K;omega,by simp,⟨cs.toList,by simp[qa],by simp[H,qa]⟩,λu=>by
   grind⟩,λu o' i=>by
   by_cases e:u=z
   .subst e;simp only[b5]at i;have:w'.heap[u]?=s.w.heap[u]?:=cM s.w.drew.drew _ F;rw[this,<-i];exact r.heap _ _ r.ch
   grind,λu=>by grind⟩ rfl rfl rfl
 refine⟨⟨(s.w.heap.size,cs.size),S⟩,_,_,?_,Rd.val rfl,t1,t2,?_⟩
 .simp[ak,ho,resolve,Deferred.ofValue,invoke,G,D,B,w',oE]
 .intro ev Q;simp only[ak,ho,resolve,Deferred.ofValue,invoke,G,D]at Q;have I:ev∈(callFunc f #[.int .i64 n]).events P s.w #[]:=by grind
  have M:fn.name≠ "runtime.NumGoroutine":=by grind
  have R:fn.body=af:=by simpa using Z
  have key:∀es:Array Event,∀e∈(Extern.BytealgMakeNoZero.makeNoZero ps #[t] #[.int .i64 n]).events P s.w es,e∈es∨∃m,e=⟨.mark m,ae,ab⟩/\Go.Conc.Neutral m:=by
   intro es e J;change e∈Sem.events P (underlying _ >>= _) _ _ at J;have g:¬(n:Int)<0:=by omega
   have S:¬(281474976710656:Int)<(n:Int):=by omega
   have Oq:e∈(askRoom (grownCap s.w n 0 E)).events P s.w.drew es:=by simpa[run_underlying ht,g,S,Question.forced,newRow,grownCap]using J
   grind[Go.Conc.events_askRoom]
  have:ev∈(Extern.BytealgMakeNoZero.makeNoZero ps #[t] #[.int .i64 n]).events P s.w ((#[]:Array Event).push ⟨.mark (.extern f),ae,ab⟩):=by have e:callFunc f #[.int .i64 n]=callFunc f #[.int .i64 n]:=rfl;simpa[callFunc,hf,M,R,O,J,g]using I
  rcases key _ _ this with h|⟨m,rfl,hm⟩
  .simp at h;subst h;exact .inr ⟨f,rfl⟩
  .exact .inl hm
def Sp{B G:aw}(ho:o.op=.call {callee:=.builtin .unsafeString,args:=#[x,y],argTypes:=#[B,G]})(hp:P.underlying B=aa (.pointer E))(C:P.cellsOf E=1){g cap:Nat}(hl:σ[l]?=aa (.cf (BB T E d v1 (aa (g,cap)) xs k)))(hx:η x=.e (.one (.v (.pointer (aa ⟨g,0,af⟩)))))(hy:η y=.e (.one (.c (.int .i64 xs.length)))):
  bD P o η σ (.e (.one (.c (.str xs)))) (σ.set l (.cf (BB T E d v1 (aa (g,cap)) xs xs.length))):=by
 intro s I hh hr;obtain⟨L,b,ch,r⟩:=BB.row (P:=P) hh hl;obtain⟨a1,a2,a3,a4,a5,⟨N,a6,a7⟩,a8,Q⟩:=r.at;have z:=hr x;rw[hx]at z;have z:=Rd.fj z;have p:I y=.int .i64 xs.length:=by have D:=hr y;rw[hy]at D;have D:=fH D;generalize I y=v at D;cases D;rfl
 have V:=r.heap _ _ a7;have t:ak I o=(do pure (.value (<-Builtin.unsafeString_ #[B,G] o.type #[I x,I y]))):=by simp[ak,ho,resolve,invoke,builtin]
 have hlen:(qa xs++N).toArray.size=cap:=by grind
 by_cases h0:xs=[]
 .subst h0;have i:=Lib.run_unsafeString_none (P:=P) s.w B G o.type (aa ⟨g,0,af⟩);obtain⟨t1,W⟩:=r.iD (xs':=[]) (fz':=0) (zs':=N) (w':=s.w) hh hl a6 a2 (by simp) rfl (λ_ _=>rfl) (by grind) rfl rfl rfl;refine⟨.value (.string .empty),_,?_,Rd.str rfl (by simp),t1,W,?_⟩
  .rw[t,z,p];simp only[bO,cT];have:(Builtin.unsafeString_ #[B,G] o.type #[.pointer (aa ⟨g,0,af⟩),.int .i64 ([]:List UInt8).length]).run P s.w=_:=i;rw[this];rfl
  .rw[t,z,p];refine ek ?_;change ey s (Sem.events P (asInt (.int .i64 0) >>= _) _ _);simp[asInt,asIntOf,IntKind.max];exact .nil
 .have m:∀j x,xs[j]?=aa x->s.w.cell? ((⟨g,0,af⟩:Addr).add j)=aa (.int .u8 x.toNat):=by
   intro j x M;rw[dm];simp only[aV,V,br];have tM:j<xs.length:=(b8.1 M).1;have:(qa xs)[j]?=aa (.int .u8 x.toNat):=by simp[qa,M]
   grind
  have u:s.w.shape? g=aa (E,cap):=by simp only[World.shape?,V];grind
  have i:=Lib.run_unsafeString_row (P:=P) s.w B G o.type E hp C g cap u xs h0 a2 (by omega) m;have f:xs.length≠0:=by grind
  have ZD:(s.w.freeze ⟨g,0,af⟩ xs.length).heap[g]?=aa (.cells (qa xs++N).toArray E (0,xs.length)):=by simp only[World.freeze,f,bM,yW,b5,V,mv];grind
  obtain⟨t1,W⟩:=r.iD (xs':=xs) (fz':=xs.length) (zs':=N) (w':=s.w.freeze ⟨g,0,af⟩ xs.length) hh hl a6 a2 (aZ _) (by simp[World.freeze,f]) (λb' nZ=>by
   simp only[World.freeze,f,bM,yW]
   grind) ZD (by simp[World.freeze,f]) (by simp[World.freeze,f]) (by simp[World.freeze,f])
  refine⟨.value (.string ⟨xs.toArray⟩),_,?_,Rd.str (by simp) (by omega),t1,W,?_⟩
  .rw[t,z,p];simp only[bO,cT,i];rfl
  .rw[t,z,p];refine ek λe A=>?_;have J:¬(xs.length:Int)<0:=by omega
   have S:¬(9223372036854775807:Int)<(xs.length:Int):=by omega
   have n:=Lib.liesAt_bytes (P:=P) C (cap / P.cellsOf E) xs.length (by grind);have H:IntKind.i64.max=9223372036854775807:=rfl;have O:=Lib.run_loadBytes (P:=P) s.w xs ⟨g,0,af⟩ .empty m;have U:∀(F:List UInt8) (a:Nat) (acc:ByteArray) (es:Array Event),(∀j x,F[j]?=aa x->s.w.cell? ⟨g,a+j,af⟩=aa (.int .u8 x.toNat))->∀e∈(loadBytes ⟨g,a,af⟩ acc F.length).events P s.w es,e∈es∨∃j,e=y3 g j:=by
    intro F;induction F with
    |nil=>intro a acc es _ e A;exact .inl (by simpa[loadBytes]using A)
    |cons y F ih =>
     intro a acc es C e A;have K:=C 0 y rfl;simp only[hI]at K;have Z:(load ⟨g,a,af⟩).run P s.w=.ok (.int .u8 y.toNat) s.w:=by grind[run_load]
     simp only[gb,loadBytes,aK,Z,aP,y6 K,dm]at A;rcases ih (a+1) _ _ (λj x M=>by have:=C (j+1) x (by grind);grind) e A with h|h
     .grind
     grind
   have ZE:(variablesAt ⟨g,0,af⟩ E xs.length).run P s.w=.ok ab s.w:=by simp[variablesAt,u,n]
   have R:∀es,(variablesAt ⟨g,0,af⟩ E xs.length).events P s.w es=es:=λes=>by simp[variablesAt,u,n]
   have Y:e∈(loadBytes ⟨g,0,af⟩ .empty xs.length).events P s.w #[]:=by change e∈Sem.events P (asInt (.int .i64 (xs.length:Int)) >>= _) _ _ at A;simpa[asInt,asIntOf,H,J,S,f,elemOf,run_underlying hp,ZE,R,O]using A
   rcases U xs 0 .empty #[] (λj x M=>by grind[dm]) e Y with h|⟨j,rfl⟩
   .grind
   .exact oF (bH r.β) Q
end
section
variable {X:Cx P}{p:List (Nat×TI)}{T:aw}{g:Bool}{v1:ai}{bf:Option (Nat×Nat)}{xs:List UInt8}{i:Nat}
def bD.exact{r:ai}{d:D}(c:η x=.e (.one (.v v)))(h:∀(a:aC->ai) w,a x=v->(ak a o).run P w=.ok (.value r) w/\(ak a o).events P w #[]=#[])(f:∀σ s,dk σ s r d):bD P o η σ d σ:=by refine .quiet λs a hh hr=>?_;have b:=hr x;rw[c]at b;have b:=Rd.fj b;obtain⟨h1,h2⟩:=h a s.w b;grind
def bD.tN(h:o.op=.call {callee:=.builtin .len,args:=#[x],argTypes:=jJ})(d:jJ[0]?=aa t)(b:P.underlying t=aa (.slice E)){a:Option Addr}{c:Nat}(f:η x=.e (.one (.v (.slice a n c))))(l:n<=9223372036854775807):bD P o η σ (.e (.one (.c (.int .i64 n)))) σ :=
  .exact f (λk w j=>by constructor<;>simp[ak,h,resolve,invoke,builtin,Builtin.len_,j,run_underlying b,goInt,d]) (λ_ _=>Rd.int (by simp only[bw];omega))
def bD.L8(h:o.op=.call {callee:=.builtin .cap,args:=#[x],argTypes:=jJ})(d:jJ[0]?=aa t)(b:P.underlying t=aa (.slice E)){a:Option Addr}{c:Nat}(f:η x=.e (.one (.v (.slice a n c))))(l:c<=9223372036854775807):bD P o η σ (.e (.one (.c (.int .i64 c)))) σ :=
  .exact f (λk w j=>by constructor<;>simp[ak,h,resolve,invoke,builtin,Builtin.cap_,j,run_underlying b,goInt,d]) (λ_ _=>Rd.int (by simp only[bw];omega))
def bD.Sq(h:o.op=.call {callee:=.builtin .unsafeSliceData,args:=#[x],argTypes:=jJ}){c:Nat}(a:η x=.e (.one (.v (.slice af n c)))):bD P o η σ (.e (.one (.v (.pointer af)))) σ :=
  .exact a (λd w b=>by
    have e:Builtin.unsafeSliceData_ jJ o.type #[.slice af n c]=pure (.pointer af):=rfl
    constructor<;>simp[ak,h,resolve,invoke,builtin,b,e]) (λ_ _=>Rd.val rfl)
def bD.Sr(h:o.op=.call {callee:=.builtin .unsafeSliceData,args:=#[x],argTypes:=jJ}){a:Addr}{c:Nat}(b:η x=.e (.one (.v (.slice (aa a) n c))))(f:c≠0):bD P o η σ (.e (.one (.v (.pointer (aa a))))) σ :=
  .exact b (λj w d=>by
    obtain⟨m,rfl⟩:=Nat.exists_eq_succ_of_ne_zero f;have e:Builtin.unsafeSliceData_ jJ o.type #[.slice (aa a) n (m+1)]=pure (.pointer (aa a)):=rfl
    constructor<;>simp[ak,h,resolve,invoke,builtin,d,e]) (λ_ _=>Rd.val rfl)
def bD.Ss(h:o.op=.slice t x af (aa y) af)(l:P.underlying t=aa (.slice E)){ie:TypeInfo}(hi:P.info? E=aa ie){a:Addr}{c:Nat}(z:η x=.e (.one (.v (.slice (aa a) n c))))(B:η y=.e (.one (.c (.int .i64 k))))(u:k<=n)(r:n<=c)(q:c≠0)(A:a.add 0=a):bD P o η σ (.e (.one (.v (.slice (aa a) k c)))) σ:=by
  refine .quiet λs m hh hr=>?_;have d:=hr x;rw[z]at d;have d:=Rd.fj d;have b:m y=.int .i64 k:=by have h1:=hr y;rw[B]at h1;have h1:=fH h1;generalize m y=v at h1;cases h1;rfl
  have hl:((af:Option ai)=af/\(af:Option Int)=af)∨∃k j,(af:Option ai)=aa (.int k j)/\(af:Option Int)=aa j:=.inl ⟨rfl,rfl⟩;have hh:(aa (Value.int .i64 k)=af/\(aa (k:Int))=af)∨∃k' j,aa (Value.int .i64 k)=aa (.int k' j)/\(aa (k:Int))=aa j:=.inr ⟨_,_,rfl,rfl⟩;have ho:au (fE n af (aa (k:Int))):=by simp[fE,u]
  obtain⟨hb,_,_⟩:=nz (P:=P) (isS:=ab) r hl hh ho s.w;have f:=pD (P:=P) (isS:=ab) r hl hh ho s.w;simp only[cq,bL]at hb;refine⟨.slice (aa a) k c,?_,Rd.val rfl,?_⟩
  · simp[ak,h,d,b,Instr.sliceAt,run_underlying l,Instr.slice,hb,sizeOf,typeInfo,hi,q,A]
  · simp[ak,h,d,b,Instr.sliceAt,run_underlying l,Instr.slice,hb,f,sizeOf,typeInfo,hi,q]
def bD.copyV{l:aw}(h:o.op=.call {callee:=.builtin .copy,args:=#[x,y],argTypes:=#[t,l]})(f:P.underlying t=aa (.slice E)){ie:TypeInfo}(hi:P.info? E=aa ie){a:Addr}{c:Nat}(j:η x=.e (.one (.v (.slice (aa a) 0 c))))(k:η y=.e (.one (.v (.slice af 0 0)))):bD P o η σ (.e (.one (.c (.int .i64 0)))) σ:=by
  refine .quiet λs m hh hr=>?_;have b:=hr x;rw[j]at b;have b:=Rd.fj b;have d:=hr y;rw[k]at d;have d:=Rd.fj d;refine⟨.int .i64 0,?_,Rd.int (by simp[bw]),?_⟩<;>
  simp[ak,h,resolve,invoke,builtin,Builtin.copy_,b,d,run_underlying f,sizeOf,typeInfo,hi,Builtin.lenOf,Builtin.firstCells,storeCells,goInt]
def bD.Su{j k:aw}(ho:o.op=.call {callee:=.builtin .unsafeString,args:=#[x,y],argTypes:=#[j,k]})(l:η x=.e (.one (.v (.pointer af))))(m:η y=.e (.one (.c (.int .i64 ((0:Nat):Int))))):bD P o η σ (.e (.one (.c (.str [])))) σ:=by
  refine .ny λs d hh hr=>?_;have f:=hr x;rw[l]at f;have f:=Rd.fj f;have b:d y=.int .i64 0:=by have h1:=hr y;rw[m]at h1;have h1:=fH h1;generalize d y=v at h1;cases h1;rfl
  have h:ak d o=(do pure (.value (<-Builtin.unsafeString_ #[j,k] o.type #[d x,d y]))):=by simp[ak,ho,resolve,invoke,builtin]
  have a:=Lib.run_unsafeString_none (P:=P) s.w j k o.type af;refine⟨.string .empty,?_,Rd.str rfl (by simp),?_⟩
  · rw[h,f,b]
    simp only[bO,cT,a];rfl
  · rw[h,f,b]
    refine ek ?_;change ey s (Sem.events P (asInt (.int .i64 0) >>= _) _ _);simp[asInt,asIntOf,IntKind.max];exact .nil
def bD.ZF(m:σ[l]?=aa (.cf (BB T E g v1 bf xs i))){c dst:aw}(h:o.op=.convert c dst x)(t:P.underlying c=aa (.pointer T))(q:P.underlying dst=aa .unsafePointer){j:TypeInfo}(hj:P.info? T=aa j)(k:j.size≠0)(v:η x=.e (.one (.ptr l 0))):bD P o η σ (.e (.one (.ptr l 0))) σ:=by
  refine .quiet λs u hh hr=>?_;obtain⟨L,b,ch,r⟩:=BB.row (P:=P) hh m;have d:=hr x;rw[v]at d;have n:=r.ptr d;have f:s.w.shape? b=aa (T,2):=by simp[World.shape?,r.heap _ _ r.ch]
  have a:=Lib.run_to_unsafe (P:=P) s.w ⟨b,0,af⟩ t q hj k f (by simp);refine⟨u x,by simp[ak,h,n,a],d,?_⟩;have:(convert c dst (.pointer (aa ⟨b,0,af⟩))).events P s.w #[]=#[]:=by simp[convert,run_underlying t,run_underlying q,Conv.unsafePointer,Conv.seenAt,viewAt,cellsIn,f,sizeOf,typeInfo,hj,k]
  simp[ak,h,n,a,this]
def bD.Sv(m:σ[l]?=aa (.cf (BB T E g v1 bf xs i))){d dst:aw}(h:o.op=.convert d dst x)(u:P.underlying d=aa .unsafePointer)(t:P.underlying dst=aa (.pointer T)){j:TypeInfo}(hj:P.info? T=aa j)(n:j.size≠0)(a:liesAt P P.depth T (2 / P.cellsOf T) 0 T 1=ab)(y:η x=.e (.one (.ptr l 0))):bD P o η σ (.e (.one (.ptr l 0))) σ:=by
  refine .quiet λs v hh hr=>?_;obtain⟨L,b,ch,r⟩:=BB.row (P:=P) hh m;have f:=hr x;rw[y]at f;have q:=r.ptr f;have k:s.w.shape? b=aa (T,2):=by simp[World.shape?,r.heap _ _ r.ch]
  have c:=Lib.run_from_unsafe (P:=P) s.w ⟨b,0,af⟩ u t hj k a;refine⟨v x,by simp[ak,h,q,c],f,?_⟩;have:(convert d dst (.pointer (aa ⟨b,0,af⟩))).events P s.w #[]=#[]:=by simp[convert,run_underlying u,run_underlying t,Conv.unsafePointer,Conv.seenAt,viewAt,variablesAt,k,sizeOf,typeInfo,hj,n,a]
  simp[ak,h,q,c,this]
def bD.Sw{f:aJ}{fn:Func}(t:P.funcs[f]?=aa fn)(j:(fn.name== "runtime.NumGoroutine")=ae)(hb:fn.body.isNone=ab)(u:Extern.findNext fn=af)(r:Extern.find fn=aa Extern.AbiNoEscape.same)(ho:o.op=.call {callee:=.value fo,args:=#[x],argTypes:=jJ})(n:η fo=.e (.one (.c (.fn (.func f) [] [])))){d:D}(z:η x=d):bD P o η σ d σ:=by
  refine .ny λs l hh hr=>?_;have m:l fo=.func (.func f) #[] #[]:=by
    have h1:=hr fo;rw[n]at h1;have h1:=fH h1;generalize l fo=v at h1;cases h1 with
    | fn fs cs a b B y c1 c2 d1 d2 =>
      grind
  have k:(callFunc f #[l x]).run P s.w=.ok (.value (l x)) s.w:=by rw[run_callFunc_extern t j hb u r];rfl
  have q:=ly (P:=P) t j hb u r #[l x] (λ_ _=>rfl) s.w #[];refine⟨l x,?_,by grind,λA h=>?_⟩
  · simp[ak,ho,resolve,Deferred.ofValue,invoke,m,k]
  · simp[ak,ho,resolve,Deferred.ofValue,invoke,m,q]at h
    subst h;exact .inr ⟨_,rfl⟩
end
def sE{α k:Type}{f:α->k}:∀{l:List α},(l.map f).Nodup->∀{a b:α},a∈l->b∈l->f a=f b->a=b
 |[],_,_,_,h,_,_=>by grind
 |x::r,d,a,b,j,i,e=>by
  simp only[jl,List.nodup_cons]at d;rcases dK.1 j with c|c<;>rcases dK.1 i with g|g
  .grind
  .grind
  .grind
  .exact sE d.2 c g e
def jX{B:bd}{r:List bd}(h:B≠.qp)(k:mP r=ab):mP (B::r)=ab:=by cases B<;>first|exact k|grind
section
variable {X:Cx P}
def AK.il{Q a:Post}(h:∀e φ σ,Q e φ σ->a e φ σ):∀{K:List It}{e:Exit}{φ:Fr}{σ:List bd},AK X N Q K e φ σ->AK X N a K e φ σ
 |[],e,φ,σ,q=>h e φ σ q
 |.code c::K,.normal,φ,σ,q=>AW.mono q λ_ _ _ q=>AK.il h q
 |.code c::K,.exit _,φ,σ,q=>AK.il (K:=K) h q
 |.code c::K,.ret,φ,σ,q=>AK.il (K:=K) h q
 |.code c::K,.panic _,φ,σ,q=>AK.il (K:=K) h q
 |.code c::K,.goto _,φ,σ,q=>AK.il (K:=K) h q
 |.code c::K,.outgrown,φ,σ,q=>AK.il (K:=K) h q
 |.blk id::K,.exit HG,φ,σ,q=>by
  simp only[AK]at q⊢;split
  .rename_i e;rw[bn e]at q;exact AK.il (K:=K) h q
  .rename_i e;rw[a9 e]at q;exact AK.il (K:=K) h q
 |.blk id::K,.normal,φ,σ,q=>AK.il (K:=K) h q
 |.blk id::K,.ret,φ,σ,q=>AK.il (K:=K) h q
 |.blk id::K,.panic _,φ,σ,q=>AK.il (K:=K) h q
 |.blk id::K,.goto _,φ,σ,q=>AK.il (K:=K) h q
 |.blk id::K,.outgrown,φ,σ,q=>AK.il (K:=K) h q
 |.ops all rest::K,.normal,φ,σ,q=>jd.mono q λ_ _ q=>AK.il h q
 |.ops all rest::K,.exit _,φ,σ,q=>AK.il (K:=K) h q
 |.ops all rest::K,.ret,φ,σ,q=>AK.il (K:=K) h q
 |.ops all rest::K,.panic _,φ,σ,q=>AK.il (K:=K) h q
 |.ops all rest::K,.goto _,φ,σ,q=>AK.il (K:=K) h q
 |.ops all rest::K,.outgrown,φ,σ,q=>AK.il (K:=K) h q
def AK.IV{id:Nat}{A:Fr->List bd->Prop}{b a c:List It}(h1:ko id b=af)(h2:ko id a=aa c)(k:AK X N Qf c .normal φ σ):
  AK X N (E4 A (AK X N Qf a)) (.code (.exit id)::b) .normal φ σ :=
 AK.il (λe φ' σ' q=>by cases e<;>exact q) (AK.leave (X:=X) (N:=N) (Qr:=Qf) (A:=A) (φ:=φ) (σ:=σ) h1 h2 k)
end
section
variable {X:Cx P}
def AK.lH{fn:Func}{h:Nat}{σ':ι->List bd}(i:ι)(ks:List Nat){cs:List A}{t:Tmp}{b:TI}(m:fn.results.toList=[.cell t ty])(hi:bE T ty=aa b)(p:b.agg=ab)(k:look φ t=.e (.one (.ptr l 0)))(hl:eB l σ=aa (.cells E cs))(a:av cs.length b.size=ab)(d:gZ l ks=ae)(f:CH (.e (.agg cs)) (iE ks (res i))=aa ps)(o:au ps)(g:uV ks.length (res i)=ab)(r:jV ks σ=aa (σ' i))(c:kJ (σ' i)=ab)(q:dX ks=ab)(n:∀j,j<h->ks[j]?=aa j):
  AK X N (λe φ σ1=>∃j,I9 T fn h (res j) (σ' j) e φ σ1) (.code .ret::K) .normal φ σ :=
 AK.ret ⟨i,.inl rfl,ks,l,E,cs,t,ty,b,ps,af,nofun,m,hi,p,bX a,k,cX hl,Bt d,f,o,g,r,c,q,n⟩
def AK.ON{fn:Func}{k:Nat}{σ':ι->List bd}(i:ι)(ks:List Nat){cs:List A}{t u:Tmp}{b:TI}{x:E1}(o:fn.results.toList=[.cell t ty,.tmp u])(hi:bE T ty=aa b)(r:b.agg=ab)(n:look φ t=.e (.one (.ptr l 0)))(m:look φ u=.e x)(hl:eB l σ=aa (.cells E cs))(a:av cs.length b.size=ab)(d:gZ l ks=ae)(f:CH (.fw [.agg cs,x]) (iE ks (res i))=aa ps)(q:au ps)(g:uV ks.length (res i)=ab)(v:jV ks σ=aa (σ' i))(c:kJ (σ' i)=ab)(s:dX ks=ab)(p:∀j,j<k->ks[j]?=aa j):
  AK X N (λe φ σ1=>∃j,I9 T fn k (res j) (σ' j) e φ σ1) (.code .ret::K) .normal φ σ :=
 AK.ret ⟨i,.inl rfl,ks,l,E,cs,t,ty,b,ps,aa (u,x),λ_ h=>by cases h;exact m,o,hi,r,bX a,n,cX hl,Bt d,f,q,g,v,c,s,p⟩
def Ev.vK(g:c8 P T){f:aJ}{fn:Func}{args:List D}{res:D}(d:P.funcs[f]?=aa fn)(b:(fn.name== "runtime.NumGoroutine")=ae)(hb:fn.body=aa c)(a:bu args.length fn.ntmps=ab)(h:Fits args σ->AK X fn.ntmps (λe φ σ1=>∃_:Unit,I9 T fn σ.length res σ' e φ σ1) [.code c] .normal (jb 0 args) σ):Ev X f args σ res σ' :=
 (dL.n7 (ι:=Unit) (σ':=λ_=>σ') (res:=λ_=>res) g d b hb a h).F3
end
section
variable {X:Cx P}
def AK.Tf{x:ι->D}{σ':ι->List bd}(h:oq X N all o φ σ x σ')(g:fD N o.dst=ab)(k:∀i,AK X N Qf (.ops all rest::K) .normal (kg o.dst (x i) φ) (σ' i)):AK X N Qf (.ops all (o::rest)::K) .normal φ σ:=by
  intro s a f hh b kk cs S idx hb iC hQ;cases idx with
  | nil=>exact iC.elim
  | cons j idx =>
  refine h s a f hh b kk cs S j idx hb iC.1 λi v s' h1 h2 h3=>?_;refine k i s' _ ?_ h2 b kk cs S idx hb iC.2 λc σ2 s2 a2 q d e st=>hQ c σ2 s2 a2 q d e (h3.trans st);cases l:o.dst with
  | none=>exact f.mono h3 hh.len
  | some t=>exact(f.mono h3 hh.len).put (gB g t l) h1
def oq.pO[X.ic]{f:aJ}(LU:dL X f cm [] res σ1){EE:List D}(hgd:Bf all φ o=ab)(ho:o.op=.call {callee:=.value fo,args:=xs,argTypes:=jJ})(hf:ei (bJ φ fo)=aa (f,cap))(hl:ju σ (xs.toList.map (bJ φ)++fC cap) EE)(W:tK EE (gD [] cm)=aa ps)(WJ:au ps)(hin:lT 0 cm=ab)(U:∀j,Ma (res j)=ab)(ir:∀j,AR (σ1 j)=ab):oq X N all o φ σ res (λj=>σ++σ1 j):=by
  intro s a Q hh b kx cs S i idx hb hi hQ;have Yt:=cY Q fo;unfold ei at hf;split at hf
  case h_2=>cases hf
  case h_1 f' HK he =>
    cases hf;rw[he]at Yt;have E:=fH Yt;generalize A:a.eval fo=fv at E;cases E with
    | fn fs lS hlf WR f1 f2 h1 h2 r1 r2 =>
      have WT:fs=[]:=jg hlf;subst WT;have Z:cg σ s lS (fC cap):=lq (λj c hj=>⟨f2 j,h2 j (by grind),r2 j c hj⟩) WR;have F:cg σ s (xs.toList.map a.eval++lS) (xs.toList.map (bJ φ)++fC cap):=(nv (cY Q) xs.toList).append Z;generalize RV:xs.toList.map a.eval++lS=vs at F;obtain⟨⟨fn,Ta,IM,R⟩,K⟩:=LU;have vb:∀w,(ak a.eval o).run P w=.ok (.enter f vs.toArray) w:=λw=>by grind[gG]
      have WU:∀w,(ak a.eval o).events P w #[]=#[]:=λw=>(gG ho Ta IM R A w).2;refine .next rfl λm R6=>?_;have hr:=X.hZ R6;have e:=hh.rely hr;have f1':=Q.rely hr hh;have O:cg σ m vs (xs.toList.map (bJ φ)++fC cap):=F.mono hr.stepW.ext hh.len;obtain⟨B,M',hBL,m1,m2,m3,m4,m5⟩:=hl m vs e O;let sc:St:={m with β:=[],M:=M',own:=λb=>m.own b∨∃L∈m.β,b∈L.bs}
      have hhc:aD [] sc:=by
        refine⟨m3,rfl,by simp,by grind,by grind,λb hb=>⟨?_,by grind⟩⟩;rcases hb with hb|⟨L',q,hb⟩
        · exact(e.own b hb).1
        · exact e.lt L' q b hb
      have hg1:eK m sc:=by refine⟨rfl,m1,λb hb o=>m2 b (λI=>by grind) o,m3,λb hb=>?_⟩;grind
      have y:cg [] sc vs cm:=by have a3:=rh W WJ m5;exact(cg.sub (ks:=[]) (σ:=σ) (σ':=[]) (s:={m with M:=M'}) (β':=[]) rfl rfl a3 hin).mono (σ:=[]) (s:={m with β:=[],M:=M'}) (σ':=[]) (s':=sc) ⟨λ_ _ _ h=>h,λl B L I hL=>by grind⟩ rfl
      refine⟨_,m,_,oB hi (II hgd _ _ _ f1') hb (vb m.w),⟨⟨σ,σ,e,e,.refl _ _⟩,ey.seen (by rw[WU];exact .nil)⟩,.ghost hg1 (K sc vs y hhc S _ λj fr v s2 FX lR CF oe=>?_)⟩;refine px (cs:=cs) (c:=b.aT a (.inRegion all.toArray (i::idx)::kx)) CF FX λt Y=>?_;have p:=CF.rely Y;have n:=oe.trans Y.stepW;have J:=lR.mono Y.stepW.ext CF.len
      classical
      let G:Mem:=λb o=>if B b then m.M b o else t.M b o;have r:∀b,(m.own b∨∃L∈m.β,b∈L.bs)->t.own b:=λb hb=>by rw[n.own];exact hb
      have Yu:mz t {t with M:=G}:=by
        refine⟨rfl,rfl,rfl,λb o v A=>?_,λb o v A=>?_⟩
        · grind
        grind
      refine .forget Cx.ic.ok Yu ?_;have Yv:∀b o v,G b o=aa v->t.M b o=aa v:=Yu.less;let s5:St:={t with M:=G,β:=m.β++t.β,own:=m.own}
      have Yw:∀b o v,m.M b o=aa v->G b o=aa v:=λb o v A=>by
        by_cases d:B b
        · grind
        · simp only[G,d,bM];exact n.mem b o v (m1 b o v A)
      have Yx:∀b,b<m.w.heap.size->∀o,G b o=m.M b o:=λb hb o=>by
        by_cases d:B b
        · grind
        · simp only[G,d,bM]
          rw[n.iI b hb (by grind) o];grind
      have V:t.β.length=(σ1 j).length:=p.len;have ex:Ext σ m (σ++σ1 j) s5:=by
        refine⟨Yw,λl B L I hL=>⟨B,L,?_,?_,.refl _ _⟩⟩
        · grind
        grind
      have T:m.w.heap.size<=t.w.heap.size:=n.size;have u:∀(l:Nat) (L':Loc),(m.β++t.β)[l]?=aa L'->(l<m.β.length/\m.β[l]?=aa L')∨(m.β.length<=l/\t.β[l-m.β.length]?=aa L'):=λl L' h=>by grind
      have hh5:aD (σ++σ1 j) s5:=by
        refine⟨λb o v A=>p.mem b o v (Yv b o v A),by simp[s5,e.len,V],?_,?_,?_,?_⟩
        · intro l B L' I q
          rcases u l L' q with⟨tM,h1⟩|⟨R3,h1⟩
          · rw[jh (by rw[<-e.len];exact tM)]at I
            exact(e.box l B L' I h1).carry ex e.len λg d=>⟨n.keep g (.inr ⟨L',bH h1,d⟩),Yx g (e.lt L' (bH h1) g d)⟩
          · rw[fx (by rw[<-e.len];exact R3),<-e.len]at I
            have hbx:=p.box _ B L' I h1;rcases AS (ir j) B (bH I)with⟨H,rfl⟩|rfl
            · obtain⟨ch,c1,c2,c3,c4⟩:=hbx
              refine⟨ch,c1,c2,c3,λg d o=>?_⟩;grind
            · trivial
        · intro l l' L1 L2 hL1 hL2 g z C
          rcases u l L1 hL1 with⟨tM,h1⟩|⟨R3,h1⟩<;>rcases u l' L2 hL2 with⟨aaX,h2⟩|⟨aaY,h2⟩
          · exact e.eU l l' L1 L2 h1 h2 g z C
          · exact absurd C ((p.own g (r g (.inr ⟨L1,bH h1,z⟩))).2 L2 (bH h2))
          · exact absurd z ((p.own g (r g (.inr ⟨L2,bH h2,C⟩))).2 L1 (bH h1))
          · have:=p.eU _ _ L1 L2 h1 h2 g z C;omega
        · intro L' q g d
          rcases fz.1 q with h|h
          · exact cx (e.lt L' h g d) T
          · exact p.lt L' h g d
        · intro g d
          refine⟨cx (e.own g d).1 T,λL' q=>?_⟩;rcases fz.1 q with h|h
          · exact(e.own g d).2 L' h
          · exact(p.own g (r g (.inl d))).2 L' h
      have hg5:eK {t with M:=G} s5:=by refine⟨rfl,λ_ _ _ h=>h,λ_ _ _=>rfl,λb o v A=>p.mem b o v (Yv b o v A),λg d=>?_⟩;grind
      have st5:cN σ m (σ++σ1 j) s5:=by
        refine⟨T,λg d=>n.keep g (.inl d),Yw,λg d _ o=>Yx g d o,λL' q g d=>?_,ex.box,n.os,n.tape,n.output,rfl⟩;rcases fz.1 q with h|h
        · grind
        · rcases n.ur L' h g d with h1|⟨L0,h1,_⟩
          · grind
          grind
      refine .ghost hg5 ?_;have x:=ja (b:=b) (a:=a) (k:=kx) all.toArray i idx v;rw[hi]at x;simp only[mr]at x;rw[x];exact hQ j v s5 (Mb (U j) J) hh5 (hr.stepW.trans st5)
def AK.pO[X.ic]{ι:Type}{fo:aC}{xs:Array aC}{jJ:Array aw}{f:aJ}{cap:List C}{cm:List D}{res:ι->D}{σ1:ι->List bd}(i:dL X f cm [] res σ1){c:List D}(g:Bf all φ o=ab)(ho:o.op=.call {callee:=.value fo,args:=xs,argTypes:=jJ})(k:ei (bJ φ fo)=aa (f,cap))(hl:ju σ (xs.toList.map (bJ φ)++fC cap) c){ps:List Prop}(b:tK c (gD [] cm)=aa ps)(h:au ps)(e:lT 0 cm=ab)(a:∀j,Ma (res j)=ab)(d:∀j,AR (σ1 j)=ab)(l:fD N o.dst=ab)(kk:∀j,AK X N Qf (.ops all rest::K) .normal (kg o.dst (res j) φ) (σ++σ1 j)):AK X N Qf (.ops all (o::rest)::K) .normal φ σ:=.Tf (oq.pO i g ho k hl b h e a d) l kk
def AK.IT[X.ic]{f:aJ}(l:dL X f cm [] res σ1)(m p:Nat){u:ai}(g:Bf all φ o=ab)(ho:o.op=.call {callee:=.value fo,args:=xs,argTypes:=jJ})(q:ei (bJ φ fo)=aa (f,cap))(r:(xs.toList.map (bJ φ)++fC cap)[p]?=aa (.e (.one (.v u))))(hl:ic σ m u k n es)(b:tK ((xs.toList.map (bJ φ)++fC cap).set p (.e (.one (.c (.sl ae k n es))))) (gD [] cm)=aa ps)(i:au ps)(h:lT 0 cm=ab)(a:∀j,Ma (res j)=ab)(d:∀j,AR (σ1 j)=ab)(s:fD N o.dst=ab)(kk:∀j,AK X N Qf (.ops all rest::K) .normal (kg o.dst (res j) φ) (σ++σ1 j)):AK X N Qf (.ops all (o::rest)::K) .normal φ σ :=
  AK.pO l g ho q ((ju.refl _ _).step p m r hl) b i h a d s kk
end
section
variable {X:Cx P}
def oq.P7{x:ι->D}{σ':ι->List bd}(q:o.guard=af)(h:jL P N o φ σ x σ'):oq X N all o φ σ x σ':=by intro s a f hh b k cs S i rest hb hi hK;refine zx hb hi (du q) λp d=>?_;have c:=hh.rely d;obtain⟨j,m,s',v,h1,h2,l,e,g,n⟩:=h p a (f.rely d hh) c;exact⟨m,s',v,h1,h2,⟨⟨σ,σ' j,c,e,g⟩,n⟩,hK j v s' l e (d.stepW.trans (g.n3 c))⟩
def oq.AY{f:aJ}(p:dL X f cm σs res σ1)(ks:List Nat)(z:o.guard=af)(ho:o.op=.call {callee:=.value fo,args:=xs,argTypes:=jJ})(r:ei (bJ φ fo)=aa (f,cap))(h:∀s vs,cg σ s vs (xs.toList.map (bJ φ)++fC cap)->cg σ s vs (gD ks cm))(v:lT ks.length cm=ab)(y:jV ks σ=aa σs)(C:cE σs=ab)(t:∀j,cE (σ1 j)=ab)(B:dX ks=ab)(x:∀j,bu ks.length (σ1 j).length=ab):
  oq X N all o φ σ (λj=>iE (ks++lz σ.length ((σ1 j).length-ks.length)) (res j)) (λj=>eb ks (σ1 j) σ):=by
 intro s a n hh b kk cs S i rest hb hi hK;have m:=cY n fo;unfold ei at r;split at r
 case h_2=>cases r
 case h_1 f' HK he =>
  cases r;rw[he]at m;have e:=fH m;generalize A:a.eval fo=fv at e;cases e with
  |fn fs lS hl CG f1 f2 h1 h2 r1 r2 =>
   have u:fs=[]:=jg hl;subst u;have k:cg σ s lS (fC cap):=lq (λj c hj=>⟨f2 j,h2 j (by grind),r2 j c hj⟩) CG;have l:cg σ s (xs.toList.map a.eval++lS) (gD ks cm):=h s _ ((nv (cY n) xs.toList).append k);obtain⟨fn,q,g,d⟩:=p.1;exact sj hb hi (du z) hh (λw=>(gG ho q g d A w).1) (λw=>(gG ho q g d A w).2) p l v y C t B (λj=>dJ (x j)) hK
def oq.ze{f:aJ}(i:dL X f cm σs res σ1)(ks:List Nat)(e:o.guard=af)(ho:o.op=.call {callee:=.value fo,args:=xs,argTypes:=jJ})(k:ei (bJ φ fo)=aa (f,cap))(a:n5 (xs.toList.map (bJ φ)++fC cap)=gD ks cm)(d:lT ks.length cm=ab)(b:jV ks σ=aa σs)(l:cE σs=ab)(c:∀j,cE (σ1 j)=ab)(m:dX ks=ab)(g:∀j,bu ks.length (σ1 j).length=ab):
  oq X N all o φ σ (λj=>iE (ks++lz σ.length ((σ1 j).length-ks.length)) (res j)) (λj=>eb ks (σ1 j) σ):=.AY i ks e ho k (λ_ _ h=>a▸rq h) d b l c m g
def oq.kW{f:aJ}(k:dL X f cm σs res σ1)(ks:List Nat)(e:o.guard=af)(ho:o.op=.call {callee:=.value fo,args:=xs,argTypes:=jJ})(l:ei (bJ φ fo)=aa (f,cap))(a:tK (xs.toList.map (bJ φ)++fC cap) (gD ks cm)=aa ps)(i:au ps)(d:lT ks.length cm=ab)(b:jV ks σ=aa σs)(m:cE σs=ab)(c:∀j,cE (σ1 j)=ab)(n:dX ks=ab)(g:∀j,bu ks.length (σ1 j).length=ab):
  oq X N all o φ σ (λj=>iE (ks++lz σ.length ((σ1 j).length-ks.length)) (res j)) (λj=>eb ks (σ1 j) σ):=.AY k ks e ho l (λ_ _ h=>rh a i h) d b m c n g
def jL.fresh(h:lr P o x y E ie){k0 m:Nat}{tx:Bool}{es':Nat->List C}(U:ie.size=k)(L:bJ φ x=.e (.one (.c (.sl ab k0 0 es))))(hy:bJ φ y=.e (.one (.c (.sl tx k m es'))))(hm:0<m)(hb:m*ie.bytes<=140737488355328)(hgn:∀i,i<m->∀c∈es' i,tO c=ab):
  jL P N o φ σ (ι:={q:tP×List ai // ig k m es' q.2}) (λq=>.e (.one (.v (se q.1.1 m)))) (λq=>σ++[.cf (iL E k q.1.1 m q.1.2)]):=by
 intro s ρ V hh;obtain⟨t,t2,i,i2,ho,hi,Y,G,D⟩:=h.op;have h1:=cY V x;rw[L]at h1;have n:=Rd.uo (k:=k0) (k':=ie.size) (.inr rfl) (fH h1);have h2:=cY V y;rw[hy]at h2;have h2:=fH h2;obtain⟨a,cap,vs,W,Z,LW,ht,hF,R5⟩:=n.flat;have R:cap=0:=ht rfl;subst R;rw[W]at n;have I:Rd s.M (ρ.eval y) (.sl tx ie.size m es'):=by grind
 obtain⟨d,S,g,f,H,K,z,r⟩:=ia (P:=P) (ty:=o.type) hi Y G D h.elem hh n I (by omega) (by grind) h.bytes;have LU:=iJ (P:=P) (ty:=o.type) hi Y G D h.elem hh n I (by omega) (by grind) h.bytes;have e0:cy 0 es es'=es':=by funext i;simp[cy]
 rw[U,br,e0]at f;rw[U]at z;rw[br]at H r;have J:ig k m es' d:=⟨f.len,f.width,λi hi j c hj=>by
  obtain⟨u,O,T⟩:=f.rd i hi j c hj
  grind[pE]⟩
 have A:∀x∈d,cW x=ab:=λx L=>by
  obtain⟨p,hp,rfl⟩:=dN L;have hk:0<k:=by grind
  have Oo:=f.len;have hi:p / k<m:=pn (by grind);have Q:p / k*k+p % k=p:=pr p k;have hj:p % k<(es' (p / k)).length:=by rw[f.width _ hi];exact jo _ hk
  obtain⟨u,O,T⟩:=J.at' _ hi _ _ (bm hj);rw[Q,bm hp]at O;cases O;exact(T s.M).cell
 let w':aA:=s.w.drew.alloc (.cells (d++S).toArray E);have hB:eH (σ++[.cf (iL E k (.row s.w.heap.size g) m d)]) {s with w:=w',β:=s.β++[⟨.nilFunc,[s.w.heap.size]⟩]} (.cf (iL E k (.row s.w.heap.size g) m d)) ⟨.nilFunc,[s.w.heap.size]⟩:=by
  refine⟨λB=>if B=s.w.heap.size then aa (.cells (d++S).toArray E (0,0))else af,⟨rfl,A,f.len,H,K,S,z,rfl⟩,λB o l=>?_,λB=>?_,λB l o=>?_⟩
  .by_cases e:B=s.w.heap.size
   .subst e;simp only[b5]at l;cases l;exact dF s.w.drew _
   grind
  .by_cases e:B=s.w.heap.size<;>simp[e]
  .simp at l;subst l;cases hm:s.M s.w.heap.size o with
   |none=>rfl
   |some v=>have:=hh.block hm;omega
 have Ps:w'.heap.size=s.w.heap.size+1:=by show(s.w.drew.heap.push _).size=_;simp
 have F:aD σ {s with w:=w'}/\Step σ s σ {s with w:=w'} :=
  hh.grow (by omega) (λb hb=>cM s.w.drew _ hb) (λb hb o=>rfl) (λb hb o v hm=>by have:=hh.block hm;omega) rfl rfl rfl
 obtain⟨g1,g2⟩:=F.1.gx F.2 rfl hh hB (λb hb=>by grind)
 refine⟨⟨(.row s.w.heap.size g,d),J⟩,.value (.slice (aa ⟨s.w.heap.size,0,af⟩) m g),_,_,?_,.inl rfl,Rd.val rfl,g1,g2,?_⟩
 .rw[db ho,W];simp[r];rfl
 grind[db,ek]
def AK.fresh{x y:aC}{E:aw}{ie:TI}(h:lr P o x y E ie){d k m:Nat}{tx:Bool}{es es':Nat->List C}(g:ie.size=k)(b:bJ φ x=.e (.one (.c (.sl ab d 0 es))))(j:bJ φ y=.e (.one (.c (.sl tx k m es'))))(hm:0<m)(hb:m*ie.bytes<=140737488355328)(a:∀i,i<m->∀c∈es' i,tO c=ab)(l:o.guard=af)(f:fD N o.dst=ab)(kk:∀q:{q:tP×List ai // ig k m es' q.2},AK X N Qf (.ops all rest::K) .normal (kg o.dst (.e (.one (.v (se q.1.1 m)))) φ) (σ++[.cf (iL E k q.1.1 m q.1.2)])):AK X N Qf (.ops all (o::rest)::K) .normal φ σ :=
 AK.hand _ _ l f (jL.fresh h g b j hm hb a) kk
def AK.spare(E:aw)(k:Nat)(kk:AK X N Qf (.code c::K) .normal φ (σ++[.cf (iL E k (.nil af) 0 [])])):AK X N Qf (.code c::K) .normal φ σ:=by refine AK.ghost (λs a b hh=>?_) kk;obtain⟨d,g2⟩:=hh.gx (B:=.cf (iL E k (.nil af) 0 [])) (L:=⟨.nilFunc,[]⟩) (.refl _ _) rfl hh ⟨λ_=>af,⟨rfl,by simp,by simp,rfl,rfl⟩,by simp,by simp,by simp⟩ (by simp);exact⟨{s with β:=s.β++[⟨.nilFunc,[]⟩]},rfl,⟨b.size,b.defers.imp λ_ h1=>h1.mono g2.ext,λu=>(b.slot u).mono g2.ext hh.len⟩,d,g2⟩
end
def uX(l k n:Nat)(es:Nat->List C):A->A×List Prop
 |.bp l' (.sl g k' o m)=>match av l' l with
  |true=>match av k' k with
   |true=>(.c (.sl ae k m (sk o es)),[g=n,o+m<=n])
   |false=>(.bp l' (.sl g k' o m),[])
  |false=>(.bp l' (.sl g k' o m),[])
 |a=>(a,[])
def nD(l k n:Nat)(es:Nat->List C):List A->List A×List Prop
 |[]=>([],[])
 |a::r=>match uX l k n es a with
  |(a',p)=>match nD l k n es r with
   |(r',q)=>(a'::r',iF p q)
def C1(l k n:Nat)(es:Nat->List C):E1->E1×List Prop
 |.one a=>match uX l k n es a with|(a',p)=>(.one a',p)
 |.agg cs=>match nD l k n es cs with|(b,p)=>(.agg b,p)
def C2(l k n:Nat)(es:Nat->List C):D->D×List Prop
 |.e x=>match C1 l k n es x with|(a,p)=>(.e a,p)
 |d=>(d,[])
def uY(l k n:Nat)(es:Nat->List C):Fr->Fr×List Prop
 |[]=>([],[])
 |(t,d)::r=>match C2 l k n es d with
  |(a,p)=>match uY l k n es r with
   |(r',q)=>((t,a)::r',iF p q)
def gy(l k n:Nat)(es:Nat->List C):Nat->List bd->List bd×List Prop
 |_,[]=>([],[])
 |i,b::r=>match gy l k n es (i+1) r with
  |(r',q)=>match av i l with
   |true=>(.dead::r',q)
   |false=>match b with
    |.cells E cs=>match nD l k n es cs with|(a,p)=>(.cells E a::r',iF p q)
    |b=>(b::r',q)
section
variable {s2:St}{E:Nat}
structure iP(σ:List bd)(s:St)(l k n:Nat)(es:Nat->List C)(σ':List bd)(s2:St):Prop where
 keep:∀v a,gd σ s v a->gd σ' s2 v a
 H4:∀v k' o m,gd σ s v (.bp l (.sl n k' o m))->k'=k->o+m<=n->Rd s2.M v (.sl ae k m (sk o es))
def iP.a(h:iP σ s l k n es σ' s2){v:ai}{a:A}(b:au (uX l k n es a).2)(r:gd σ s v a):gd σ' s2 v (uX l k n es a).1:=by
 unfold uX at b⊢;split
 .rename_i l' g k' o m;split
  .rename_i e1;split
   .rename_i e2;simp only[e1,e2]at b;have e1:=bX e1;have e2:=bX e2;subst e1;obtain⟨rfl,h2⟩:g=n/\o+m<=n:=b;exact h.H4 v _ _ _ r e2 h2
   .exact h.keep v _ r
  .exact h.keep v _ r
 .exact h.keep v _ r
def iP.ls(h:iP σ s l k n es σ' s2):∀{vs:List ai}{cs:List A},au (nD l k n es cs).2->dZ σ s vs cs->dZ σ' s2 vs (nD l k n es cs).1
 |[],[],_,_=>trivial
 |[],_::_,_,r=>r.elim
 |_::_,[],_,r=>r.elim
 |v::vs,c::cs,b,r=>by simp only[nD]at b⊢;rw[au.cat]at b;exact⟨h.a b.1 r.1,h.ls b.2 r.2⟩
def iP.e(h:iP σ s l k n es σ' s2){x:E1}(b:au (C1 l k n es x).2)(r:nh σ s v x):nh σ' s2 v (C1 l k n es x).1:=by
 cases x with
 |one a=>exact h.a b r
 |agg cs=>obtain⟨vs,c,d⟩:=r;exact⟨vs,c,h.ls b d⟩
def iP.d(h:iP σ s l k n es σ' s2)(hl:s.β.length=σ.length)(a:Ext σ s σ' s2){v:ai}{d:D}(b:au (C2 l k n es d).2)(r:dk σ s v d):dk σ' s2 v (C2 l k n es d).1:=by
 cases d with
 |e x=>exact h.e b r
 |fw xs=>exact r.mono a hl
 |any=>trivial
def iP.f(h:iP σ s l k n es σ' s2)(hl:s.β.length=σ.length)(c:Ext σ s σ' s2):∀{φ:Fr}{t:Nat}{v:ai},au (uY l k n es φ).2->dk σ s v (look φ t)->dk σ' s2 v (look (uY l k n es φ).1 t)
 |[],_,_,_,_=>trivial
 |(u,d)::r,t,v,b,a=>by
  simp only[uY]at b⊢;rw[au.cat]at b;simp only[look]at a⊢;cases hb:av u t with
  |true=>rw[hb]at a;exact h.d hl c b.1 a
  |false=>rw[hb]at a;exact h.f hl c b.2 a
theorem qw:∀{σ:List bd}{i j:Nat},(gy l k n es i σ).1[j]?=match σ[j]? with
  |none=>af
  |some b=>aa (match av (i+j) l with|true=>.dead|false=>match b with|.cells E cs=>.cells E (nD l k n es cs).1|b=>b)
 |[],i,j=>by simp[gy]
 |b::r,i,0=>by simp only[gy,hI,kC];grind
 |b::r,i,j+1=>by
  have a:=qw (σ:=r) (i:=i+1) (j:=j);have e:i+1+j=i+(j+1):=by omega
  rw[e]at a;simp only[gy,nj];grind
def uZ:∀{σ:List bd}{i j:Nat}{E:aw}{cs:List A},au (gy l k n es i σ).2->σ[j]?=aa (.cells E cs)->i+j≠l->au (nD l k n es cs).2
 |[],i,j,_,_,_,a,_=>by grind
 |b::r,i,0,E,cs,d,a,c=>by simp at a;subst a;simp only[gy]at d;grind[Nat.eq_of_beq_eq_true,au.cat]
 |b::r,i,j+1,E,cs,d,a,c=>by simp at a;refine uZ (σ:=r) (i:=i+1) (j:=j) ?_ a (by omega);simp only[gy]at d;grind[au.cat]
theorem qx:∀{σ:List bd}{i:Nat},(gy l k n es i σ).1.length=σ.length
 |[],_=>rfl
 |b::r,i=>by simp only[gy];have a:=qx (σ:=r) (i:=i+1);grind
def aD.ru(hh:aD σ s)(O:σ[l]?=aa (.buf E k n es))(hq:au (gy l k n es 0 σ).2):
  ∃s2:St,s2.w=s.w/\aD (gy l k n es 0 σ).1 s2/\Step σ s (gy l k n es 0 σ).1 s2/\iP σ s l k n es (gy l k n es 0 σ).1 s2:=by
 have H:l<σ.length:=(b8.1 O).1;have Q:s.β[l]?=aa (s.β[l]'(by rw[hh.len];exact H)):=bm _;generalize s.β[l]'(by grind)=L at Q;have I:=hh.box _ _ L O Q;obtain⟨M',m1,m2,m3,m4⟩:∃M':Mem,(∀b o v,s.M b o=aa v->M' b o=aa v)/\(∀b,b∉L.bs->∀o,M' b o=s.M b o)/\(∀b o v,M' b o=aa v->s.w.cell? ⟨b,o,af⟩=aa v) /\
   (∀v k' o m,gd σ s v (.bp l (.sl n k' o m))->k'=k->o+m<=n->Rd M' v (.sl ae k m (sk o es))):=by
  rcases I with⟨rfl,rfl⟩|⟨b,c0,vs,zs,rfl,hw,CQ,XY,LW,W,hM⟩
  .refine⟨s.M,λ_ _ _ h=>h,λ_ _ _=>rfl,hh.mem,λv k' o m r e z=>?_⟩;obtain⟨lv,⟨a,a0,cap,c0,y,h1,h2,F,K,R⟩,_,Y⟩:=r;grind[Rd.jr]
  .let M':Mem:=λq o=>if q=b then vs[o]? else s.M q o;have Z:∀q o v,s.M q o=aa v->M' q o=aa v:=λq o v y=>by grind
   refine⟨M',Z,λq nZ o=>?_,λq o v y=>?_,λv k' o m r e z=>?_⟩
   .grind
   .by_cases e:q=b
    .subst e;simp only[M',b5]at y;simp only[aV,hw];grind
    .simp only[M',e,bM]at y;exact hh.mem q o v y
   .subst e;obtain⟨lv,⟨a,a0,cap,c1,y,h1,h2,F,K,R⟩,_,Y⟩:=r;obtain⟨L',f,G⟩:=(Y _ _ _ _ O).2 rfl;rw[Q]at f;cases f;rw[K]at G;cases G;rw[y];have g:∀i,i<m->∀j c,(sk o es i)[j]?=aa c->∃u,vs[(o+i)*k'+j]?=aa u/\Rd s.M u c:=λi hi j c hj=>by rw[ux]at hj;exact W.rd (o+i) (by omega) j c hj
    refine .sl b (o*k') (λi j=>(vs[(o+i)*k'+j]?).getD ah) h1 (by omega) (by simp) (λi hi=>by rw[ux];exact W.width _ (by omega)) (λhm=>?_) (λi hi j c hj=>?_) (λi hi j c hj=>?_)
    .grind
    .grind
    .obtain⟨u,u1,u2⟩:=g i hi j c hj;rw[u1];exact u2.mono Z
 obtain⟨C,q2⟩:=hh.hX (M':=M') (w':=s.w) (B':=.dead) (L':=⟨L.v,[]⟩) O Q ar (aZ _) (λ_ _ _=>rfl) (λb _ hb o=>m2 b hb o) m1 m3 (by simp) rfl rfl rfl ar;let s2:St:=⟨s.β.set l ⟨L.v,[]⟩,M',s.w,s.own⟩
 have g:∀i B,σ[i]?=aa B->i≠l->(gy l k n es 0 σ).1[i]?=aa (match B with|.cells E cs=>.cells E (nD l k n es cs).1|b=>b):=λi B hi AE=>by grind[qw,Nat.eq_of_beq_eq_true]
 have J:(gy l k n es 0 σ).1[l]?=aa .dead:=by
  rw[qw,O];have:av (0+l) l=ab:=by rw[br];exact jm l
  grind
 have u4:Step (σ.set l .dead) s2 (gy l k n es 0 σ).1 s2:=by
  refine⟨aZ _,λ_ _ _=>rfl,λ_ _ _ h=>h,λ_ _ _ _=>rfl,λL' f b hb=>.inr ⟨L',f,hb⟩,λi B L' hi f=>?_,rfl,rfl,rfl,rfl⟩;by_cases e:i=l
  .subst e;rw[fQ H]at hi;cases hi;exact⟨.dead,L',J,f,rfl⟩
  .rw[kF (λh=>e h.symm)]at hi;refine⟨_,L',g i B hi e,f,?_⟩;cases B<;>first|exact hU.refl _ _|rfl
 have st:=q2.trans u4;have V:iP σ s l k n es (gy l k n es 0 σ).1 s2:=⟨λv a r=>r.mono st.ext hh.len,λv k' o m r e z=>m4 v k' o m r e z⟩
 refine⟨s2,rfl,⟨C.mem,by rw[qx,<-hh.len];grind,λi B L' hi f=>?_,C.eU,C.lt,C.own⟩,st,V⟩;by_cases e:i=l
 .subst e;rw[J]at hi;cases hi;trivial
 .have A:i<σ.length:=by grind[qx]
  have x:=bm A;have T:s.β[i]?=aa L':=by grind
  have U:=hh.box i _ L' x T;have p:=C.box i _ L' (by rw[kF (λh=>e h.symm)];exact x) f;have d:=g i _ x e;rw[hi]at d;have d:=qZ d;generalize hBe:σ[i]=B0 at *;cases B0 with
  |cells E0 cs =>
   subst d;obtain⟨b,vs,h1,h2,F,R⟩:=U;obtain⟨q,VT,D,VU,_,S⟩:=p;rw[h1]at D;cases D;exact⟨b,vs,h1,h2,V.ls (uZ hq x (by omega)) F,S⟩
  |vec=>subst d;exact p
  |cf=>subst d;exact p
  |dead=>subst d;trivial
  |loop N φ r =>
   subst d;obtain⟨l1,tmps,fn,df,h1,h2,F,R,h5⟩:=p;exact⟨l1,tmps,fn,df,h1,h2,F,λt=>(R t).mono u4.ext C.len,h5⟩
  |qp=>subst d;exact p
  |buf=>subst d;exact p
end
section
variable {X:Cx P}{φ':Fr}
def AK.ru(l:Nat){E k n:Nat}{es:Nat->List C}{ps qs:List Prop}(hl:eB l σ=aa (.buf E k n es))(i:uY l k n es φ=(φ',ps))(d:gy l k n es 0 σ=(σ',qs))(m:au ps)(j:au qs)(kk:AK X N Qf (.code c::K) .normal φ' σ'):AK X N Qf (.code c::K) .normal φ σ:=by refine AK.ghost (λs a e hh=>?_) kk;obtain⟨s2,h1,h2,b,g⟩:=hh.ru (cX hl) (by grind);rw[d]at h2 b g;refine⟨s2,h1,⟨e.size,e.defers.imp λ_ h=>h.mono b.ext,λt=>?_⟩,h2,b⟩;have:=g.f hh.len b.ext (φ:=φ) (t:=t) (by grind) (e.slot t);grind
end
def fG(a:Nat->Option Obj):Mem:=λb o=>match a b with
 |some (.cells cs _ _)=>cs[o]?
 |_=>af
def PM(K:Mem->Prop):ai->(Nat->Option Obj)->Prop:=λu a=>u=.nilFunc/\(∀b o,a b=aa o->∃cs E,o=.cells cs E (0,0))/\K (fG a)
section
variable {X:Cx P}{d:List It}
def AK.merge(i j:Nat){H1 H2:ai->(Nat->Option Obj)->Prop}(K:i≠j)(hi:σ[i]?=aa (.cf H1))(hj:σ[j]?=aa (.cf H2))(h1:∀v ch,H1 v ch->v=.nilFunc)(h:∀v f v2 k,H1 v f->H2 v2 k->(∀b,(f b).isSome=ab->(k b).isSome=ab->False)->H .nilFunc λb=>(f b).or (k b))(kk:AK X N Qf (.code c::d) .normal φ ((σ.set i (.cf H)).set j .dead)):AK X N Qf (.code c::d) .normal φ σ:=by
 refine AK.ghost (λs a S hh=>?_) kk;have V:i<σ.length:=(b8.1 hi).1;have W:j<σ.length:=(b8.1 hj).1;have I:i<s.β.length:=by rw[hh.len];grind
 have F:j<s.β.length:=by rw[hh.len];grind
 obtain⟨z,m⟩:∃L,s.β[i]?=aa L:=⟨_,bm I⟩;obtain⟨p,n⟩:∃L,s.β[j]?=aa L:=⟨_,bm F⟩;have Y:=hh.box i _ z hi m;have Z:=hh.box j _ p hj n;have vi:z.v=.nilFunc:=by obtain⟨ch,hH,_⟩:=Y;grind
 let s':St:={s with β:=(s.β.set i ⟨.nilFunc,z.bs++p.bs⟩).set j ⟨p.v,[]⟩}
 have G:∀l,((σ.set i (.cf H)).set j .dead)[l]?=if l=j then aa .dead else if l=i then aa (.cf H)else σ[l]?:=λl=>by grind
 have C:∀l,s'.β[l]?=if l=j then aa ⟨p.v,[]⟩else if l=i then aa ⟨.nilFunc,z.bs++p.bs⟩else s.β[l]?:=λl=>by grind
 have mi:=bH m;have mj:=bH n;have M:∀L∈s'.β,∀b∈L.bs,∃y∈s.β,b∈y.bs:=λL g b hb=>by grind
 have ex:Ext σ s ((σ.set i (.cf H)).set j .dead) s':=by
  refine⟨λ_ _ _ h=>h,λl B L r g=>?_⟩;rw[G,C];by_cases e:l=j
  .subst e;rw[hj]at r;cases r;rw[n]at g;cases g;exact⟨.dead,⟨p.v,[]⟩,by simp,by simp,rfl⟩
  .by_cases E:l=i
   .subst E;rw[hi]at r;cases r;rw[m]at g;cases g;exact⟨.cf H,⟨.nilFunc,z.bs++p.bs⟩,by simp[e],by simp[e],vi.symm⟩
   .exact⟨B,L,by grind,by grind,.refl _ _⟩
 have st:Step σ s ((σ.set i (.cf H)).set j .dead) s' :=
  ⟨aZ _,λ_ _ _=>rfl,λ_ _ _ h=>h,λ_ _ _ _=>rfl,λL h b hb=>.inr (M L h b hb),ex.box,rfl,rfl,rfl,rfl⟩
 obtain⟨f,a1,a2,a3,a4⟩:=Y;obtain⟨k,b1,b2,b3,b4⟩:=Z;have U:∀b,(f b).isSome=ab->(k b).isSome=ab->False:=λb J q2=>K (hh.eU i j z p m n b ((a3 b).2 J) ((b3 b).2 q2));refine⟨s',rfl,⟨S.size,S.defers.imp λ_ h1=>h1.mono ex,λu=>(S.slot u).mono ex hh.len⟩,⟨hh.mem,by simp[s',hh.len],?_,?_,λL g b hb=>?_,λb hb=>⟨(hh.own b hb).1,λL g O=>?_⟩⟩,st⟩
 .intro l B L r g;rw[G]at r;rw[C]at g;split at r
  .cases r;trivial
  .rename_i e;rw[a9 e]at g;split at r
   .rename_i E;rw[bn E]at g;cases r;cases g;refine⟨λb=>(f b).or (k b),h _ f _ k a1 b1 U,λb o hb=>?_,λb=>?_,λb hb o=>?_⟩
    .cases h1:f b with
     |some x=>grind
     |none=>grind
    .grind
    grind
   .rename_i E;rw[a9 E]at g;exact(hh.box l B L r g).carry ex hh.len λb hb=>⟨rfl,λ_=>rfl⟩
 .intro l l' L1 L2 J q2 b hb nZ;rw[C]at J q2;have key:∀l L,(if l=j then aa (⟨p.v,[]⟩:Loc)else if l=i then aa ⟨.nilFunc,z.bs++p.bs⟩else s.β[l]?)=aa L->b∈L.bs->(l=i/\(b∈z.bs∨b∈p.bs))∨(l≠i/\l≠j/\∃y,s.β[l]?=aa y/\b∈y.bs):=λl L q hb=>by
   split at q
   .grind
   .split at q
    .grind
    grind
  rcases key l L1 J hb with⟨e1,t⟩|⟨n1,T,L3,t,A⟩<;>rcases key l' L2 q2 nZ with⟨e2,w⟩|⟨n2,R,L4,w,D⟩
  .grind
  .rcases t with t|t
   .exact absurd (hh.eU _ _ _ _ m w b t D).symm n2
   .exact absurd (hh.eU _ _ _ _ n w b t D).symm R
  .rcases w with w|w
   .exact absurd (hh.eU _ _ _ _ m t b w A).symm n1
   .exact absurd (hh.eU _ _ _ _ n t b w A).symm T
  .exact hh.eU _ _ _ _ t w b A D
 .obtain⟨y,Q,h1⟩:=M L g b hb;exact hh.lt y Q b h1
 .obtain⟨y,Q,h1⟩:=M L g b O;exact(hh.own b hb).2 y Q h1
def vI(M M':Mem):Prop:=∀b o v,M b o=aa v->M' b o=aa v
def PM.add{K s:Mem->Prop}{bf:tP}{xs:List ai}(q:∀M M',vI M M'->K M->(∀b cap,bf=.row b cap->∀j v,xs[j]?=aa v->M' b j=aa v)->s M'):
  ∀v c t f,PM K v c->iL E k bf n xs t f->(∀b,(c b).isSome=ab->(f b).isSome=ab->False)->PM s .nilFunc λb=>(c b).or (f b):=by
 rintro v c t f ⟨_,h2,i⟩ r y;have g:vI (fG c) (fG λb=>(c b).or (f b)):=λb o v l=>by
  cases h:c b with
  |none=>simp[fG,h]at l
  |some x=>simpa[fG,h]using l
 cases bf with
 |nil a =>
  obtain⟨_,_,_,_,rfl⟩:=r;exact⟨rfl,λb o hb=>h2 b o (by grind),q _ _ g i λb cap e=>by cases e⟩
 |row b cap =>
  obtain⟨_,q2,q3,q4,z,A,w,rfl⟩:=r;refine⟨rfl,λp o hb=>?_,q _ _ g i λp m e j v hj=>?_⟩
  .cases h:c p with
   |some x=>grind
   |none =>
    grind
  .cases e;have u:c b=af:=by
    cases h:c b with
    |none=>rfl
    |some x=>grind
   have hl:j<xs.length:=(b8.1 hj).1;simp only[fG,u,Option.none_or,b5];grind
def PM.start{xs:List ai}{a:Option Addr}{K:Mem->Prop}(c:∀M,K M):∀v ch,iL E k (.nil a) n xs v ch->PM K v ch:=by rintro v ch ⟨h1,_,_,_,rfl⟩;exact⟨h1,λb o hb=>by grind,c _⟩
def PM.EF{c:Nat}{K:Mem->Prop}{u:ai}(hl:σ[c]?=aa (.cf (PM K)))(l:∀M,K M->Rd M u (.sl ae k n es)):ic σ c u k n es:=by
 intro s hh;have e:c<s.β.length:=by rw[hh.len];grind
 have g:=bm e;generalize s.β[c]=L at g;obtain⟨ch,⟨h1,h2,i⟩,j,p,m⟩:=hh.box c _ L hl g;have f:∀b o v,fG ch b o=aa v->b∈L.bs/\s.w.cell? ⟨b,o,af⟩=aa v:=λb o v a=>by
  cases h:ch b with
  |none=>simp[fG,h]at a
  |some x =>
   obtain⟨cs,E,rfl⟩:=h2 b x h;have q:=j b _ h;simp only[fG,h]at a;exact⟨(p b).2 (by simp[h]),by simpa[aV,q]using a⟩
 refine⟨L,λb o=>(s.M b o).or (fG ch b o),g,λb o v a=>by grind,λb hb o=>?_,λb o v a=>?_,m,(l _ i).mono λb o v a=>?_⟩
 .cases h:fG ch b o with
  |none=>simp[h]
  |some v=>grind
 .cases h:s.M b o with
  |some v'=>simp only[h,Option.some_or]at a;cases a;exact hh.mem b o v h
  |none=>grind
 grind
def iL.Tj{bf:tP}{xs:List ai}(hl:σ[l]?=aa (.cf (iL E k bf n xs)))(h:0<n)(s:St)(hh:aD σ s):∃b cap,bf=.row b cap/\n<=cap/\cap<=9223372036854775807:=by
 have c:l<s.β.length:=by rw[hh.len];grind
 obtain⟨ch,e,_⟩:=hh.box l _ _ hl (bm c);cases bf with
 |nil a=>obtain⟨_,_,_,f,_⟩:=e;omega
 |row b cap=>obtain⟨_,_,_,f,g,_⟩:=e;grind
end
section
variable {X:Cx P}
def dL.AG{f:aJ}{args:List D}{a b:C}{ok:Bool}{es:ι->Nat->List C}{K:ι->Mem->Prop}(es':Nat->List C)(h:dL X f args [] (λ_=>.fw [.agg [.bp 0 (.sl n k 0 n),.c a,.c b],.one (.c (.bool ok))]) (λi=>[.buf E k n (es i),.cf (PM (K i))]))(hK:∀i M M',vI M M'->K i M->K i M')(u:∀i M,K i M->∀j,j<n->(es' j).length=k/\∀(p:Nat) (c:C),(es' j)[p]?=aa c->∃T,(es i j)[p]?=aa T/\∀v M0,Rd M0 v T->Rd M v c):
  dL (ι:=ai) X f args [] (λv=>.fw [.agg [.c (.val v),.c a,.c b],.one (.c (.bool ok))]) (λv=>[.dead,.cf (PM λM=>Rd M v (.sl ae k n es'))]):=by
 refine⟨h.1,λs vs hr hh S cs hS=>h.2 s vs hr hh S cs λi fr v s' hl lR jf st=>?_⟩;have hlen:s'.β.length=2:=jf.len;obtain⟨t,L1,N⟩:∃t L1,s'.β=[t,L1]:=by
  match hq:s'.β with
  |[A,B]=>grind
  |[]=>grind
  |[_]=>grind
  |_::_::_::_=>grind
 have O:s'.β[0]?=aa t:=by grind
 have g1:s'.β[1]?=aa L1:=by grind
 obtain⟨ch,⟨p1,p2,p3⟩,p4,p5,p6⟩:=jf.box 1 _ L1 rfl g1;have b0:=jf.box 0 _ t rfl O;obtain⟨ws,rfl,hw⟩:=lR
 match ws,hw with
 |[w0,w1],⟨F,G,_⟩ =>
 obtain⟨us,rfl,V⟩:=F
 match us,V with
 |[u0,u1,u2],⟨Z,H,hu2,_⟩ =>
 obtain⟨lv,⟨a',a0,cap,T,rfl,k1,k2,k3,k4,k5⟩,_,U⟩:=Z;obtain⟨_,U⟩:=U E k n (es i) rfl;obtain⟨L0',e0,e1⟩:=U rfl;rw[O]at e0;cases e0;rw[k4]at e1;have aa7:∀x,x∈t.bs->x∈L1.bs->False:=λx h1 h2=>absurd (jf.eU 0 1 t L1 O g1 x h1 h2) (by decide);obtain⟨m,q1,q2,q3,q4⟩:∃m:Nat->Option Obj,(∀x o,m x=aa o->s'.w.heap[x]?=aa o/\∃cs E,o=.cells cs E (0,0))/\(∀x,x∈t.bs↔(m x).isSome=ab)/\(∀x∈t.bs,∀o,s'.M x o=af) /\
   (∀d,(∀x,(m x).isSome=ab->d x=m x)->K i (fG d)->Rd (fG d) (.slice a' n cap) (.sl ae k n es')):=by
  rcases b0 with⟨rfl,rfl⟩|⟨bb,c1,xs,zs,rfl,z1,z2,z3,z4,z5,z6⟩
  .exact⟨λ_=>af,by simp,by simp,by simp,λd _ _=>.sl 0 0 (λ_ _=>ah) k1 (by omega) (λh=>by cases h) (λi hi=>by omega) (λh=>by omega) (λi hi=>by omega) λi hi=>by omega⟩
  .cases e1;refine⟨λx=>if x=bb then aa (.cells (xs++zs).toArray E (0,0))else af,λx o g=>?_,λx=>by by_cases e:x=bb<;>simp[e],λx g o=>?_,λd hc W=>?_⟩
   .grind
   .grind
   .have J:d bb=aa (.cells (xs++zs).toArray E (0,0)):=by grind
    refine .sl bb 0 (λi' j'=>xs.getD (i'*k+j') ah) k1 (by omega) (λh=>by cases h) (λj hj=>(u i _ W j hj).1) (λh=>?_) (λj hj p c Y=>?_) λj hj p c Y=>?_
    .grind
    .obtain⟨c2,h1,h2⟩:=(u i _ W j hj).2 p c Y;obtain⟨v,v1,v2⟩:=z5.rd j hj p c2 h1;have tM:=(b8.1 v1).1;simp only[fG,J,g8,br];grind
    .obtain⟨c2,h1,h2⟩:=(u i _ W j hj).2 p c Y;obtain⟨v,v1,v2⟩:=z5.rd j hj p c2 h1;grind
 let d:Nat->Option Obj:=λx=>(ch x).or (m x);have Q:∀x,(m x).isSome=ab->d x=m x:=λx g=>by
  have:ch x=af:=by
   cases h:ch x with
   |none=>rfl
   |some y=>grind
  grind
 have I:vI (fG ch) (fG d):=λx o v hv=>by
  cases h:ch x with
  |none=>simp[fG,h]at hv
  |some y=>simpa[fG,h,d]using hv
 let s2:St:={s' with β:=[⟨t.v,[]⟩,⟨.nilFunc,L1.bs++t.bs⟩]}
 have r:∀L∈s2.β,∀x∈L.bs,∃L'∈s'.β,x∈L'.bs:=λL q x g=>by rw[N];simp only[s2,dK,nt,or_false]at q;grind
 have hG:eK s' s2:=⟨rfl,λ_ _ _ h=>h,λ_ _ _=>rfl,jf.mem,λx g=>g.imp id λ⟨L,q,g⟩=>r L q x g⟩
 refine .ghost hG (hS (.slice a' n cap) fr _ s2 (hl.mono λ_ _ _ h=>h) ⟨_,rfl,⟨_,rfl,Rd.val rfl,H,hu2,ar⟩,G,ar⟩ ⟨jf.mem,rfl,λl B L z q=>?_,λl l' A B h1 h2 x g OH=>?_,λL q x g=>?_,λx g=>⟨(jf.own x g).1,λL q R=>?_⟩⟩
  ⟨st.size,st.keep,st.mem,λx g hn o=>st.iI x g hn o,λL q x g=>?_,λl B L z=>by grind,st.os,st.tape,st.output,st.own⟩)
 .match l,z,q with
  |0,z,q=>cases z;trivial
  |1,z,q =>
   cases z;cases q;refine⟨d,⟨rfl,λx o g=>?_,q4 d Q (hK i _ _ I p3)⟩,λx o g=>?_,λx=>?_,λx g o=>?_⟩
   .cases h:ch x with
    |some y=>simp only[d,h,Option.some_or]at g;exact p2 x o (h.trans g)
    |none=>simp only[d,h,Option.none_or]at g;exact(q1 x o g).2
   .cases h:ch x with
    |some y=>grind
    |none=>grind
   .grind
   grind
  |l+2,z,q=>grind
 .match l,l',h1,h2 with
  |0,0,_,_=>rfl
  |1,1,_,_=>rfl
  |0,1,h1,_=>grind
  |1,0,_,h2=>grind
  |l+2,_,h1,_=>grind
  |_,l+2,_,h2=>grind
 .obtain⟨L',h1,h2⟩:=r L q x g;exact jf.lt L' h1 x h2
 .obtain⟨L',h1,h2⟩:=r L q x R;exact(jf.own x g).2 L' h1 h2
 .obtain⟨L',h1,h2⟩:=r L q x g;exact st.ur L' h1 x h2
end
section
variable {X:Cx P}{c:Type}{x:c->Nat->D}{S:c->(Nat->Bool)->List bd}{Inv:c->(Nat->Bool)->Prop}
def eR(X:Cx P)(N:Nat)(all:List aB)(φ:Fr){c:Type}(x:c->Nat->D)(S:c->(Nat->Bool)->List bd)(Inv:c->(Nat->Bool)->Prop)(i:Nat)(o:aB):Prop :=
 ∀b (D:Nat->Bool),Inv b D->(∀j,fI all i j=ab->D j=ab)->(∀j,(j=i∨fI all j i=ab)->D j=ae)->oq X N all o (jI all φ (x b) i) (S b D) (λq:{a:c // (∀j,D j=ab->x a j=x b j)/\Inv a (cK i D)}=>x q.1 i) (λq=>S q.1 (cK i D))
def Is{P:aM}(X:Cx P)(N:Nat)(all:List aB)(φ:Fr){c:Type}(x:c->Nat->D)(S:c->(Nat->Bool)->List bd)(Inv:c->(Nat->Bool)->Prop):List aB->Nat->Prop
 |[],_=>True
 |o::r,i=>eR X N all φ x S Inv i o/\Is X N all φ x S Inv r (i+1)
theorem Is.get{all:List aB}:∀{l:List aB}{k:Nat},Is X N all φ x S Inv l k->∀i o,l[i]?=aa o->eR X N all φ x S Inv (k+i) o
 |[],_,_,i,o,h=>by grind
 |p::r,k,h,0,o,ho=>by simp at ho;subst ho;exact h.1
 |p::r,k,h,i+1,o,ho=>by have:=Is.get h.2 i o (by grind);grind
def AK.Iu{id:Nat}(n:P.follows Departure.mixedOrders=ab)(x:c->Nat->D)(S:c->(Nat->Bool)->List bd)(Inv:c->(Nat->Bool)->Prop)(d:c)(j:Inv d λ_=>ae)(q:S d (λ_=>ae)=σ)(e:mS ops.toList=ab)(b:tm ops.toList 0=ab)(h:oN N ops.toList=ab)(one:Is X N ops.toList φ x S Inv ops.toList 0)(k:∀a D,Inv a D->(∀i,i<ops.toList.length->D i=ab)->AK X N Qf K .normal (MB ops.toList φ (x a)) (S a D)):AK X N Qf (.code (.region id ops ab)::K) .normal φ σ:=by
 have:=AW.reg (X:=X) (N:=N) (φ:=φ) (σ:=σ) n (all:=ops.toList) ops.toList.length x S Inv d j q e b h (aZ _)
  (λi h1 h2=>absurd h2 (lZ.2 h1)) (λa D _ _ i h1 h2=>absurd h2 (lZ.2 h1))
  (λa D i o m ho _ l g f=>by have h1:=one.get i o ho;rw[br]at h1;exact h1 a D m (vl f i o ho g) (ET f l))
  (Q:=AK X N Qf K) (λa D m p=>by rw[qY];exact .nil (k a D m p)) id
 rw[ql]at this;exact this
theorem eR.of(h:∀d (D:Nat->Bool),Inv d D->(∀j,fI all i j=ab->D j=ab)->(∀j,(j=i∨fI all j i=ab)->D j=ae)->Inv d (cK i D)/\OA X N all o (jI all φ (x d) i) (S d D) (x d i) (S d (cK i D))):eR X N all φ x S Inv i o:=by intro d D g h1 h2 s a f hh b k cs SS idx rest hb hi hK;obtain⟨e,q2⟩:=h d D g h1 h2;exact q2 s a f hh b k cs SS idx rest hb hi λv s' r1 r2 r3=>hK ⟨d,λ_ _=>rfl,e⟩ v s' r1 r2 r3
def eR.Wm(h:∀e (D:Nat->Bool),Inv e D->(∀j,fI all i j=ab->D j=ab)->(∀j,(j=i∨fI all j i=ab)->D j=ae) ->
  ∃(ι:Type) (y:ι->Go.AM.D) (σ':ι->List bd),oq X N all o (jI all φ (x e) i) (S e D) y σ'/\∀j,∃d,((∀q,D q=ab->x d q=x e q)/\Inv d (cK i D))/\y j=x d i/\σ' j=S d (cK i D)):eR X N all φ x S Inv i o:=by intro e D m h1 h2 s a f hh b k cs SS idx rest hb hi hK;obtain⟨ι,y,σ',g,q2⟩:=h e D m h1 h2;refine g s a f hh b k cs SS idx rest hb hi λj v s' r1 r2 r3=>?_;obtain⟨d,l,p2,p3⟩:=q2 j;rw[p2]at r1;rw[p3]at r1 r2 r3;exact hK ⟨d,l⟩ v s' r1 r2 r3
end
section
variable {X:Cx P}{x:Option ι->Nat->D}{s:Option ι->Bool->Bool->Bool->List bd}{m f e d:Nat}
abbrev SO(s:Option ι->Bool->Bool->Bool->List bd)(f e d:Nat):Option ι->(Nat->Bool)->List bd:=λa D=>s a (D f) (D e) (D d)
abbrev vm(ι:Type)(m:Nat):Option ι->(Nat->Bool)->Prop:=λa D=>a.isSome=D m
def eR.quiet(hm:av m i=ae)(h1:av f i=ae)(h2:av e i=ae)(j:av d i=ae)(h:∀g a b c,OA X N all o (jI all φ (x g) i) (s g a b c) (x g i) (s g a b c)):
  eR X N all φ x (SO s f e d) (vm ι m) i o:=by grind[eR.of,qz]
def eR.P1(hm:av m i=ae)(h1:av f i=ae)(h2:av e i=ae)(k:av d i=ae)(p:fI all i m=ab)(h:∀j a b c,OA X N all o (jI all φ (x (aa j)) i) (s (aa j) a b c) (x (aa j) i) (s (aa j) a b c)):
  eR X N all φ x (SO s f e d) (vm ι m) i o:=by
 refine eR.of λg D q n _=>⟨?_,?_⟩
 .grind [qz]
 .show OA X N all o _ (s g (D f) (D e) (D d)) _ (s g (cK i D f) (cK i D e) (cK i D d));rw[qz h1,qz h2,qz k];have l:=n m p;cases g with
  |none=>grind
  |some j=>exact h _ _ _ _
def eR.qo(j:c8 P T)(hC:bA X CT)(ho:au obs)(h:∀g a b c,tR T CT [] all (jI all φ (x g) i) (s g a b c) o=aa (x g i,af,obs):=by intro g a b c;cases g<;>cases a<;>cases b<;>cases c<;>rfl)(hm:av m i=ae:=by rfl)(h1:av f i=ae:=by rfl)(h2:av e i=ae:=by rfl)(k:av d i=ae:=by rfl):eR X N all φ x (SO s f e d) (vm ι m) i o:=.quiet hm h1 h2 k λg a b c=>OA.eval j hC (h g a b c) ho
def eR.qe(j:c8 P T)(hC:bA X CT)(h:∀g a b c,tR T CT [] all (jI all φ (x g) i) (s g a b c) o=aa (x g i,af,[]):=by intro g a b c;cases g<;>cases a<;>cases b<;>cases c<;>rfl)(hm:av m i=ae:=by rfl)(h1:av f i=ae:=by rfl)(h2:av e i=ae:=by rfl)(k:av d i=ae:=by rfl):eR X N all φ x (SO s f e d) (vm ι m) i o:=.qo (obs:=[]) j hC ar h hm h1 h2 k
def eR.qs(g:c8 P T)(hC:bA X CT)(h:∀j a b c,tR T CT [] all (jI all φ (x (aa j)) i) (s (aa j) a b c) o=aa (x (aa j) i,af,[]):=by intro j a b c;cases a<;>cases b<;>cases c<;>rfl)(hm:av m i=ae:=by rfl)(h1:av f i=ae:=by rfl)(h2:av e i=ae:=by rfl)(k:av d i=ae:=by rfl)(l:fI all i m=ab:=by rfl):eR X N all φ x (SO s f e d) (vm ι m) i o:=.P1 hm h1 h2 k l λj a b c=>OA.dr g hC (h j a b c)
def eR.Wn(hm:av m e=ae)(h1:av f e=ae)(g:av d e=ae)(c:fI all d e=ab)(h:∀b a,OA X N all o (jI all φ (x b) e) (s b a ae ae) (x b e) (s b a ab ae)):eR X N all φ x (SO s f e d) (vm ι m) e o:=by grind[eR.of,qz,A9]
def eR.Wo(hm:av m d=ae)(h1:av f d=ae)(h2:av e d=ae)(c:fI all d m=ab)(l:fI all d f=ab)(i:fI all d e=ab)(h:∀j,OA X N all o (jI all φ (x (aa j)) d) (s (aa j) ab ab ae) (x (aa j) d) (s (aa j) ab ab ab)):eR X N all φ x (SO s f e d) (vm ι m) d o:=by
 refine eR.of λg D n b k=>?_;have a:=b m c;cases g with
 |none=>grind
 |some j =>
  grind[qz,A9]
end
section
variable {X:Cx P}{d:List It}
def dL.Tk{f:aJ}{args:List D}{H:ι->ai->(Nat->Option Obj)->Prop}(h:dL X f args [] res (λi=>[.dead,.cf (H i)]))(I:∀i v ch,H i v ch->v=.nilFunc)(K:∀i,iE [] (res i)=res i)(p:∀i,uV 0 (res i)=ab)(G:lT 0 args=ab)(q:gD [] args=args):
  dL X f args [.cf (iL E k (.nil af) 0 [])] res (λi=>[.cf (H i)]):=by
 refine⟨h.1,λs vs hr hh S cs hS=>?_⟩;have t:s.β.length=1:=hh.len;obtain⟨e,F⟩:∃e,s.β=[e]:=by
  match y:s.β with
  |[A]=>grind
  |[]=>grind
  |_::_::_=>grind
 have u:s.β[0]?=aa e:=by grind
 obtain⟨x,c1,c2,c3,c4⟩:=hh.box 0 _ e rfl u;obtain⟨O,_,_,_,rfl⟩:=c1;have M:∀b,b∉e.bs:=λb hb=>by grind
 let g:St:={s with β:=[]}
 have z:eK s g:=⟨rfl,λ_ _ _ h=>h,λ_ _ _=>rfl,hh.mem,λb hb=>hb.imp id λ⟨L,a,_⟩=>by grind⟩
 have m:aD [] g:=⟨hh.mem,rfl,by simp,by grind,by grind,λb hb=>⟨(hh.own b hb).1,by grind⟩⟩
 have c:cg [] g vs args:=by rw[<-q]at hr;exact cg.sub (ks:=[]) (σ:=[.cf (iL E k (.nil af) 0 [])]) (σ':=[]) (s:=s) (β':=[]) rfl rfl hr G
 refine .ghost z (h.2 g vs c m S cs λi fr v s' hl lR jf st=>?_);have n:s'.β.length=2:=jf.len;obtain⟨A,B,w⟩:∃A B,s'.β=[A,B]:=by
  match y:s'.β with
  |[A,B]=>grind
  |[]=>grind
  |[_]=>grind
  |_::_::_::_=>grind
 have J:s'.β[1]?=aa B:=by grind
 obtain⟨ch,d1,d2,d3,d4⟩:=jf.box 1 _ B rfl J;have N:=I i _ _ d1;let s2:St:={s' with β:=[B]}
 have hm:∀L∈s2.β,L∈s'.β:=λL a=>by grind
 have r:eK s' s2:=⟨rfl,λ_ _ _ h=>h,λ_ _ _=>rfl,jf.mem,λb hb=>hb.imp id λ⟨L,a,hb⟩=>⟨L,hm L a,hb⟩⟩
 have j:dk [.cf (H i)] s2 v (res i):=by rw[<-K i]at lR;have:=dk.sub (ks:=[]) (σ:=[.dead,.cf (H i)]) (σ':=[]) (s:=s') (β':=[]) rfl rfl lR (p i);exact this.mono (σ:=[]) (s:={s' with β:=[]}) (σ':=[.cf (H i)]) (s':=s2) ⟨λ_ _ _ h=>h,λl B L N=>by grind⟩ rfl
 refine .ghost r (hS i fr v s2 (hl.mono λ_ _ _ h=>h) j ⟨jf.mem,rfl,λl C L hC a=>?_,λl l' C D h1 h2 b hb nZ=>?_,λL a b hb=>jf.lt L (hm L a) b hb,λb hb=>⟨(jf.own b hb).1,λL a=>(jf.own b hb).2 L (hm L a)⟩⟩
  ⟨st.size,st.keep,st.mem,λb hb _ o=>st.iI b hb (by grind) o,λL a b hb=>?_,λl C L hC a=>?_,st.os,st.tape,st.output,st.own⟩)
 .match l,hC,a with
  |0,hC,a=>cases hC;cases a;exact⟨ch,d1,d2,d3,d4⟩
  |l+1,hC,_=>grind
 .match l,l',h1,h2 with
  |0,0,_,_=>rfl
  |l+1,_,h1,_=>grind
  |_,l+1,_,h2=>grind
 .rcases st.ur L (hm L a) b hb with h1|⟨L1,h1,_⟩
  .grind
  grind
 .match l,hC,a with
  |0,hC,a =>
   cases hC;rw[u]at a;cases a;exact⟨_,B,rfl,rfl,by show B.v=e.v;grind⟩
  |l+1,hC,_=>grind
def AK.MR(l i j:Nat){K:Mem->Prop}{E0:aw}{cs:List A}{Q cl:C}(S:l≠i)(hl:eB l σ=aa (.cf (PM K)))(hi:eB i σ=aa (.cells E0 cs))(hj:eB j cs=aa (.c Q))(V:∀M M',K M->vI M M'->∀v,Rd M' v Q->Rd M' v cl)(kk:AK X N Qf (.code c::d) .normal φ ((σ.set l (.cf (iL E k (.nil af) 0 []))).set i (.cells E0 (cs.set j (.c cl))))):AK X N Qf (.code c::d) .normal φ σ:=by
 refine AK.ghost (λs a O hh=>?_) kk;have hl:=cX hl;have hi:=cX hi;have hJ:=cX hj;have y:l<s.β.length:=by rw[hh.len];grind
 have J:=bm y;generalize s.β[l]=L at J;obtain⟨ch,⟨h1,h2,R⟩,h4,h5,U⟩:=hh.box l _ L hl J;let M':Mem:=λb o=>(s.M b o).or (fG ch b o);have q:∀b o v,fG ch b o=aa v->b∈L.bs/\s.w.cell? ⟨b,o,af⟩=aa v:=λb o v f=>by
  cases h:ch b with
  |none=>simp[fG,h]at f
  |some x =>
   obtain⟨cs,E,rfl⟩:=h2 b x h;have hw:=h4 b _ h;simp only[fG,h]at f;exact⟨(h5 b).2 (by simp[h]),by simpa[aV,hw]using f⟩
 have m1:∀b o v,s.M b o=aa v->M' b o=aa v:=λb o v f=>by grind
 have m2:∀b,b∉L.bs->∀o,M' b o=s.M b o:=λb hb o=>by
  cases h:fG ch b o with
  |none=>grind
  |some v=>grind
 have m3:∀b o v,M' b o=aa v->s.w.cell? ⟨b,o,af⟩=aa v:=λb o v f=>by
  cases h:s.M b o with
  |some v'=>simp only[M',h,Option.some_or]at f;cases f;exact hh.mem b o v h
  |none=>grind
 have m4:=V _ M' R λb o v f=>by have:=U b (q b o v f).1 o;simp[M',this,f]
 obtain⟨r,q2⟩:=hh.hX (M':=M') (w':=s.w) (B':=.cf (iL E k (.nil af) 0 [])) (L':=⟨.nilFunc,[]⟩) hl J h1.symm (aZ _) (λ_ _ _=>rfl) (λb _ hb o=>m2 b hb o) m1 m3 (by simp) rfl rfl rfl
  ⟨λ_=>af,⟨rfl,by simp,by simp,rfl,rfl⟩,by simp,by simp,by simp⟩
 have n:(σ.set l (.cf (iL E k (.nil af) 0 [])))[i]?=aa (.cells E0 cs):=by grind
 generalize W:(⟨s.β.set l ⟨.nilFunc,[]⟩,M',s.w,s.own⟩:St)=s1 at r q2;have z:i<s1.β.length:=by rw[r.len];grind
 have g:=bm z;generalize s1.β[i]=L2 at g;obtain⟨b,vs,I,m,t,hM⟩:=r.box i _ L2 n g;obtain⟨u,Z,T⟩:=t.get hJ;have H:s1.M=M':=by grind
 have F:s1.β.set i L2=s1.β:=by apply gK;grind
 obtain⟨t1,Y⟩:=r.hX (M':=s1.M) (w':=s1.w) (B':=.cells E0 (cs.set j (.c cl))) (L':=L2) n g rfl (aZ _) (λ_ _ _=>rfl) (λ_ _ _ _=>rfl) (λ_ _ _ h=>h) r.mem (λb hb=>⟨.inl hb,r.lt L2 (bH g) b hb⟩) rfl rfl rfl (by
   rw[F];have ex:Ext (σ.set l (.cf (iL E k (.nil af) 0 []))) s1 ((σ.set l (.cf (iL E k (.nil af) 0 []))).set i (.cells E0 (cs.set j (.c cl)))) s1:=by
    refine⟨λ_ _ _ h=>h,λp B L G D=>?_⟩;by_cases e:i=p
    .subst e;rw[n]at G;cases G;exact⟨_,L,fQ (by grind),D,rfl⟩
    .exact⟨B,L,by grind,D,.refl _ _⟩
   refine⟨b,vs,I,m,dZ.set (t.mono ex r.len) Z ?_,hM⟩;show Rd s1.M u cl;rw[H];exact m4 u (H▸T))
 have st:=q2.trans Y;exact⟨_,by grind,⟨O.size,O.defers.imp λ_ h1=>h1.mono st.ext,λu=>(O.slot u).mono st.ext hh.len⟩,t1,st⟩
def AK.sM(l i j:Nat){K:Mem->Prop}{E0:aw}{cs:List A}{cl:C}(a:l≠i)(hl:eB l σ=aa (.cf (PM K)))(hi:eB i σ=aa (.cells E0 cs))(hj:eB j cs=aa (.c (.val v)))(b:∀M,K M->Rd M v cl)(kk:AK X N Qf (.code c::d) .normal φ ((σ.set l (.cf (iL E k (.nil af) 0 []))).set i (.cells E0 (cs.set j (.c cl))))):AK X N Qf (.code c::d) .normal φ σ :=
 AK.MR l i j a hl hi hj (λ_ _ h le _ r=>by rw[Rd.fj r];exact(b _ h).mono le) kk
end
section
variable {X:Cx P}{n:List It}
def AK.Tl(l i j:Nat){E0:aw}{Y:Nat}{cs:List A}{G:Nat->List C}(k1:Nat)(Dg:Nat->List C)(Z:l≠i)(hl:eB l σ=aa (.cf (iL E k (.nil af) 0 [])))(hi:eB i σ=aa (.cells E0 cs))(hj:eB j cs=aa (.c (.sl ab Y 0 G)))(kk:∀v,AK X N Qf (.code c::n) .normal φ ((σ.set l (.cf (PM λM=>Rd M v (.sl ae k1 0 Dg)))).set i (.cells E0 (cs.set j (.c (.val v)))))):AK X N Qf (.code c::n) .normal φ σ:=by
 refine AW.CW (ι:=ai) (φ':=λ_=>φ) (σ':=λv=>(σ.set l (.cf (PM λM=>Rd M v (.sl ae k1 0 Dg)))).set i (.cells E0 (cs.set j (.c (.val v))))) (λs a T hh=>?_) kk;have hl:=cX hl;have hi:=cX hi;have hJ:=cX hj;have r:i<s.β.length:=by rw[hh.len];grind
 have F:=bm r;generalize s.β[i]=Li at F;obtain⟨b0,vs0,hLb,O,H,_⟩:=hh.box i _ Li hi F;obtain⟨v,Po,U⟩:=H.get hJ;obtain⟨a0,cap,vs1,rfl,n1,n2,_,_,_⟩:=(show Rd s.M v (.sl ab Y 0 G)from U).flat;have hK:∀M:Mem,Rd M (.slice a0 0 cap) (.sl ae k1 0 Dg):=λM=>.sl 0 0 (λ_ _=>ah) n1 n2 (λh=>by cases h) (λi hi=>by omega) (λh=>by omega) (λi hi=>by omega) λi hi=>by omega
 have z:l<s.β.length:=by rw[hh.len];grind
 have Q:=bm z;generalize s.β[l]=L at Q;obtain⟨ch,hs,h4,h5,h6⟩:=hh.box l _ L hl Q;obtain⟨y,q2⟩:=hh.hX (M':=s.M) (w':=s.w) (B':=.cf (PM λM=>Rd M (.slice a0 0 cap) (.sl ae k1 0 Dg))) (L':=L) hl Q rfl (aZ _) (λ_ _ _=>rfl) (λ_ _ _ _=>rfl) (λ_ _ _ h=>h) hh.mem (λb hb=>⟨.inl hb,hh.lt L (bH Q) b hb⟩) rfl rfl rfl
  ⟨ch,PM.start hK _ _ hs,h4,h5,h6⟩
 have q:(σ.set l (.cf (PM λM=>Rd M (.slice a0 0 cap) (.sl ae k1 0 Dg))))[i]?=aa (.cells E0 cs):=by grind
 generalize hs1:(⟨s.β.set l L,s.M,s.w,s.own⟩:St)=s1 at y q2;have W:i<s1.β.length:=by grind
 have t:s1.β[i]?=aa Li:=by grind
 obtain⟨b,vs,R,o,S,hM⟩:=y.box i _ Li q t;have J:s1.β.set i Li=s1.β:=by apply gK;grind
 have V:vs[j]?=aa (.slice a0 0 cap):=by grind
 obtain⟨t1,t2⟩:=y.hX (M':=s1.M) (w':=s1.w) (B':=.cells E0 (cs.set j (.c (.val (.slice a0 0 cap))))) (L':=Li) q t rfl (aZ _) (λ_ _ _=>rfl) (λ_ _ _ _=>rfl) (λ_ _ _ h=>h) y.mem (λb hb=>⟨.inl hb,y.lt Li (bH t) b hb⟩) rfl rfl rfl (by
   rw[J];have ex:Ext (σ.set l (.cf (PM λM=>Rd M (.slice a0 0 cap) (.sl ae k1 0 Dg)))) s1 ((σ.set l (.cf (PM λM=>Rd M (.slice a0 0 cap) (.sl ae k1 0 Dg)))).set i (.cells E0 (cs.set j (.c (.val (.slice a0 0 cap)))))) s1:=by
    refine⟨λ_ _ _ h=>h,λp B L K I=>?_⟩;by_cases e:i=p
    .subst e;rw[q]at K;cases K;exact⟨_,L,fQ (by grind),I,rfl⟩
    .exact⟨B,L,by grind,I,.refl _ _⟩
   exact⟨b,vs,R,o,dZ.set (S.mono ex y.len) V (Rd.val rfl),hM⟩)
 have st:=q2.trans t2;exact⟨.slice a0 0 cap,_,by grind,⟨T.size,T.defers.imp λ_ h1=>h1.mono st.ext,λu=>(T.slot u).mono st.ext hh.len⟩,t1,st⟩
end
section
variable {X:Cx P}{x:Option ι->Nat->D}{s:Option ι->Bool->Bool->Bool->List bd}{m f g d:Nat}
def eR.pre(hm:av m f=ae)(h2:av g f=ae)(q:av d f=ae)(i:fI all m f=ab)(e:fI all d f=ab)(h:∀b,OA X N all o (jI all φ (x af) f) (s af ae b ae) (x af f) (s af ab b ae)):eR X N all φ x (SO s f g d) (vm ι m) f o:=by
 refine eR.of λk D t r a=>?_;have c:=a m (.inr i);have p:=a d (.inr e);have l:=a f (.inl rfl);cases k with
 |some j=>grind
 |none=>grind[qz,A9]
def eR.W0(h1:av f m=ae)(h2:av g m=ae)(v:av d m=ae)(t:fI all m f=ab)(p:fI all d m=ab)(i:∀j q,q=m∨fI all q m=ab∨x (aa j) q=x af q)(h:∀b,oq X N all o (jI all φ (x af) m) (s af ab b ae) (λj=>x (aa j) m) (λj=>s (aa j) ab b ae)):eR X N all φ x (SO s f g d) (vm ι m) m o:=by
 refine eR.Wm λc D w l a=>?_;have e:=a m (.inl rfl);have r:=l f t;have u:=a d (.inr p);have k:c=af:=by
  cases c with
  |none=>rfl
  |some j=>grind
 grind[A9,qz]
def eR.last(hm:av m d=ae)(h1:av f d=ae)(h2:av g d=ae)(c:fI all d m=ab)(b:fI all d f=ab)(a:fI all d g=ab)(h:∀j,OA X N all o (jI all φ (x (aa j)) d) (s (aa j) ab ab ae) (x (aa j) d) (s (aa j) ab ab ab)):eR X N all φ x (SO s f g d) (vm ι m) d o:=.Wo hm h1 h2 c b a h
end
theorem Rd.Gq{t:Bool}(h:Rd M v (.sl t k n es)):∃a cap b off,v=.slice a n cap/\n<=cap/\cap<=9223372036854775807/\(0<n->a=aa ⟨b,off,af⟩)/\(∀i,i<n->(es i).length=k)/\∀i,i<n->∀j c,(es i)[j]?=aa c->∃u,M b (off+i*k+j)=aa u/\Rd M u c:=by
 cases h with
 |@sl a _ cap _ _ _ b off f e hb ht hk ha hm hr=>exact⟨a,cap,b,off,rfl,e,hb,ha,hk,λi hi j c hj=>⟨_,hm i hi j c hj,hr i hi j c hj⟩⟩
def Rd.Tm{a:Option Addr}{cap:Nat}(h1:n<=cap)(h2:cap<=9223372036854775807)(f:0<n->a=aa ⟨b,off,af⟩)(e:∀i,i<n->(es i).length=k)(g:∀i,i<n->∀j c,(es i)[j]?=aa c->∃u,M b (off+i*k+j)=aa u/\Rd M u c):Rd M (.slice a n cap) (.sl ae k n es):=by
 refine .sl b off (λi j=>(M b (off+i*k+j)).getD ah) h1 h2 (λh=>by cases h) e f (λi hi j c hj=>?_) λi hi j c hj=>?_
 .grind
 grind
section
variable {X:Cx P}{d:List It}
def AK.Tn{b:List It}(φ':ι->Fr)(σ':ι->List bd)(h:(∀(i:ι)(a:Fr)(ps:List Prop),pZ a (φ' i)=aa ps->au ps->AK X N Qf (.code c::b) .normal a (σ' i))->AK X N Qf K .normal φ σ)(k:∀i,AK X N Qf (.code c::b) .normal (φ' i) (σ' i)):AK X N Qf K .normal φ σ :=
 h λi _ _ h1 h2=>AW.le (k i) (dv h1 h2)
def ju.agg{ds:List D}(p q E:Nat){cs:List A}{u:ai}(z:ds[p]?=aa (.e (.agg cs)))(x:cs[q]?=aa (.c (.val u)))(hl:ic σ E u k n es):ju σ ds (ds.set p (.e (.agg (cs.set q (.c (.sl ae k n es)))))):=by
 intro s vs hh hr;obtain⟨L,j,m,w,G,C,H,y⟩:=hl s hh;refine⟨λb=>b∈L.bs,j,λb hb=>⟨L,bH m,hb⟩,w,G,C,H,?_⟩;have e1:Ext σ s σ {s with M:=j}:=⟨w,λl B L I m=>⟨B,L,I,m,.refl _ _⟩⟩
 have t:=hr.mono e1 hh.len;obtain⟨F,i⟩:=cg.get t;have f:p<vs.length:=by grind
 have h:=i p;rw[z,bm f]at h;obtain⟨J,o,g⟩:=h;obtain⟨v,a,r⟩:=g.get x;rw[Rd.fj (show Rd j v (.val u)from r)]at a;refine cg.setAt t (bm f) ⟨J,o,dZ.set g a y⟩
theorem PM.of{K:Mem->Prop}{p:Prop}(hl:σ[l]?=aa (.cf (PM K)))(h:∀M,K M->p)(s:St)(hh:aD σ s):p:=by
 have a:l<s.β.length:=by rw[hh.len];grind
 obtain⟨ch,⟨_,_,b⟩,_⟩:=hh.box l _ _ hl (bm a);grind
def jL.Qj(F:c8 P T)(l:Nat){K:Mem->Prop}{i:TI}(h:o.op=.load t x)(hi:bE T t=aa i)(I:∀v,mD i [.c (.val v)]=aa (.one (.c (.val v))))(Q:bJ φ x=.e (.one (.v (.pointer (aa ⟨b,off,af⟩)))))(hl:σ[l]?=aa (.cf (PM K)))(R:∀M,K M->∃w,M b off=aa w/\cW w=ab):jL P N o φ σ (λw:ai=>.e (.one (.v w))) (λw=>σ.set l (.cf (PM λM=>K M/\M b off=aa w))):=by
 intro s a U hh;have u:=cY U x;rw[Q]at u;have u:=Rd.fj u;have m:l<s.β.length:=by rw[hh.len];grind
 have r:=bm m;generalize s.β[l]=L at r;obtain⟨ch,⟨h1,h2,D⟩,H,J,W⟩:=hh.box l _ L hl r;obtain⟨w,C,O⟩:=R _ D;obtain⟨cs,E,y,B⟩:∃cs E,ch b=aa (.cells cs E (0,0))/\cs[off]?=aa w:=by
  cases e:ch b with
  |none=>simp[fG,e]at C
  |some x =>
   obtain⟨cs,E,rfl⟩:=h2 b x e;exact⟨cs,E,rfl,by simpa[fG,e]using C⟩
 have z:b∈L.bs:=(J b).2 (by grind);have k:=H b _ y;obtain⟨V,S⟩:=hh.iD (l:=l) (H':=PM λM=>K M/\M b off=aa w) (L':=L) (w':=s.w) hl r rfl (aZ _) (λ_ _ _=>rfl) (λ_ hb=>.inl hb) ⟨ch,⟨h1,h2,D,C⟩,H,J⟩ rfl rfl rfl;have f:∀(j:Nat) (v:ai),[w][j]?=aa v->s.w.cell? ⟨b,off+j,af⟩=aa v:=by
  intro j v hj
  match j,hj with
  |0,hj=>cases hj;simp[aV,k,B]
 obtain⟨v,g,A⟩:=l7 (s:=⟨s.β.set l L,s.M,s.w,s.own⟩) (σ:=σ.set l (.cf (PM λM=>K M/\M b off=aa w))) (P:=P) (F t i hi) (b:=b) (off:=off) (vs:=[w]) (cs:=[.c (.val w)]) f ⟨Rd.val O,ar⟩ (I w);have g:(loadVar t ⟨b,off,af⟩).run P s.w=.ok v s.w:=g;have e1:ak a.eval o=(do pure (.value (<-loadVar t ⟨b,off,af⟩))):=by simp[ak,h,u,Instr.loadAt,Instr.sureAddr]
 refine⟨w,.value v,_,v,by rw[e1];simp[g],.inl rfl,A,V,S,λG p=>?_⟩;rw[e1]at p;have q:G∈(loadVar t ⟨b,off,af⟩).events P s.w #[]:=by simpa[g]using p
 obtain⟨j,hj,rfl⟩:=iV (F t i hi) (n:=1) (λj hj=>⟨w,f j w (by grind)⟩) (by have:=oJ (I w);grind) G q;exact oF (bH r) z
def Mem.up(M:Mem)(b o:Nat)(u:ai):Mem:=λc a=>if c=b/\a=o then aa u else M c a
def jL.Fb(W:c8 P T)(l:Nat){K:Mem->Prop}{c:C}{i:TI}(h:o.op=.store t x y)(hi:bE T t=aa i)(hs1:i.size=1)(hx:bJ φ x=.e (.one (.v (.pointer (aa ⟨b,off,af⟩)))))(hy:bJ φ y=.e (.one (.c c)))(hg:tO c=ab)(hl:σ[l]?=aa (.cf (PM K)))(hK:∀M,K M->∃w,M b off=aa w):jL P N o φ σ (ι:={u:ai // ∀M,Rd M u c}) (λ_=>.any) (λu=>σ.set l (.cf (PM λM'=>∃M,K M/\M'=M.up b off u.1))):=by
 intro s a Y hh;have Q:=cY Y x;rw[hx]at Q;have Q:=Rd.fj Q;have m:=ld (show kI (bJ φ y)=aa [.c c] by rw[hy];rfl) (cY Y y);generalize A:(a.eval y).cells.toList=vs at m;obtain⟨u,rfl⟩:∃u,vs=[u]:=by
  match vs,m with
  |[u],_=>grind
  |_::_::_,h=>exact h.2.elim
 have hu:Rd s.M u c:=m.1;have U:∀M,Rd M u c:=λM=>pE hg hu;have G:l<s.β.length:=by rw[hh.len];grind
 have S:=bm G;generalize s.β[l]=L at S;obtain⟨ch,⟨h1,h2,V⟩,h4,h5,h6⟩:=hh.box l _ L hl S;obtain⟨w,hw⟩:=hK _ V;obtain⟨cs,E,F,S8⟩:∃cs E,ch b=aa (.cells cs E (0,0))/\cs[off]?=aa w:=by
  cases e:ch b with
  |none=>simp[fG,e]at hw
  |some x =>
   obtain⟨cs,E,rfl⟩:=h2 b x e;exact⟨cs,E,rfl,by simpa[fG,e]using hw⟩
 have H:b∈L.bs:=(h5 b).2 (by grind);have g:=h4 b _ F;have p:off<cs.size:=by grind
 have z:=run_storeCells_at P b off E [u] 0 cs s.w g (show off+0+1<=cs.size from p) m.cell;simp only[hI,e9]at z;have J:=setRow_heap s.w b cs (cs.toList.take off++[u]++cs.toList.drop (off+1)).toArray E (0,0) g;generalize R:(cs.toList.take off++[u]++cs.toList.drop (off+1)).toArray=Vp at z J;have D:∀j,Vp[j]?=if j=off then aa u else cs[j]?:=λj=>by rw[<-R];grind
 have O:∀f B,fG (λf=>if f=b then aa (.cells Vp E (0,0))else ch f) f B=(fG ch).up b off u f B:=λf B=>by
  by_cases e:f=b
  .subst e;simp only[fG,b5,Mem.up,aH,F,D]
  .simp only[fG,a9 e,Mem.up,e,false_and,bM]
 obtain⟨t1,t2⟩:=hh.iD (l:=l) (H':=PM λM'=>∃M,K M/\M'=M.up b off u) (L':=L) (w':=s.w.setRow b Vp) hl S rfl (by simp)
  (λf n hn=>setRow_other s.w b f _ (λe=>hn (by grind))) (λf n=>.inl n)
  ⟨λf=>if f=b then aa (.cells Vp E (0,0))else ch f,⟨h1,λf o n=>by
   grind,_,V,funext λf=>funext λB=>O f B⟩,λf o n=>by
   grind[setRow_other],λf=>by grind⟩ rfl rfl rfl
 have I:(a.eval y).cells.size=i.size:=by grind
 have e1:ak a.eval o=(do storeVar t ⟨b,off,af⟩ (a.eval y);pure .skip):=by simp[ak,h,Q,Instr.storeAt,Instr.sureAddr]
 refine⟨⟨u,U⟩,.skip,_,ah,?_,.inr ⟨rfl,rfl⟩,ar,t1,t2,?_⟩
 .simp[ak,h,Q,Instr.storeAt,Instr.sureAddr,storeVar,(W t i hi).run_sizeOf,I,A,z]
 .intro Z k;rw[e1]at k;have q:Z∈(storeCells ⟨b,off,af⟩ (a.eval y).cells.toList).events P s.w #[]:=by
   simp only[storeVar,aK,(W t i hi).run_sizeOf,I,aP,events_sizeOf,cR,fa,bM,bO,b9,Sem.events_pure]at k;generalize(storeCells ⟨b,off,af⟩ (a.eval y).cells.toList).run P s.w=r at k;cases r with
   |ok v w'=>simpa using k
   |halt x w'=>simpa using k
  rw[A]at q;rcases eh [u] 0 cs s.w #[] g (show off+0+1<=cs.size from p) m.cell Z q with LH|⟨j,_,_,rfl⟩
  .grind
  .exact kT (bH S) H (h6 b H _)
end
section
variable {X:Cx P}
section
variable {x:Nat->D}{s2:Bool->Bool->List bd}{d c:Nat}
abbrev vJ(s2:Bool->Bool->List bd)(d c:Nat):(Nat->Bool)->List bd:=λD=>s2 (D d) (D c)
def eE.q2(h1:av d i=ae)(h2:av c i=ae)(h:∀a b,OA X N all o (jI all φ x i) (s2 a b) (x i) (s2 a b)):eE X N all φ x (vJ s2 d c) i o:=by
 intro D _ _;have e1:cK i D d=D d:=by simp only[cK,h1]
 have e2:cK i D c=D c:=by simp only[cK,h2]
 grind
def eE.R9(e:c8 P T)(hC:bA X CT)(h:∀a b,tR T CT [] all (jI all φ x i) (s2 a b) o=aa (x i,af,obs):=by intro a b;cases a<;>cases b<;>rfl)(h1:av d i=ae:=by rfl)(h2:av c i=ae:=by rfl)(ho:au obs:=by simp only[au,aE];omega):eE X N all φ x (vJ s2 d c) i o:=.q2 h1 h2 λa b=>OA.eval e hC (h a b) ho
def eE.Bp(e:c8 P T)(hC:bA X CT)(h:∀a b,tR T CT [] all (jI all φ x i) (s2 a b) o=aa (x i,af,[]):=by intro a b;cases a<;>cases b<;>rfl)(h1:av d i=ae:=by rfl)(h2:av c i=ae:=by rfl):eE X N all φ x (vJ s2 d c) i o:=.R9 (obs:=[]) e hC h h1 h2 ar
def eE.sA(h2:av c d=ae)(a:fI all c d=ab)(h:OA X N all o (jI all φ x d) (s2 ae ae) (x d) (s2 ab ae)):eE X N all φ x (vJ s2 d c) d o:=by
 intro D _ b;have e1:cK d D d=ab:=by simp only[cK,jm]
 have e2:cK d D c=D c:=by simp only[cK,h2]
 grind
def eE.sB(h1:av d c=ae)(b:fI all c d=ab)(h:OA X N all o (jI all φ x c) (s2 ab ae) (x c) (s2 ab ab)):eE X N all φ x (vJ s2 d c) c o:=by
 intro D a e;have e1:cK c D d=D d:=by simp only[cK,h1]
 have e2:cK c D c=ab:=by simp only[cK,jm]
 grind
end
end
section
open Go.Conc
def fW(s:St):Prop:=∀b o v,s.M b o=aa v->s.w.cell? ⟨b,o,af⟩=aa v
def kh(c:Nat->Prop):Go.Loc->Prop
  | .cell a=>c a.block
  | .obj r=>c r
  | _=>False
structure Clear(c:Nat->Prop)(s:St):Prop where
  own:∀b,c b->¬s.own b
  β:∀b,c b->∀L∈s.β,b∉L.bs
  M:∀b,c b->∀o,s.M b o=af
  lt:∀b,c b->b<s.w.heap.size
section
variable {c:Nat->Prop}
def Clear.step(h:Clear c s)(st:Step σ s σ' s'):Clear c s':=by
  refine⟨λb hb=>by rw[st.own];exact h.own b hb,λb hb L e a=>?_,λb hb o=>by rw[st.iI b (h.lt b hb) (h.β b hb)];exact h.M b hb o,λb hb=>cx (h.lt b hb) st.size⟩;rcases st.ur L e b a with h1|⟨d,f,h1⟩
  · exact absurd (h.lt b hb) (lZ.2 h1)
  · exact h.β b hb d f h1
theorem Clear.ghost(h:Clear c s)(k:eK s s'):Clear c s':=by
  have d:∀b,c b->¬(s'.own b∨∃L∈s'.β,b∈L.bs):=λb hb e=>by
    rcases k.blk b e with e|⟨L,a,e⟩
    · exact h.own b hb e
    · exact h.β b hb L a e
  exact⟨λb hb e=>d b hb (.inl e),λb hb L a e=>d b hb (.inr ⟨L,a,e⟩),λb hb o=>by rw[k.iI b (h.β b hb)];exact h.M b hb o,λb hb=>by rw[k.w];exact h.lt b hb⟩
def Clear.forget(h:Clear c s)(k:mz s s'):Clear c s':=by
  refine⟨λb hb=>by rw[k.own];exact h.own b hb,λb hb=>by rw[k.β];exact h.β b hb,λb hb o=>?_,λb hb=>by rw[k.w];exact h.lt b hb⟩;cases e:s'.M b o with
  | none=>rfl
  | some v=>rw[<-k.less b o v e,h.M b hb o]
def Clear.at(h:Clear c s)(d:Nat):Clear c {s with w:=s.w.at d}:=⟨h.own,h.β,h.M,h.lt⟩
def fW.at(h:fW s)(d:Nat):fW {s with w:=s.w.at d}:=h
theorem fW.ghost(k:eK s s'):fW s':=λb o v a=>by rw[k.w];exact k.cell b o v a
def fW.forget(h:fW s)(k:mz s s'):fW s':=λb o v a=>by rw[k.w];exact h b o v (k.less b o v a)
def fW.lt(h:fW s){o:Nat}(a:s.M b o=aa v):b<s.w.heap.size:=by
  have:=h b o v a;rcases cA b s.w.heap.size with h1|h1
  · exact h1
  · simp[aV,yT h1]at this
def bU.at(h:fW s)(d:Nat):bU s {s with w:=s.w.at d}:=⟨rfl,rfl,rfl,aZ _,λ_ _=>rfl,h,rfl,rfl,rfl⟩
def Pp{e:Event}(k:aD σ s)(l:Clear c s)(g:oh s e){B:Nat}(o:s.w.heap.size<=B):EvL (kh c) B e:=by
  obtain⟨n,wr,q⟩:=e;cases n with
  | cell a =>
    obtain⟨h,j,b⟩:=g;simp only at h j b;subst h;have key:¬c a.block/\a.block<s.w.heap.size:=by
      rcases b with b|⟨⟨L,i,b⟩,_⟩|⟨_,v,b⟩
      · exact b.elim
      · exact⟨λx=>l.β _ x L i b,k.lt L i _ b⟩
      · refine⟨λx=>?_,fW.lt k.mem b⟩
        rw[l.M _ x]at b;cases b
    exact evL_cell a wr key.1 (cx key.2 o)
  | obj r =>
    obtain⟨h,j⟩:=g;simp only at h j;subst h;obtain⟨L,i,b⟩:=j.resolve_left id;refine⟨λx d p=>?_,by simp,by simp,?_⟩
    · simp[aF,bj]at d
      subst d;exact absurd b (l.β _ p L i)
    · simp[aF,MemAct.low,Loc.low]
      exact cx (k.lt L i _ b) o
  | mark m =>
    simp only[oh]at g;rcases g with rfl|⟨f,rfl⟩
    · exact⟨λx d=>by simp[aF,bj]at d,by simp,by simp,by simp[aF,MemAct.low]⟩
    · exact⟨λx d=>by simp[aF,bj]at d,by simp,by simp,by simp[aF,MemAct.low]⟩
  | _=>exact g.elim
end
def mL(t:Trace):Prop:=∀a,NoRelease a t
def mL.app{t:Trace}(h:mL t){g:Nat}{fn:aJ}{pos:String}{es:Array Event}(b:∀e∈es,∀a,e.loc≠.mark (.release a)):mL (t++MemOp.ofEvents g fn pos es) :=
  λa=>(h a).app λop ir hx=>by grind[Go.Conc.mem_ofEvents,Go.ConcR.loc_of_ofEvent]
def CV{e:Event}(d:oh s e)(a:Addr):e.loc≠.mark (.release a):=by intro b;obtain⟨loc,wr,g⟩:=e;simp only at b;subst b;rcases d with h|⟨f,h⟩<;>cases h
def uP{e:Event}(d:e.mute=ab)(a:Addr):e.loc≠.mark (.release a):=by intro b;obtain⟨loc,wr,f⟩:=e;simp only at b;subst b;simp[Event.mute]at d
def AD(P:aM)(g:aq)(s:St)(T:aq->St->Prop):Prop :=
  ∀(c:Nat->Prop) (gs:Array aq) (sl:Option (Nat×Nat)) (t:Trace) (q:Nat->Nat),fW s->gs[0]?=aa g->Leavers P t gs q->Past (kh c) s.w.heap.size t->Clear c s->mL t ->
    ∃(N:Nat) (b:Nat->Prop) (a:Array aq) (g':aq) (s':St) (e:Option (Nat×Nat)) (d:Trace) (q':Nat->Nat),
      runNT P N (crowd gs s.w sl) t=(.next (crowd a s'.w e),d)/\fW s'/\a[0]?=aa g'/\Leavers P d a q'/\Past (kh b) s'.w.heap.size d/\Clear b s'/\mL d/\T g' s'
def Cx.beside(P:aM):Cx P:={main:=ab,rely:=λs s'=>bU s s'/\∃d,s'={s with w:=s.w.at d},uO:=AD P,hZ:=λh=>h.1,AN:=True}
instance (P:aM):(Cx.beside P).ic:=⟨ar⟩
theorem runNT_add{P:aM}:∀(N M:Nat) {m b:Machine} {t a:Trace},runNT P N m t=(.next b,a)->runNT P (N+M) m t=runNT P M b a
  | 0,M,m,b,t,a,h=>by simp[runNT]at h;grind
  | N+1,M,m,b,t,a,h=>by
    rw[show N+1+M=(N+M)+1 by omega];simp only[runNT]at h⊢;cases d:stepT P m with
    | mk r ops =>
      rw[d]at h;cases r with
      | next m1=>exact runNT_add N M h
      | ended o w=>grind
def AD.trans{T:aq->St->Prop}(h:AD P g s T)(k:∀g' s',T g' s'->AD P g' s' S):AD P g s S:=by intro c gs sl t q hm h0 hL hP hc hn;obtain⟨N,e,j,g',s',b,o,q',h1,h2,m,p,u,r,f,n⟩:=h c gs sl t q hm h0 hL hP hc hn;obtain⟨M,i,a,g2,s2,d,v,q2,k1,l⟩:=k g' s' n e j b o q' h2 m p u r f;exact⟨N+M,i,a,g2,s2,d,v,q2,by grind[runNT_add],l⟩
def AD.slip{T:aq->St->Prop}(Q:g.status=.running)(one:∀(c:Nat->Prop) (gs:Array aq) (d:Nat) (sl:Option (Nat×Nat)) (t:Trace) (q:Nat->Nat),fW s->gs[0]?=aa g->Leavers P t gs q->Past (kh c) s.w.heap.size t->Clear c s->mL t ->
      ∃(l:Array aq) (G:aq) (v:St) (ops:Array MemOp),runT P (crowd gs (s.w.at d) sl) 0=(.next (crowd l v.w sl),ops)/\fW v/\l[0]?=aa G/\Leavers P (t++ops) l q/\Past (kh c) v.w.heap.size (t++ops)/\Clear c v/\mL (t++ops)/\T G v):AD P g s T:=by
  intro c gs sl t q;have key:∀(n:Nat) (gs:Array aq) (d:Nat) (sl:Option (Nat×Nat)) (t:Trace) (q:Nat->Nat),Go.ConcN.sumTo gs.size q<=n->fW s->gs[0]?=aa g->Leavers P t gs q->Past (kh c) s.w.heap.size t->Clear c s->mL t ->
      ∃(N:Nat) (m:Nat->Prop) (h:Array aq) (g':aq) (s':St) (b:Option (Nat×Nat)) (A:Trace) (q':Nat->Nat),
        runNT P N (crowd gs (s.w.at d) sl) t=(.next (crowd h s'.w b),A)/\fW s'/\h[0]?=aa g'/\Leavers P A h q'/\Past (kh m) s'.w.heap.size A/\Clear m s'/\mL A/\T g' s':=by
    intro n;induction n with
    | zero=>?_
    | succ n K=>?_
    all_goals
      intro gs d sl t q hn hm h0 hL hP hc EA;have I:∀g∈gs,awake g:=by
        intro x R;obtain⟨i,hi,rfl⟩:=Array.mem_iff_getElem.1 R;rcases nk i with rfl|f
        · grind[awake_of]
        · exact awake_of ((hL.old i _ f (fO hi)).status.elim .inl λx=>.inr (.inr x))
      obtain⟨i,x,d2,b,hi,M,o⟩:=crowd_pick (P:=P) (w:=s.w.at d) (sl:=sl) I ⟨0,g,h0,Q⟩;rw[show(s.w.at d).at d2=s.w.at d2 from rfl]at o;rcases nk i with rfl|f
      · obtain⟨l,G,v,ops,k1,H,W,V,Z⟩:=one c gs d2 b t q hm h0 hL hP hc EA
        exact⟨1,c,l,G,v,b,t++ops,q,by simp only[runNT,o,k1],H,W,V,Z⟩
      · have F:=hL.old i x f hi
        have L:(i==0)=ae:=by grind
        have J:i<gs.size:=(eZ.1 hi).1;cases r:q i with
        | zero=>rw[r]at F;rw[F.1]at M;cases M
        | succ k =>
          rw[r]at F;rcases F with⟨hf,_⟩|⟨_,g',es,B,D,S⟩
          · grind
          have O:Go.ConcN.sumTo gs.size (Go.ConcN.upd q i k)+(k+1)=Go.ConcN.sumTo gs.size q+k:=by have:=Go.ConcN.sumTo_upd q k id J;simpa[r]using this
          first
          | (exfalso;omega)
          | (have p:=runT_crowd_go (P:=P) (sl:=b) (i:=i) hi (by rw[L];exact D (s.w.at d2))
             have U:((gs.map (woken P x g' (s.w.at d2))).setIfInBounds i g').size=gs.size:=by simp
             obtain⟨N,m,h,g2,s',E,A,q',k1,H⟩:=K ((gs.map (woken P x g' (s.w.at d2))).setIfInBounds i g') d2 b (t++MemOp.ofEvents i x.frame.fn x.frame.place es) (Go.ConcN.upd q i k) (by grind) hm
              (by grind[woken_run])
              ⟨λj y hj hy=>by
                by_cases u:i=j
                · grind[Go.ConcN.upd_same,Deaf_own]
                · rw[ni u,Array.getElem?_map]at hy
                  obtain⟨z,Y,rfl⟩:=pj.1 hy;have C:=hL.old j z hj Y;rw[woken_quitsD C,Go.ConcN.upd_ne q k (Ne.symm u),Deaf_other t u _ (λop ir=>by grind[Go.Conc.mem_ofEvents])];exact C,λj hj=>by
                rw[Deaf_other t (g':=i) (by grind) _ (λop ir=>by grind[Go.Conc.mem_ofEvents])]
                exact hL.above j (by grind)⟩
              (hP.mute (by omega) B) hc (EA.app λe X a=>uP (B e X) a)
             exact⟨N+1,m,h,g2,s',E,A,q',by simp only[runNT,o,p];exact k1,H⟩)
  intro hm h0 hL hP hc EA;have:=key _ gs s.w.drawn sl t q (aZ _) hm h0 hL hP hc EA
  rwa [show s.w.at s.w.drawn=s.w from rfl]at this
def _root_.Go.Conc.Leavers.own{g':aq}{t:Trace}{q:Nat->Nat}(d:Leavers P t gs q){ops:Array MemOp}(ho:∀op∈ops,op.g=0)(e:0<gs.size):Leavers P (t++ops) ((gs.map (woken P g g' w)).setIfInBounds 0 g') q :=
  ⟨λj y hj hy=>by
    have a:0≠j:=by omega
    rw[ni a,Array.getElem?_map]at hy;obtain⟨z,f,rfl⟩:=pj.1 hy;have b:=d.old j z hj f;rw[woken_quitsD b,Deaf_other t (by omega) _ (λop ir=>ho op ir)];exact b,λj hj=>by
    rw[Deaf_other t (g':=0) (by grind) _ (λop ir=>ho op ir)]
    exact d.above j (by grind)⟩
def fu.beside{P:aM}{S:aq->St->Prop}{g:aq}{s:St}(h:fu (Cx.beside P) S g s):AD P g s S:=by
  induction h with
  | stop h=>intro c gs sl t q hm h0 hL hP hc hn;exact⟨0,c,gs,_,_,sl,t,q,rfl,hm,h0,hL,hP,hc,hn,h⟩
  | ghost hg _ f =>
    intro c gs sl t q hm h0 hL hP hc hn;have:=f c gs sl t q (.ghost hg) h0 hL (by rw[hg.w];exact hP) (hc.ghost hg) hn
    rwa [hg.w]at this
  | forget _ hg _ f =>
    intro c gs sl t q hm h0 hL hP hc hn;have:=f c gs sl t q (hm.forget hg) h0 hL (by rw[hg.w];exact hP) (hc.forget hg) hn
    rwa [hg.w]at this
  | uO hj _ f=>exact AD.trans hj f
  | @step g s u ns ne hr h1 h2 _ f =>
    refine AD.trans (AD.slip (T:=λg' s'=>∃l,(Cx.beside P).rely s l/\g'=u l/\s'=ns l) hr λc gs d sl t q hm h0 hL hP hc EA=>?_) λg' s' ⟨l,k1,p,r⟩=>by subst p r;exact f l k1
    have b:(Cx.beside P).rely s {s with w:=s.w.at d}:=⟨bU.at hm d,d,rfl⟩;obtain⟨⟨σ,σ',hh,o,st⟩,k⟩:=h2 _ b;have m:0<gs.size:=(eZ.1 h0).1;have j:Clear c {s with w:=s.w.at d}:=hc.at d;exact⟨_,_,ns {s with w:=s.w.at d},_,runT_crowd_go (P:=P) (sl:=sl) (i:=0) h0 (show aG P (0==0) g (s.w.at d)=_ from h1 _ b),o.mem,by grind,
      hL.own (λop ir=>by grind[Go.Conc.mem_ofEvents]) m,((hP.mono st.size).own λe n=>Pp hh j (k e n) st.size),j.step st,EA.app λe n a=>CV (k e n) a,_,b,rfl,rfl⟩
inductive Rk where
 |leaf
 |node (f:St->Rk)
def Rk.lt:Rk->Rk->Prop
 |_,.leaf=>False
 |x,.node f=>∃s,x=f s∨Rk.lt x (f s)
def Rk.acc:∀r:Rk,Acc Rk.lt r
 |.leaf=>⟨_,λ_ h=>h.elim⟩
 |.node f=>⟨_,λ_ ⟨s,e⟩=>e.elim (λe=>e▸Rk.acc (f s)) λh=>(Rk.acc (f s)).inv h⟩
def Rk.nat:Nat->Rk
 |0=>.leaf
 |n+1=>.node λ_=>Rk.nat n
def Rk.C9(n:Nat)(s:St):Rk.lt (Rk.nat n) (Rk.nat (n+1)):=⟨s,.inl rfl⟩
def Vec(j:Nat)(a D:Nat->Rk):Prop:=∃i,i<j/\Rk.lt (a i) (D i)/\∀k,k≠i->a k=D k
def Iw:∀j,WellFounded (Vec j)
 |0=>⟨λ_=>⟨_,λ_ ⟨i,h,_⟩=>absurd h (gw i)⟩⟩
 |j+1=>by
  have f:=Iw j;have key:∀a:Rk,∀D:Nat->Rk,D j=a->Acc (Vec (j+1)) D:=by
   intro a;induction Rk.acc a with
   |intro a _ l =>
    intro D;induction f.apply D with
    |intro D _ d =>
     intro m;refine⟨_,λg h=>?_⟩;obtain⟨i,hi,b,k⟩:=h;rcases cA i j with e|e
     .exact d g ⟨i,e,b,k⟩ (by grind)
     grind
  exact⟨λD=>key _ D rfl⟩
section
def jW(X:Cx P)(E:St->St->Array Event->Prop)(S:aq->St->Prop):Rk->aq->St->Prop
 |.leaf,g,s=>S g s
 |.node f,g,s=>S g s∨(∃s',(eK s s'∨(X.AN/\mz s s'))/\jW X E S (f s) g s') ∨
   (g.status=.running/\∀a,X.rely s a->∃g' s' es,aG P X.main g a.w=.go g' s'.w es/\(qn a s' es∨E a s' es)/\jW X E S (f a) g' s')
variable {X:Cx P}{E:St->St->Array Event->Prop}{c:aq->St->Prop}
def eg(X:Cx P)(E:St->St->Array Event->Prop)(S:aq->St->Prop)(g:aq)(s:St):Prop:=∃r,jW X E S r g s
theorem eg.ghost(h:eK s s')(k:eg X E S g s'):eg X E S g s:=by obtain⟨r,k⟩:=k;exact⟨.node λ_=>r,.inr (.inl ⟨s',.inl h,k⟩)⟩
def eg.forget(hl:X.AN)(h:mz s s')(k:eg X E S g s'):eg X E S g s:=by obtain⟨r,k⟩:=k;exact⟨.node λ_=>r,.inr (.inl ⟨s',.inr ⟨hl,h⟩,k⟩)⟩
def eg.step(e:g.status=.running)(h:∀a,X.rely s a->∃g' s' es,aG P X.main g a.w=.go g' s'.w es/\(qn a s' es∨E a s' es)/\eg X E S g' s'):eg X E S g s:=by
 classical
 have hh:∀a,∃r:Rk,X.rely s a->∃g' s' es,aG P X.main g a.w=.go g' s'.w es/\(qn a s' es∨E a s' es)/\jW X E S r g' s':=by
  intro a;by_cases b:X.rely s a
  .obtain⟨g',s',es,h1,h2,r,d⟩:=h a b;exact⟨r,λ_=>⟨g',s',es,h1,h2,d⟩⟩
  .exact⟨.leaf,λh=>absurd h b⟩
 exact⟨.node λa=>Classical.choose (hh a),.inr (.inr ⟨e,λa b=>Classical.choose_spec (hh a) b⟩)⟩
def eg.bind(h:eg X E S g s)(k:∀g s,S g s->eg X E c g s):eg X E c g s:=by
 obtain⟨r,h⟩:=h;induction r generalizing g s with
 |leaf=>exact k g s h
 |node f a =>
  rcases h with h|⟨s',h1,h2⟩|⟨b,h⟩
  .grind
  .rcases h1 with h1|⟨hl,h1⟩
   .exact .ghost h1 (a _ h2)
   .exact .forget hl h1 (a _ h2)
  .exact .step b λe d=>by grind
def fu.toE(hj:∀g s T,¬X.uO g s T)(h:fu X S g s):eg X E S g s:=by
 induction h with
 |stop h=>exact⟨.leaf,h⟩
 |step ng ns ne hr h1 h2 _ a=>exact .step hr λd b=>⟨_,_,_,h1 d b,.inl (h2 d b),a d b⟩
 |ghost hg _ a=>exact .ghost hg a
 |forget hl hg _ a=>exact .forget hl hg a
 |uO hjj _ _=>grind
def jW.norm(I:St->Prop)(m:∀s s',eK s s'->I s->I s')(l:X.AN->∀s s',mz s s'->I s->I s'):∀{r:Rk}{g:aq}{s:St},jW X E S r g s->I s ->
  (∃s',I s'/\S g s')∨(g.status=.running/\∃s',I s'/\∀a,X.rely s' a->∃g' s2 es r',aG P X.main g a.w=.go g' s2.w es/\(qn a s2 es∨E a s2 es)/\jW X E S r' g' s2/\Rk.lt r' r)
 |.leaf,_,s,h,hi=>.inl ⟨s,hi,h⟩
 |.node f,g,s,h,hi=>by
  rcases h with h|⟨s',h1,h2⟩|⟨o,h⟩
  .grind
  .have e:I s':=h1.elim (λx=>m s s' x hi) λx=>l x.1 s s' x.2 hi;rcases jW.norm I m l h2 e with k|⟨k,s2,p,q⟩
   .grind
   .refine .inr ⟨k,s2,p,λa i=>?_⟩;obtain⟨g',j,es,r',k1,b,d,n⟩:=q a i;exact⟨g',j,es,r',k1,b,d,s,.inr n⟩
  .refine .inr ⟨o,s,hi,λa i=>?_⟩;obtain⟨g',j,es,k1,b,d⟩:=h a i;exact⟨g',j,es,f a,k1,b,d,a,.inl rfl⟩
def eg.goes{R:aA->aA->Prop}{D:aA->aA->Array Event->Prop}{Stop:aq->aA->Prop}(I:St->Prop)(m:∀s a,I s->X.rely s a->I a)(f:∀s a,I s->X.rely s a->R s.w a.w)(j:∀s es,I s->∀w',D s.w w' es->w'=s.w/\(qn s s es∨E s s es))(i:∀s,I s->X.rely s s)(k:∀g s,I s->Stop g s.w->eg X E S g s):
  ∀(n:Nat) (g:aq) (s:St),I s->Goes P X.main R D Stop n g s.w->eg X E S g s
 |0,g,s,hi,h=>k g s hi (h s.w (f s s hi (i s hi)))
 |n+1,g,s,hi,h=>by
  rcases h with h|⟨p,h⟩
  .grind
  .refine .step p λa l=>?_;have h1:=h a.w (f s a hi l);have b:=m s a hi l;cases d:aG P X.main g a.w with
   |go g' w' es =>
    rw[d,goes_go]at h1;obtain⟨o,q⟩:=h1;obtain⟨rfl,e⟩:=j a es b w' o;exact⟨g',a,es,rfl,e,eg.goes I m f j i k n g' a b q⟩
   |_=>rw[d]at h1;exact h1.elim
end
theorem bU.ghost(h:bU s {s with w:=w})(k:eK s s'):bU s' {s' with w:=w}:=by
 refine⟨rfl,rfl,rfl,by rw[k.w];exact h.size,λb hb=>by rw[k.w];exact h.keep b (k.blk b hb),λb o v d=>?_,by rw[k.w];exact h.os,by rw[k.w];exact h.tape,by rw[k.w];exact h.output⟩;have e:=k.cell b o v d;by_cases hb:∃L∈s.β,b∈L.bs
 .have:=h.keep b (.inr hb);simp only[aV]at e⊢;grind
 .have:s.M b o=aa v:=by rw[<-k.iI b (λL f a=>hb ⟨L,f,a⟩)];exact d
  exact h.mem b o v this
def bU.forget(h:bU s {s with w:=w})(k:mz s s'):bU s' {s' with w:=w} :=
 ⟨rfl,rfl,rfl,by rw[k.w];exact h.size,λb hb=>by rw[k.w];exact h.keep b (by rw[<-k.own,<-k.β];exact hb),λb o v a=>h.mem b o v (k.less b o v a),by rw[k.w];exact h.os,by rw[k.w];exact h.tape,by rw[k.w];exact h.output⟩
def bU.vn(h:fW s):bU s s:=⟨rfl,rfl,rfl,aZ _,λ_ _=>rfl,h,rfl,rfl,rfl⟩
def bU.trans'(h:bU s {s with w:=w}):bU {s with w:=w} {s with w:=w}:=bU.vn h.mem
def bU.trans{s a s2:St}(h:bU s a)(k:bU a s2):bU s s2 :=
 ⟨k.β.trans h.β,k.M.trans h.M,k.own.trans h.own,dO h.size k.size,λb hb=>by rw[k.keep b (by rw[h.own,h.β];exact hb),h.keep b hb],λb o v d=>k.mem b o v (by rw[h.M];exact d),k.os.trans h.os,k.tape.trans h.tape,k.output.trans h.output⟩
end
section
open Go.Conc
open Go.ConcN (fork_knows RelBy)
open Go.ConcR (stA smA)
def lB:Go.Loc->Option Nat
 |.cell a=>aa a.block
 |.obj r=>aa r
 |_=>af
def Bb{l:Go.Loc}(h:l.isMemory=ab):∃b,lB l=aa b:=by cases l<;>simp[Go.Loc.isMemory]at h<;>exact⟨_,rfl⟩
def F8{x:MemAct}{a:Touch}{B:Nat}(h:x.touch?=aa a)(g:x.low B)(c:lB a.loc=aa b):b<B:=by
 cases x with
 |access e =>
  simp[bj]at h;subst h;simp only at c;obtain⟨loc,wr,i⟩:=e;cases loc<;>simp[lB]at c<;>subst c<;>exact g
 |mark m =>
  cases m<;>simp[bj]at h<;>subst h<;>simp[lB]at c<;>subst c<;>exact g
 |_=>simp[bj]at h
structure Lay where
 Sh:Nat->Prop
 T0:Nat
 Wg:Nat
 C:Nat
 base:Nat
 kc:Nat
def rG(Y:Lay)(d:Nat->Nat)(a:Touch):Prop :=
 (∃ad,a.loc=.cell ad/\ad.block=Y.Wg/\a.kind≠.plain)∨(∃b,lB a.loc=aa b/\d b=0/\b≠Y.Wg/\b≠Y.C/\¬Y.Sh b/\a.kind=.plain)
def qc(Y:Lay)(d:Nat->Nat)(f:Mem)(x:Nat)(a:Touch):Prop :=
 (∃ad,a.loc=.cell ad/\ad.block=Y.Wg/\a.kind=.atomic) ∨
 (a.kind=.plain/\((∃b,lB a.loc=aa b/\d b=Y.base+x)∨(∃o,a.loc=.cell ⟨Y.C,o,af⟩/\Y.kc*x<=o/\o<Y.kc*x+Y.kc)∨(a.write=ae/\∃b o v,a.loc=.cell ⟨b,o,af⟩/\f b o=aa v)))
structure TL(Y:Lay)(d:Nat->Nat)(f:Nat->Mem)(t:Trace)(j B:Nat):Prop where
 base:1<=Y.base
 HC:d Y.Wg=0
 hC:d Y.C=0
 ne:Y.C≠Y.Wg
 OD:¬Y.Sh Y.Wg
 P2:¬Y.Sh Y.C
 HD:∀b,Y.Sh b->d b=0
 ms:∀x,x<j->∀b o v,f x b o=aa v->d b=0/\b≠Y.C/\b≠Y.Wg/\¬Y.Sh b
 T0:Y.T0<=t.size
 nr:∀said,¬Race said t
 seen:∀op∈t,op.act.low B
 old:∀i a,i<Y.T0->touchAt t i=aa a->a.loc.isMemory=ab->Knows t 0 i∨(kh Y.Sh a.loc/\a.kind=.atomic)
 P3:∀x,x<j->∀i a,i<Y.T0->touchAt t i=aa a->a.loc.isMemory=ab->Knows t (Y.base+x) i∨(kh Y.Sh a.loc/\a.kind=.atomic)
 F9:∀i a b,i<Y.T0->touchAt t i=aa a->lB a.loc=aa b->d b=0
 new:∀i a,Y.T0<=i->touchAt t i=aa a->a.loc.isMemory=ab->(t.g? i=aa 0/\rG Y d a)∨(∃x,x<j/\t.g? i=aa (Y.base+x)/\qc Y d (f x) x a)
 mw:∀x,x<j->∀i a,Y.T0<=i->touchAt t i=aa a->t.g? i=aa 0->a.write=ab->∀b o v,a.loc=.cell ⟨b,o,af⟩->f x b o=aa v->Knows t (Y.base+x) i
 over:∀i g,i<Y.T0->t.g? i=aa g->g≠0->t.counts i->∃k,t.g? k=aa 0/\HappensBefore t i k
section
variable {Y:Lay}{d hm':Nat->Nat}{f:Nat->Mem}{t u:Trace}{B B':Nat}
theorem uB{a:Touch}{g:Nat}(h:touchAt t i=aa a)(c:t.g? i=aa g):Knows t g i:=by
 obtain⟨x,b,_⟩:=touch_of h;have:x.g=g:=by simpa[Trace.g?,b]using c
 grind[knows_own]
def TL.low(h:TL Y d f t j B){a:Touch}(g:touchAt t i=aa a)(hb:lB a.loc=aa b):b<B:=by obtain⟨x,e,c⟩:=touch_of g;exact F8 c (h.seen x (uf e)) hb
def TL.su(h:TL Y d f t j B)(hh:∀b,b<B->hm' b=d b)(s:B<=B')(r:Y.Wg<B)(hC:Y.C<B)(p:∀b,Y.Sh b->b<B)(q:∀x,x<j->∀b o v,f x b o=aa v->b<B):TL Y hm' f t j B':=by
 have g:∀i a,touchAt t i=aa a->rG Y d a->rG Y hm' a:=λi a c h1=>by
  rcases h1 with h1|⟨b,h1,h2,k⟩
  .exact .inl h1
  .exact .inr ⟨b,h1,by rw[hh b (h.low c h1)];exact h2,k⟩
 have e:∀x i a,touchAt t i=aa a->qc Y d (f x) x a->qc Y hm' (f x) x a:=λx i a c h1=>by
  rcases h1 with h1|⟨n,⟨b,h1,h2⟩|h1⟩
  .exact .inl h1
  .exact .inr ⟨n,.inl ⟨b,h1,by rw[hh b (h.low c h1)];exact h2⟩⟩
  .exact .inr ⟨n,.inr h1⟩
 refine⟨h.base,by rw[hh _ r];exact h.HC,by rw[hh _ hC];exact h.hC,h.ne,h.OD,h.P2,λb hb=>by rw[hh b (p b hb)];exact h.HD b hb,λx l b o v m=>by rw[hh b (q x l b o v m)];exact h.ms x l b o v m,
  h.T0,h.nr,λop ir=>MemAct.low_mono s (h.seen op ir),h.old,h.P3,λi a b hi c hb=>by rw[hh b (h.low c hb)];exact h.F9 i a b hi c hb,λi a hi c d=>?_,h.mw,h.over⟩
 rcases h.new i a hi c d with⟨h1,h2⟩|⟨x,h1,h2,k⟩
 .grind
 grind
def TL.MC(h:TL Y d f t j B):Y.T0<=(t++u).size:=dO h.T0 (by simp)
theorem j4(h:i<t.size):(t++u).g? i=t.g? i:=by simp[Trace.g?,getElem?_append_old h]
def TL.rH(h:TL Y d f t j B)(u:Trace):∀i g,i<Y.T0->(t++u).g? i=aa g->g≠0->(t++u).counts i->∃k,(t++u).g? k=aa 0/\HappensBefore (t++u) i k:=by
 intro i g hi hg AE hc;have a:=cx hi h.T0;rw[j4 a]at hg;obtain⟨k,b,hb⟩:=h.over i g hi hg AE ((counts_old a).1 hc);have c:k<t.size:=by unfold Trace.g? at b;grind
 exact⟨k,by grind[j4],hb_app u hb⟩
def Bc{c:Nat->Prop}{l:Go.Loc}(h:kh c l)(a:lB l=aa b):c b:=by cases l<;>simp[lB]at a<;>subst a<;>exact h
def TL.apart(h:TL Y d f t j B){x:Nat}(r:x<j){a b:Touch}{said:Bool}(l:rG Y d b)(n:qc Y d (f x) x a)(hl:a.loc=b.loc)(A:a.kind=.plain∨b.kind=.plain∨(said=ab/\a.kind=.said/\b.kind=.said))(G:b.kind=.plain->b.write=ab->∀m o v,b.loc=.cell ⟨m,o,af⟩->f x m o≠aa v)(w:a.write=ab∨b.write=ab):False:=by
 have s:=h.base;rcases n with⟨ad,e1,e2,e3⟩|⟨y,⟨c,e1,e2⟩|⟨o,e1,_⟩|⟨e1,m,o,v,e2,e3⟩⟩
 .rcases l with⟨k,e,g,i⟩|⟨c,e,g,i,_⟩
  .grind
  .rw[<-hl,e1]at e;simp only[lB,dx]at e;grind
 .rcases l with⟨k,e,g,i⟩|⟨p,e,g,i,_⟩
  .rw[hl,e]at e1;simp only[lB,dx]at e1;rw[<-e1,g,h.HC]at e2;omega
  grind
 .rcases l with⟨k,e,g,i⟩|⟨p,e,g,i,q,_⟩
  .rw[<-hl,e1]at e;cases e;exact h.ne g
  .rw[<-hl,e1]at e;simp only[lB,dx]at e;grind
 .obtain⟨z,E,C,F⟩:=h.ms x r m o v e3;rcases l with⟨k,e,g,i⟩|⟨p,e,g,i,q,_,D⟩
  .grind
  grind
def TL.app0(h:TL Y d f t j B)(F:∀op∈u,op.g=0)(hl:∀op∈u,op.act.low B)(D:∀op∈u,∀a,op.act.touch?=aa a->a.loc.isMemory=ab->rG Y d a)(N:∀op∈u,∀a,op.act.touch?=aa a->a.kind=.plain->a.write=ab->∀x,x<j->∀b o v,a.loc=.cell ⟨b,o,af⟩->f x b o≠aa v):TL Y d f (t++u) j B:=by
 have e:∀{i:Nat} {a:Touch},touchAt (t++u) i=aa a->(i<t.size/\touchAt t i=aa a)∨(t.size<=i/\(t++u).g? i=aa 0/\∃op∈u,op.act.touch?=aa a):=by
  intro i a k;obtain⟨x,p,C⟩:=touch_of k;rcases getElem?_append_cases p with⟨hi,L⟩|⟨hi,r⟩
  .grind [touchAt_of]
  .exact .inr ⟨hi,by simp[Trace.g?,p,F x r],x,r,C⟩
 refine⟨h.base,h.HC,h.hC,h.ne,h.OD,h.P2,h.HD,h.ms,h.MC,λsaid=>?_,seen_app h.seen hl,λi a hi k d=>?_,λx p i a hi k d=>?_,λi a b hi k hb=>?_,λi a hi k d=>?_,λx p i a hi k w z b o v n G=>?_,h.rH u⟩
 .refine noRace_append (h.nr said) F λi a k op ir b hb hc=>?_;have y:b.loc.isMemory=ab:=by rw[<-hc.1];exact hc.2.1
  have E:=D op ir b hb y;rcases cA i Y.T0 with hi|hi
  .rcases h.old i a hi k hc.2.1 with I|⟨H,M⟩
   .exact I
   .exfalso;obtain⟨c,m⟩:=Bb hc.2.1;have s:=Bc H m;rcases E with⟨ad,e1,e2,e3⟩|⟨J,e1,e2,e3,O,P,K⟩
    .rw[hc.1,e1]at m;simp only[lB,dx]at m;rw[<-m,e2]at s;exact h.OD s
    .rw[hc.1,e1]at m;grind
  .rcases h.new i a hi k hc.2.1 with⟨w,_⟩|⟨x,p,w,A⟩
   .grind [uB]
   .exact(h.apart p E A hc.1 hc.2.2.2 (λh1 h2=>N op ir b hb h1 h2 x p) hc.2.2.1).elim
 .have l:touchAt t i=aa a:=by rw[<-touchAt_old (u:=u) (cx hi h.T0)];exact k
  exact(h.old i a hi l d).imp (·.app u) id
 .have l:touchAt t i=aa a:=by rw[<-touchAt_old (u:=u) (cx hi h.T0)];exact k
  exact(h.P3 x p i a hi l d).imp (·.app u) id
 .have l:touchAt t i=aa a:=by rw[<-touchAt_old (u:=u) (cx hi h.T0)];exact k
  exact h.F9 i a b hi l hb
 .rcases e k with⟨h1,h2⟩|⟨_,h2,op,ir,q⟩
  .rw[j4 h1];exact h.new i a hi h2 d
  grind
 .rcases e k with⟨h1,h2⟩|⟨_,h2,op,ir,q⟩
  .rw[j4 h1]at w;exact(h.mw x p i a hi h2 w z b o v n G).app u
  .exfalso;rcases D op ir a q (by rw[n];rfl)with⟨ad,e1,e2,e3⟩|⟨J,_,_,_,_,_,K⟩
   .rw[n]at e1;cases e1;exact(h.ms x p b o v G).2.2.1 e2
   grind
def TL.appW(h:TL Y d f t j B){x:Nat}(A:x<j)(W:∀op∈u,op.g=Y.base+x)(hl:∀op∈u,op.act.low B)(ht:∀op∈u,∀a,op.act.touch?=aa a->a.loc.isMemory=ab->qc Y d (f x) x a):TL Y d f (t++u) j B:=by
 have Yf:=h.base;have r:∀{i:Nat} {a:Touch},touchAt (t++u) i=aa a->(i<t.size/\touchAt t i=aa a)∨(t.size<=i/\(t++u).g? i=aa (Y.base+x)/\∃op∈u,op.act.touch?=aa a):=by
  intro i a q;obtain⟨y,w,K⟩:=touch_of q;rcases getElem?_append_cases w with⟨hi,hy'⟩|⟨hi,I⟩
  .grind [touchAt_of]
  .exact .inr ⟨hi,by simp[Trace.g?,w,W y I],y,I,K⟩
 refine⟨h.base,h.HC,h.hC,h.ne,h.OD,h.P2,h.HD,h.ms,h.MC,λsaid=>?_,seen_app h.seen hl,λi a hi q d=>?_,λy w i a hi q d=>?_,λi a b hi q hb=>?_,λi a hi q d=>?_,λy w i a hi q F G b o v H S=>?_,h.rH u⟩
 .refine noRace_append (h.nr said) W λi a q op ir b hb hc=>?_;have P:b.loc.isMemory=ab:=by rw[<-hc.1];exact hc.2.1
  have D:=ht op ir b hb P;obtain⟨c,l⟩:=Bb hc.2.1;rcases cA i Y.T0 with hi|hi
  .rcases h.P3 x A i a hi q hc.2.1 with R|⟨hs,hka⟩
   .exact R
   .exfalso;have n:=Bc hs l;rw[hc.1]at l;rcases D with⟨ad,e1,e2,e3⟩|⟨Z,⟨c',e1,e2⟩|⟨o,e1,_⟩|⟨e1,p,o,v,e2,e3⟩⟩
    .rw[e1]at l;simp only[lB,dx]at l;rw[<-l,e2]at n;exact h.OD n
    .rw[e1]at l;simp only[dx]at l;rw[<-l]at n;rw[h.HD _ n]at e2;omega
    .rw[e1]at l;simp only[lB,dx]at l;rw[<-l]at n;exact h.P2 n
    .rw[e2]at l;simp only[lB,dx]at l;rw[<-l]at n;exact(h.ms x A p o v e3).2.2.2 n
  .rcases h.new i a hi q hc.2.1 with⟨F,U⟩|⟨y,w,F,T⟩
   ·
    by_cases E:a.write=ab/\∃p o v,a.loc=.cell ⟨p,o,af⟩/\f x p o=aa v
    .obtain⟨h1,p,o,v,h2,V⟩:=E;exact h.mw x A i a hi q F h1 p o v h2 V
    .exfalso;refine h.apart (said:=said) A U D hc.1.symm ?_ (λ_ N p o v k S=>E ⟨N,p,o,v,k,S⟩) hc.2.2.1.symm;rcases hc.2.2.2 with R|R|⟨h1,h2,V⟩
     .grind
     .grind
     grind
   .by_cases O:y=x
    .grind [uB]
    .exfalso;obtain⟨k,_,G,J⟩:=hc;rcases T with⟨ad,e1,e2,e3⟩|⟨Z,⟨c1,e1,e2⟩|⟨o,e1,e1l,e1u⟩|⟨e1,p,o,v,e2,e3⟩⟩
     .rcases D with⟨C,e,m,z⟩|⟨f0,⟨c2,e,m⟩|⟨o,e,_⟩|⟨e,p,o,v,m,z⟩⟩
      .grind
      .rw[<-k,e1]at e;simp only[lB,dx]at e;rw[<-e,e2,h.HC]at m;omega
      .rw[<-k,e1]at e;cases e;exact h.ne e2
      .rw[<-k,e1]at m;cases m;exact(h.ms x A p o v z).2.2.1 e2
     .rcases D with⟨C,e,m,z⟩|⟨f0,⟨c2,e,m⟩|⟨o,e,_⟩|⟨e,p,o,v,m,z⟩⟩
      .rw[k,e]at e1;simp only[lB,dx]at e1;rw[<-e1,m,h.HC]at e2;omega
      .grind
      .rw[k,e]at e1;simp only[lB,dx]at e1;rw[<-e1,h.hC]at e2;omega
      .rw[k,m]at e1;simp only[lB,dx]at e1;rw[<-e1,(h.ms x A p o v z).1]at e2;omega
     .rcases D with⟨C,e,m,z⟩|⟨f0,⟨c2,e,m⟩|⟨L,e,Q,M⟩|⟨e,p,L,v,m,z⟩⟩
      .rw[<-k,e1]at e;cases e;exact h.ne m
      .rw[<-k,e1]at e;simp only[lB,dx]at e;rw[<-e,h.hC]at m;omega
      .rw[<-k,e1]at e;cases e;rcases Nat.lt_or_gt_of_ne O with h1|h1
       .have:=uh Y.kc (show y+1<=x from h1);grind
       .have:=uh Y.kc (show x+1<=y from h1);grind
      .rw[<-k,e1]at m;cases m;exact(h.ms x A _ _ v z).2.1 rfl
     .rcases D with⟨C,e,m,z⟩|⟨f0,⟨c2,e,m⟩|⟨L,e,Q,M⟩|⟨e,b2,L,v',m,z⟩⟩
      .rw[<-k,e2]at e;cases e;exact(h.ms y w p o v e3).2.2.1 m
      .rw[<-k,e2]at e;simp only[lB,dx]at e;rw[<-e,(h.ms y w p o v e3).1]at m;omega
      .rw[<-k,e2]at e;cases e;exact(h.ms y w _ _ v e3).2.1 rfl
      grind
 .have s:touchAt t i=aa a:=by rw[<-touchAt_old (u:=u) (cx hi h.T0)];exact q
  exact(h.old i a hi s d).imp (·.app u) id
 .have s:touchAt t i=aa a:=by rw[<-touchAt_old (u:=u) (cx hi h.T0)];exact q
  exact(h.P3 y w i a hi s d).imp (·.app u) id
 .have s:touchAt t i=aa a:=by rw[<-touchAt_old (u:=u) (cx hi h.T0)];exact q
  exact h.F9 i a b hi s hb
 .rcases r q with⟨h1,h2⟩|⟨_,h2,op,ir,X⟩
  .rw[j4 h1];exact h.new i a hi h2 d
  grind
 .rcases r q with⟨h1,h2⟩|⟨_,h2,_⟩
  .rw[j4 h1]at F;exact(h.mw y w i a hi h2 F G b o v H S).app u
  grind
def TL.mute(h:TL Y d f t j B){g:Nat}(n:∀op∈u,op.g=g)(hl:∀op∈u,op.act.low B)(r:∀op∈u,op.act.touch?=af):TL Y d f (t++u) j B:=by
 have old:∀{i:Nat} {a:Touch},touchAt (t++u) i=aa a->i<t.size/\touchAt t i=aa a:=by intro i a c;obtain⟨y,s,p⟩:=touch_of c;grind[touchAt_of]
 refine⟨h.base,h.HC,h.hC,h.ne,h.OD,h.P2,h.HD,h.ms,h.MC,λsaid=>noRace_append (h.nr said) n λi a _ op ir b hb _=>(by grind),seen_app h.seen hl,λi a hi c d=>(h.old i a hi (old c).2 d).imp (·.app u) id,
  λx k i a hi c d=>(h.P3 x k i a hi (old c).2 d).imp (·.app u) id,λi a b hi c hb=>h.F9 i a b hi (old c).2 hb,λi a hi c d=>?_,λx k i a hi c m l b o v e q=>?_,h.rH u⟩
 .rw[j4 (old c).1];exact h.new i a hi (old c).2 d
 .rw[j4 (old c).1]at m;exact(h.mw x k i a hi (old c).2 m l b o v e q).app u
def TL.fork(h:TL Y d f t j B){x y:MemOp}(m:x.g=0/\x.act=.go (Y.base+j))(n:y.g=Y.base+j/\y.act=.start)(D:Deaf t 0=0)(A:Deaf t (Y.base+j)=0)(G:∀b o v,f j b o=aa v->d b=0/\b≠Y.C/\b≠Y.Wg/\¬Y.Sh b):TL Y d f (t++#[x,y]) (j+1) B:=by
 have E:∀op∈#[x,y],op.act.touch?=af:=by
  intro op ir;simp only[List.mem_toArray,dK,nt,or_false]at ir;rcases ir with rfl|rfl
  .rw[m.2];rfl
  .rw[n.2];rfl
 have l:∀op∈#[x,y],op.act.low B:=by
  intro op ir;simp only[List.mem_toArray,dK,nt,or_false]at ir;rcases ir with rfl|rfl
  .rw[m.2];trivial
  .rw[n.2];trivial
 have old:∀{i:Nat} {a:Touch},touchAt (t++#[x,y]) i=aa a->i<t.size/\touchAt t i=aa a:=by intro i a c;obtain⟨z,q,F⟩:=touch_of c;grind[touchAt_of]
 have w:∀z,z<j+1->∀b o v,f z b o=aa v->d b=0/\b≠Y.C/\b≠Y.Wg/\¬Y.Sh b:=λz q b o v p=>by
  rcases cA z j with h1|h1
  .exact h.ms z h1 b o v p
  grind
 refine⟨h.base,h.HC,h.hC,h.ne,h.OD,h.P2,h.HD,w,h.MC,λsaid=>?_,seen_app h.seen l,λi a hi c d=>(h.old i a hi (old c).2 d).imp (·.app _) id,
  λz q i a hi c d=>?_,λi a b hi c hb=>h.F9 i a b hi (old c).2 hb,λi a hi c d=>?_,λz q i a hi c s r b o v k p=>?_,h.rH _⟩
 .have e:t++#[x,y]=(t++#[x])++#[y]:=by grind
  rw[e];refine noRace_append (g:=Y.base+j) (noRace_append (g:=0) (h.nr said) (λop ir=>by grind) (λi a _ op ir b hb _=>?_)) (λop ir=>by grind) (λi a _ op ir b hb _=>?_)
  .grind
  grind
 .rcases cA z j with h1|h1
  .exact(h.P3 z h1 i a hi (old c).2 d).imp (·.app _) id
  .obtain rfl:z=j:=by omega
   exact(h.old i a hi (old c).2 d).imp (fork_knows m n D A) id
 .rw[j4 (old c).1];rcases h.new i a hi (old c).2 d with h1|⟨z,h1,h2⟩
  .grind
  grind
 .rw[j4 (old c).1]at s;rcases cA z j with h1|h1
  .exact(h.mw z h1 i a hi (old c).2 s r b o v k p).app _
  .obtain rfl:z=j:=by omega
   exact fork_knows m n D A (uB (old c).2 s)
def TL.Pz(h:TL Y d f t j B)(M:Deaf t 0=0)(L:NoRelease (stA Y.Wg) t){q:Nat}(I:t.act? q=aa (.mark (.acquire (stA Y.Wg))))(y:t.g? q=aa 0)(C:t.heard q)(H:∀x,x<j->∃r,RelBy (stA Y.Wg) t (Y.base+x) r/\r<q):Past (kh λb=>Y.Sh b∨b=Y.Wg) B t:=by
 have m:∀x,x<j->∀i,t.g? i=aa (Y.base+x)->t.counts i->HappensBefore t i q:=by
  intro x w i v p;obtain⟨r,c,A⟩:=H x w;have e:HappensBefore t r q:=.single (.inr ⟨.marked A (.inr c.act) I (λk _ _=>L k),c.heard,C⟩);have J:i<=r:=Nat.le_of_not_lt λo=>c.after i o v p;rcases cA i r with o|K
  .exact .trans (.single (.inl ⟨o,_,v,c.g⟩)) e
  grind
 have n:∀{l:Go.Loc},kh Y.Sh l->kh (λb=>Y.Sh b∨b=Y.Wg) l:=λ{l} hl=>by cases l<;>first|exact .inl hl|exact hl
 refine⟨h.nr,λi a s d=>?_,λi g v E p=>?_,M,h.seen⟩
 .rcases cA i Y.T0 with hi|hi
  .exact(h.old i a hi s d).imp id λ⟨h1,h2⟩=>⟨n h1,h2⟩
  .rcases h.new i a hi s d with⟨h1,_⟩|⟨x,w,v,G⟩
   .grind [uB]
   .rcases G with⟨ad,e1,e2,e3⟩|⟨P,_⟩
    .exact .inr ⟨by rw[e1];exact .inr e2,e3⟩
    .left;have p:t.counts i:=⟨a,s,d,.inl (by grind)⟩
     obtain⟨z,O,D⟩:=pj.1 y;exact⟨q,z,O,D,.inr (m x w i v p)⟩
 .rcases cA i Y.T0 with hi|hi
  .exact h.over i g hi v E p
  .obtain⟨a,s,d,N⟩:=p;rcases h.new i a hi s d with⟨h1,_⟩|⟨x,w,F,G⟩
   .grind
   .exact⟨q,y,m x w i F ⟨a,s,d,N⟩⟩
def TL.start{Y:Lay}{t:Trace}{B:Nat}{f:Nat->Mem}(e:Past (kh Y.Sh) B t)(n:Y.T0=t.size)(hb:1<=Y.base)(b:Y.C≠Y.Wg)(k:¬Y.Sh Y.Wg)(j:¬Y.Sh Y.C):TL Y (λ_=>0) f t 0 B :=
 ⟨hb,rfl,rfl,b,k,j,λ_ _=>rfl,λx c=>absurd c (gw x),by omega,e.clean,e.seen,λi a _ h d=>e.known i a h d,λx c=>absurd c (gw x),λ_ _ _ _ _ _=>rfl,
  λi a hi h _=>by
   obtain⟨x,c,_⟩:=touch_of h
   grind,λx c=>absurd c (gw x),λi g _ m b l=>e.over i g m b l⟩
end
end
section
open Go.Conc
open Go.ConcN (WD CTag Mode Vc Ssum pend phi cnt WgLive PayAt Has RW DWs WSit RelBy sumTo upd upd_same upd_ne AtR0 get_map_set get_map_set_same norel_of Deaf_still)
open Go.ConcR (KK WgAt stA smA rd wr mk Payload g_of_ofEvents)
def Cx.work(P:aM):Cx P:={main:=ae,rely:=bU,uO:=λ_ _ _=>False,hZ:=id,AN:=True}
def Cx.lead(P:aM)(ty:aw)(Wg:Nat):Cx P:={main:=ab,rely:=λs s'=>bU s s'/\(WgLive ty Wg s.w->WgLive ty Wg s'.w),uO:=λ_ _ _=>False,hZ:=λh=>h.1,AN:=False}
instance (P:aM):(Cx.work P).ic:=⟨ar⟩
def E0:St->St->Array Event->Prop:=λ_ _ _=>False
def Es(Wg:Nat):St->St->Array Event->Prop:=λs s' es=>s'=s/\∃a:Addr,a.block=Wg/\(es=#[mk (.read a)]∨es=#[mk (.write a)])
def OE:Nat->Go.Loc->Prop:=λ_ _=>False
variable [Payload]
structure SU(C N lo k:Nat)(vs:Nat->ai)(w w':aA):Prop where
 tape:w'.tape=w.tape
 os:w'.os=w.os
 output:w'.output=w.output
 size:w'.heap.size=w.heap.size
 block:∀b,b≠C->w'.heap[b]?=w.heap[b]?
 pay:PayAt C N w'
 out:∀o,(o<lo∨lo+k<=o)->w'.cell? ⟨C,o,af⟩=w.cell? ⟨C,o,af⟩
 new:∀i,i<k->w'.cell? ⟨C,lo+i,af⟩=aa (vs i)
section
variable (P:aM)(ty:aw)(Y:Lay)(N:Nat)(val:Nat->Nat->ai)
def Ix(x:Nat)(g:aq)(s:St):Prop :=
 g.status=.running/\∀w1,bU s {s with w:=w1}->PayAt Y.C N w1->WgLive ty Y.Wg w1 ->
  ∃g' w2 es,aG P ae g w1=.go g' w2 es/\SU Y.C N (Y.kc*x) Y.kc (val x) w1 w2/\(∀e∈es,∃o,e=⟨.cell ⟨Y.C,o,af⟩,ab,ae⟩/\Y.kc*x<=o/\o<Y.kc*x+Y.kc) /\
   ∃m,Goes P ae (RW ty Y.Wg Y.C N 0 (Y.kc*x)) Go.ConcR.DC0 (AtR0 P ty Y.Wg Y.C N 0 (Y.kc*x+1) (val x 0)) m g' w2
end
structure lC(f:Nat->Nat)(r:Mem)(g:Nat)(s:St):Prop where
 blk:∀b,(s.own b∨∃L∈s.β,b∈L.bs)->f b=g/\b<s.w.heap.size
 M:∀b o v,s.M b o=aa v->(f b=g∨r b o=aa v)/\b<s.w.heap.size
structure jy(Y:Lay)(f:Nat->Nat)(D:Nat->Mem)(j:Nat)(s:St):Prop where
 blk:∀b,(s.own b∨∃L∈s.β,b∈L.bs)->f b=0/\b≠Y.C/\b≠Y.Wg/\¬Y.Sh b/\b<s.w.heap.size
 M:∀b o v,s.M b o=aa v->f b=0/\b≠Y.C/\b≠Y.Wg/\¬Y.Sh b/\b<s.w.heap.size
 ms:∀x,x<j->∀b o v,D x b o=aa v->s.M b o=aa v
structure Ga(Y:Lay)(f:Nat->Nat)(r:Mem)(y:Nat)(w w':aA):Prop where
 size:w.heap.size<=w'.heap.size
 blk:∀b,b<w.heap.size->f b=Y.base+y->w'.heap[b]?=w.heap[b]?
 cell:∀b o v,r b o=aa v->w.cell? ⟨b,o,af⟩=aa v->w'.cell? ⟨b,o,af⟩=aa v
 pay:∀o,Y.kc*y<=o->o<Y.kc*y+Y.kc->w'.cell? ⟨Y.C,o,af⟩=w.cell? ⟨Y.C,o,af⟩
 os:w'.os=w.os
 tape:w'.tape=w.tape
 output:w'.output=w.output
omit [Payload]in
def Ga.refl(Y:Lay)(f:Nat->Nat)(r:Mem)(y:Nat)(w:aA):Ga Y f r y w w:=⟨aZ _,λ_ _ _=>rfl,λ_ _ _ _ h=>h,λ_ _ _=>rfl,rfl,rfl,rfl⟩
omit [Payload]in
def Ga.at(Y:Lay)(f:Nat->Nat)(r:Mem)(y:Nat)(w:aA)(d:Nat):Ga Y f r y w (w.at d):=⟨aZ _,λ_ _ _=>rfl,λ_ _ _ _ h=>h,λ_ _ _=>rfl,rfl,rfl,rfl⟩
structure Da(Y:Lay)(f:Nat->Nat)(w w':aA):Prop where
 size:w.heap.size<=w'.heap.size
 blk:∀b,b<w.heap.size->f b=0->b≠Y.C->b≠Y.Wg->w'.heap[b]?=w.heap[b]?
 os:w'.os=w.os
 tape:w'.tape=w.tape
 output:w'.output=w.output
omit [Payload]in
def jz(h:w'.heap[b]?=w.heap[b]?)(o:Nat):w'.cell? ⟨b,o,af⟩=w.cell? ⟨b,o,af⟩:=by simp[aV,h]
omit [Payload]in
def bU.more(h:bU s {s with w:=w})(z:w.heap.size<=w'.heap.size)(c:∀b,(s.own b∨∃L∈s.β,b∈L.bs)->w'.heap[b]?=w.heap[b]?)(X:∀b o v,s.M b o=aa v->w.cell? ⟨b,o,af⟩=aa v->w'.cell? ⟨b,o,af⟩=aa v)(l:w'.os=w.os)(p:w'.tape=w.tape)(t:w'.output=w.output):bU s {s with w:=w'} :=
 ⟨rfl,rfl,rfl,dO h.size z,λb J=>by show w'.heap[b]?=_;rw[c b J];exact h.keep b J,λb o v q=>X b o v q (h.mem b o v q),l.trans h.os,p.trans h.tape,t.trans h.output⟩
section
variable {Y:Lay}{f hm':Nat->Nat}{D:Nat->Mem}{y:Nat}
omit [Payload]in
def lC.Iy(n:lC f (D y) (Y.base+y) s)(h:bU s {s with w:=w})(k:Ga Y f (D y) y w w'):bU s {s with w:=w'}:=by
 have z:=h.size;refine h.more k.size (λb c=>?_) (λb o v q K=>?_) k.os k.tape k.output
 .obtain⟨l,p⟩:=n.blk b c;exact k.blk b (cx p z) l
 .obtain⟨l,p⟩:=n.M b o v q;rcases l with l|l
  .rw[jz (k.blk b (cx p z) l) o];exact K
  .exact k.cell b o v l K
omit [Payload]in
def lC.su{r:Mem}{g:Nat}(n:lC f r g s)(h:s.w.heap.size<=w.heap.size)(W:∀b,b<w.heap.size->hm' b=f b):lC hm' r g s :=
 ⟨λb c=>let ⟨l,p⟩:=n.blk b c;⟨by grind,p⟩,λb o v q=>let ⟨l,p⟩:=n.M b o v q;⟨by grind,p⟩⟩
omit [Payload]in
def jy.Iy(n:jy Y f D j s)(h:bU s {s with w:=w})(k:Da Y f w w'):bU s {s with w:=w'}:=by
 have z:=h.size;refine h.more k.size (λb c=>?_) (λb o v q K=>?_) k.os k.tape k.output
 .obtain⟨l,p,t,G,E⟩:=n.blk b c;exact k.blk b (cx E z) l p t
 .obtain⟨l,p,t,G,E⟩:=n.M b o v q;rw[jz (k.blk b (cx E z) l p t) o];exact K
omit [Payload]in
def jy.su(n:jy Y f D j s)(h:s.w.heap.size<=w.heap.size)(W:∀b,b<w.heap.size->hm' b=f b):jy Y hm' D j s :=
 ⟨λb c=>let ⟨l,p,t,G,E⟩:=n.blk b c;⟨by grind,p,t,G,E⟩,
  λb o v q=>let ⟨l,p,t,G,E⟩:=n.M b o v q;⟨by grind,p,t,G,E⟩,n.ms⟩
omit [Payload]in
def lC.rely{r:Mem}{g:Nat}(n:lC f r g s)(h:s.w.heap.size<=w.heap.size):lC f r g {s with w:=w} :=
 ⟨λb c=>let ⟨l,p⟩:=n.blk b c;⟨l,cx p h⟩,λb o v q=>let ⟨l,p⟩:=n.M b o v q;⟨l,cx p h⟩⟩
omit [Payload]in
def jy.rely(n:jy Y f D j s)(h:s.w.heap.size<=w.heap.size):jy Y f D j {s with w:=w} :=
 ⟨λb c=>let ⟨l,p,t,G,E⟩:=n.blk b c;⟨l,p,t,G,cx E h⟩,λb o v q=>let ⟨l,p,t,G,E⟩:=n.M b o v q;⟨l,p,t,G,cx E h⟩,n.ms⟩
omit [Payload]in
theorem lC.ghost{r:Mem}{g:Nat}(n:lC f r g s)(k:eK s s'):lC f r g s':=by
 refine⟨λb c=>by rw[k.w];exact n.blk b (k.blk b c),λb o v q=>?_⟩;rw[k.w];by_cases c:∃L∈s.β,b∈L.bs
 .obtain⟨l,p⟩:=n.blk b (.inr c);grind
 .exact n.M b o v (by rw[<-k.iI b (λL A u=>c ⟨L,A,u⟩)];exact q)
omit [Payload]in
def lC.forget{r:Mem}{g:Nat}(n:lC f r g s)(k:mz s s'):lC f r g s' :=
 ⟨λb c=>by rw[k.w];exact n.blk b (by rw[<-k.own,<-k.β];exact c),λb o v q=>by rw[k.w];exact n.M b o v (k.less b o v q)⟩
omit [Payload]in
theorem jy.ghost(n:jy Y f D j s)(k:eK s s'):jy Y f D j s':=by
 refine⟨λb c=>by rw[k.w];exact n.blk b (k.blk b c),λb o v q=>?_,λx Q b o v q=>k.mem _ _ _ (n.ms x Q b o v q)⟩;rw[k.w];by_cases c:∃L∈s.β,b∈L.bs
 .exact n.blk b (.inr c)
 .exact n.M b o v (by rw[<-k.iI b (λL A u=>c ⟨L,A,u⟩)];exact q)
def mV(f:Nat->Nat)(B g:Nat):Nat->Nat:=λb=>if b<B then f b else g
omit [Payload]in
theorem eN{f:Nat->Nat}{B g:Nat}(h:b<B):mV f B g b=f b:=by simp[mV,h]
omit [Payload]in
theorem sv{f:Nat->Nat}{B g:Nat}(h:B<=b):mV f B g b=g:=by simp[mV,lZ.2 h]
omit [Payload]in
def lC.step{r:Mem}{g:Nat}(n:lC f r g s)(H:aD σ' s')(st:Step σ s σ' s'):lC (mV f s.w.heap.size g) r g s':=by
 refine⟨λb c=>?_,λb o v q=>?_⟩
 .rcases c with c|⟨L,A,c⟩
  .rw[st.own]at c;obtain⟨l,p⟩:=n.blk b (.inl c);exact⟨by grind[eN],cx p st.size⟩
  .have F:=H.lt L A b c;rcases st.ur L A b c with l|⟨R,I,l⟩
   .grind [sv]
   .obtain⟨k1,O⟩:=n.blk b (.inr ⟨R,I,l⟩);grind[eN]
 .have F:=fW.lt H.mem q;rcases cA b s.w.heap.size with l|l
  .rw[eN l];by_cases c:∃L∈s.β,b∈L.bs
   .exact⟨.inl (n.blk b (.inr c)).1,F⟩
   .rw[st.iI b l (λL A u=>c ⟨L,A,u⟩)]at q;exact⟨(n.M b o v q).1,F⟩
  grind[sv]
omit [Payload]in
def jy.step(n:jy Y f D j s)(H:aD σ' s')(st:Step σ s σ' s')(hW:Y.Wg<s.w.heap.size)(hC:Y.C<s.w.heap.size)(Z:∀b,Y.Sh b->b<s.w.heap.size):jy Y (mV f s.w.heap.size 0) D j s':=by
 have S:∀b,s.w.heap.size<=b->b<s'.w.heap.size->mV f s.w.heap.size 0 b=0/\b≠Y.C/\b≠Y.Wg/\¬Y.Sh b/\b<s'.w.heap.size:=λb l p =>
  ⟨sv l,by omega,by omega,λh=>by grind,p⟩
 refine⟨λb c=>?_,λb o v q=>?_,λx Q b o v q=>st.mem _ _ _ (n.ms x Q b o v q)⟩
 .rcases c with c|⟨L,A,c⟩
  .rw[st.own]at c;obtain⟨l,p,t,G,E⟩:=n.blk b (.inl c);exact⟨by grind[eN],p,t,G,cx E st.size⟩
  .have F:=H.lt L A b c;rcases st.ur L A b c with l|⟨R,I,l⟩
   .grind
   .obtain⟨k1,O,V,U,T⟩:=n.blk b (.inr ⟨R,I,l⟩);grind[eN]
 .have F:=fW.lt H.mem q;rcases cA b s.w.heap.size with l|l
  .by_cases c:∃L∈s.β,b∈L.bs
   .obtain⟨k1,O,V,U,T⟩:=n.blk b (.inr c);grind[eN]
   .rw[st.iI b l (λL A u=>c ⟨L,A,u⟩)]at q;obtain⟨k1,O,V,U,T⟩:=n.M b o v q;grind[eN]
  grind
end
end
section
open Go.Conc
open Go.ConcN (WD CTag Mode Vc Ssum pend phi cnt WgLive PayAt Has RW DWs WSit RelBy sumTo upd upd_same upd_ne AtR0 get_map_set get_map_set_same norel_of Deaf_still)
open Go.ConcR (KK WgAt stA smA rd wr mk Payload g_of_ofEvents)
variable [Payload]
section
variable (P:aM)(ty:aw)(Y:Lay)(N:Nat)(val:Nat->Nat->ai)(l:Nat->Nat)(c:Nat->Mem)
inductive WS (x:Nat):Nat->Nat->Rk->Nat->aq->aA->Prop
 |am {r:Rk} {g:aq} {s:St} {w:aA}:jW (Cx.work P) E0 (Ix P ty Y N val x) r g s->bU s {s with w:=w}->lC l (c x) (Y.base+x) s->WS x 1 7 r 0 g w
 |rel {m:Nat} {g:aq} {w:aA}:Goes P ae (RW ty Y.Wg Y.C N 0 (Y.kc*x)) Go.ConcR.DC0 (AtR0 P ty Y.Wg Y.C N 0 (Y.kc*x+1) (val x 0)) m g w->WS x 0 7 (Rk.nat m) 0 g w
 |tail {st m d:Nat} {g:aq} {w:aA}:st<=6->WSit P ty Y.Wg Y.C N OE OE 0 (Y.kc*x+1) (val x 0) st m d g w->WS x 0 st (Rk.nat m) d g w
structure Com(j:Nat)(gs:Array aq)(w:aA)(t:Trace)(D:Nat->WD)(A:Nat->Nat)(K:Nat->Rk)(n:Nat):Prop where
 size:gs.size=Y.base+j
 lv:∀i g,0<i->i<Y.base->gs[i]?=aa g->∃m,K i=Rk.nat m/\QuitsD P m (Deaf t i) g
 above:∀i,Y.base+j<=i->Deaf t i=0
 wk:∀x,x<j->∃g,gs[Y.base+x]?=aa g/\WS P ty Y N val l c x (A x) (D x).stage (K (Y.base+x)) (D x).deaf g w
 tl:TL Y l c t j w.heap.size
 norel:mL t
 deaf0:Deaf t 0=n
 deafW:∀x,x<j->Deaf t (Y.base+x)=(D x).deaf
 rel:∀x,x<j->(D x).stage<=6->∃r,RelBy (stA Y.Wg) t (Y.base+x) r
 xl:∀x,x<j->A x=0->∀i,1<=i->i<Y.kc->w.cell? ⟨Y.C,Y.kc*x+i,af⟩=aa (val x i)
 Bd:∀x,x<j->(D x).stage<=6->Has Y.C (Y.kc*x) (val x 0) w
 pay:PayAt Y.C N w
 live:WgLive ty Y.Wg w
 AF:Y.Wg<w.heap.size
 CJ:Y.C<w.heap.size
 LJ:∀b,Y.Sh b->b<w.heap.size
 kc:0<Y.kc
 MD:∀y,y<j->∀b o v,c y b o=aa v->b<w.heap.size
end
section
variable {P:aM}{ty:aw}{Y:Lay}{N:Nat}{val:Nat->Nat->ai}{l hm':Nat->Nat}{c:Nat->Mem}{x:Nat}{t:Trace}{D:Nat->WD}{A:Nat->Nat}{K:Nat->Rk}{n:Nat}
def RW.Iy(k:Ga Y l (c x) x w w')(hl:WgLive ty Y.Wg w')(a:PayAt Y.C N w')(d:0<Y.kc):RW ty Y.Wg Y.C N 0 (Y.kc*x+1-1) w w' :=
 ⟨λb hb=>absurd hb (gw b),λ_=>hl,λ_=>a,k.pay _ (aZ _) (by grind)⟩
def WS.Iy{a st d:Nat}{r:Rk}{g:aq}(h:WS P ty Y N val l c x a st r d g w)(k:Ga Y l (c x) x w w')(hl:WgLive ty Y.Wg w')(i:PayAt Y.C N w')(e:0<Y.kc)(hh:∀b,b<w.heap.size->hm' b=l b):
  WS P ty Y N val hm' c x a st r d g w':=by
 cases h with
 |am h1 h2 h3=>exact .am h1 (h3.Iy h2 k) (h3.su h2.size hh)
 |rel h1=>exact .rel (Goes.rely (λ_ _ _ h1 h2=>h1.trans h2) h1 (RW.Iy k hl i e))
 |tail h0 h1=>exact .tail h0 (h1.rely (RW.Iy k hl i e))
omit [Payload]in
def jW.run{X:Cx P}{E:St->St->Array Event->Prop}{S:aq->St->Prop}(p:∀g s,S g s->g.status=.running):∀{r:Rk}{g:aq}{s:St},jW X E S r g s->g.status=.running
 |.leaf,_,_,h=>p _ _ h
 |.node f,g,s,h=>by
  rcases h with h|⟨s',_,h⟩|⟨h,_⟩
  .grind
  .exact jW.run p (r:=f s) h
  grind
def WS.status{a st d:Nat}{r:Rk}{g:aq}(h:WS P ty Y N val l c x a st r d g w):g.status=.running∨g.status=.finished:=by
 cases h with
 |am h1 _ _=>exact .inl (h1.run λg s h=>h.1)
 |rel h1=>exact .inl (Goes.running (λ_ _ x=>x.1) w (Go.ConcN.RW.refl w) h1)
 |tail _ h1=>exact h1.status
def WS.woken{a st d:Nat}{r:Rk}{g:aq}(h:WS P ty Y N val l c x a st r d g w)(b e:aq)(w':aA):woken P b e w' g=g:=by
 unfold Go.Conc.woken;split
 .exact again_running _ h.status
 .rfl
def Com.at(h:Com P ty Y N val l c j gs w t D A K n)(d:Nat):Com P ty Y N val l c j gs (w.at d) t D A K n :=
 ⟨h.size,h.lv,h.above,λx a=>let ⟨g,h1,h2⟩:=h.wk x a;⟨g,h1,h2.Iy (.at ..) h.live h.pay h.kc λ_ _=>rfl⟩,h.tl,h.norel,h.deaf0,h.deafW,h.rel,h.xl,h.Bd,h.pay,h.live,h.AF,h.CJ,h.LJ,h.kc,h.MD⟩
def Com.stepW(h:Com P ty Y N val l c j gs w t D A K n)(hx:x<j){g':aq}{fn:aJ}{pos:String}{es:Array Event}{a' pY d':Nat}{r':Rk}(hh:∀b,b<w.heap.size->hm' b=l b)(B:w.heap.size<=w'.heap.size)(q:∀y,y<j->y≠x->Ga Y l (c y) y w w')(W:WS P ty Y N val hm' c x a' pY r' d' g' w')(Z:∀e∈es,(aF e).low w'.heap.size)(Vj:∀e∈es,∀a,(aF e).touch?=aa a->a.loc.isMemory=ab->qc Y hm' (c x) x a)(T:∀e∈es,∀a,e.loc≠.mark (.release a))(I:deafBehind (D x).deaf es=d')(aai:pY<=6->∃r,RelBy (stA Y.Wg) (t++MemOp.ofEvents (Y.base+x) fn pos es) (Y.base+x) r)(h1:a'=0->∀i,1<=i->i<Y.kc->w'.cell? ⟨Y.C,Y.kc*x+i,af⟩=aa (val x i))(h0:pY<=6->Has Y.C (Y.kc*x) (val x 0) w')(H:PayAt Y.C N w')(u:WgLive ty Y.Wg w'):
  Com P ty Y N val hm' c j ((gs.map (woken P g g' w')).setIfInBounds (Y.base+x) g') w' (t++MemOp.ofEvents (Y.base+x) fn pos es) (upd D x ⟨pY,0,d'⟩) (upd A x a') (upd K (Y.base+x) r') n:=by
 have hb:=h.tl.base;have F:∀y,y≠x->Y.base+x≠Y.base+y:=λy d e=>d (by omega);have U:∀i G,0<i->i<Y.base->((gs.map (Go.Conc.woken P g g' w')).setIfInBounds (Y.base+x) g')[i]?=aa G->gs[i]?=aa G:=by intro i G hi OF EU;rw[get_map_set _ _ _ _ (by omega)]at EU;obtain⟨z,hz,rfl⟩:=pj.1 EU;obtain⟨m,_,hq⟩:=h.lv i z hi OF hz;grind[woken_quitsD]
 refine⟨by simp[h.size],λi G hi OF EU=>?_,λi hi=>?_,λy d=>?_,?_,h.norel.app T,by rw[Deaf_other t (by omega) _ g_of_ofEvents,h.deaf0],λy d=>?_,λy d k=>?_,λy d L i M O=>?_,λy d k=>?_,H,u,cx h.AF B,cx h.CJ B,λb hb=>cx (h.LJ b hb) B,h.kc,λy d b o v R=>cx (h.MD y d b o v R) B⟩
 .obtain⟨m,V,Q⟩:=h.lv i G hi OF (U i G hi OF EU);refine⟨m,by rw[upd_ne K _ (by omega)];exact V,?_⟩;rw[Deaf_other t (by omega) _ g_of_ofEvents];exact Q
 .rw[Deaf_other t (by omega) _ g_of_ofEvents];exact h.above i hi
 .by_cases e:y=x
  .subst e;exact⟨g',get_map_set_same _ _ _ (by rw[h.size];omega),by rw[upd_same,upd_same,upd_same];exact W⟩
  .obtain⟨G,EU,J⟩:=h.wk y d;refine⟨G,by rw[get_map_set _ _ _ _ (F y e),EU,mv,J.woken],?_⟩;rw[upd_ne A _ e,upd_ne D _ e,upd_ne K _ (F y e).symm];exact J.Iy (q y d e) u H h.kc hh
 .refine(h.tl.su hh B h.AF h.CJ h.LJ λy d b o v R=>?_).appW hx (λop ir=>by grind[Go.Conc.mem_ofEvents]) (λop ir=>?_) (λop ir a L hma=>?_)
  .exact h.MD y d b o v R
  .grind [Go.Conc.mem_ofEvents]
  grind[Go.Conc.mem_ofEvents]
 .by_cases e:y=x
  .subst e;rw[Deaf_own,h.deafW y d,upd_same];exact I
  .rw[Deaf_other t (F y e) _ g_of_ofEvents,h.deafW y d,upd_ne D _ e]
 .by_cases e:y=x
  .subst e;rw[upd_same]at k;grind
  .rw[upd_ne D _ e]at k;obtain⟨r,hr⟩:=h.rel y d k;exact⟨r,hr.appOther g_of_ofEvents (F y e)⟩
 .by_cases e:y=x
  .subst e;rw[upd_same]at L;grind
  .rw[upd_ne A _ e]at L;rw[(q y d e).pay _ (by omega) (by omega)];exact h.xl y d L i M O
 .by_cases e:y=x
  .subst e;rw[upd_same]at k;grind
  .rw[upd_ne D _ e]at k;have:=h.Bd y d k;have hk:=h.kc;simp only[Has]at this⊢;rw[(q y d e).pay _ (by omega) (by omega)];exact this
def Com.step0(h:Com P ty Y N val l c j gs w t D A K n){g':aq}{fn:aJ}{pos:String}{es:Array Event}(hh:∀b,b<w.heap.size->hm' b=l b)(u:w.heap.size<=w'.heap.size)(k:∀y,y<j->Ga Y l (c y) y w w')(R:∀e∈es,(aF e).low w'.heap.size)(V:∀e∈es,∀a,(aF e).touch?=aa a->a.loc.isMemory=ab->rG Y hm' a)(Z:∀e∈es,∀a,(aF e).touch?=aa a->a.kind=.plain->a.write=ab->∀x,x<j->∀b o v,a.loc=.cell ⟨b,o,af⟩->c x b o≠aa v)(M:∀e∈es,∀a,e.loc≠.mark (.release a))(B:PayAt Y.C N w')(q:WgLive ty Y.Wg w'):
  Com P ty Y N val hm' c j ((gs.map (woken P g g' w')).setIfInBounds 0 g') w' (t++MemOp.ofEvents 0 fn pos es) D A K (deafBehind n es):=by
 have hb:=h.tl.base;have hk:=h.kc;refine⟨by simp[h.size],λi Q hi OF EU=>?_,λi hi=>?_,λy d=>?_,?_,h.norel.app M,by rw[Deaf_own,h.deaf0],λy d=>by rw[Deaf_other t (by omega) _ g_of_ofEvents,h.deafW y d],λy d F=>?_,λy d L i I J=>?_,λy d F=>?_,B,q,cx h.AF u,cx h.CJ u,λb hb=>cx (h.LJ b hb) u,h.kc,λy d b o v W=>cx (h.MD y d b o v W) u⟩
 .rw[get_map_set _ _ _ _ (by omega)]at EU;obtain⟨z,hz,rfl⟩:=pj.1 EU;obtain⟨m,O,G⟩:=h.lv i z hi OF hz;exact⟨m,O,by rw[woken_quitsD G,Deaf_other t (by omega) _ g_of_ofEvents];exact G⟩
 .rw[Deaf_other t (by omega) _ g_of_ofEvents];exact h.above i hi
 .obtain⟨Q,EU,H⟩:=h.wk y d;exact⟨Q,by rw[get_map_set _ _ _ _ (by omega),EU,mv,H.woken],H.Iy (k y d) q B h.kc hh⟩
 .refine(h.tl.su hh u h.AF h.CJ h.LJ h.MD).app0 (λop ir=>by grind[Go.Conc.mem_ofEvents]) (λop ir=>?_) (λop ir a L U=>?_) (λop ir a L=>?_)
  .grind [Go.Conc.mem_ofEvents]
  .grind [Go.Conc.mem_ofEvents]
  grind[Go.Conc.mem_ofEvents]
 .obtain⟨r,T⟩:=h.rel y d F;exact⟨r,T.appOther g_of_ofEvents (by omega)⟩
 .rw[(k y d).pay _ (by omega) (by omega)];exact h.xl y d L i I J
 .have:=h.Bd y d F;simp only[Has]at this⊢;rw[(k y d).pay _ (by omega) (by omega)];exact this
def Com.leave(h:Com P ty Y N val l c j gs w t D A K n){m:Nat}(hi:0<i)(O:i<Y.base){g':aq}{fn:aJ}{pos:String}{es:Array Event}(u:∀e∈es,e.mute=ab)(Q:QuitsD P m (deafBehind (Deaf t i) es) g'):
  Com P ty Y N val l c j ((gs.map (woken P g g' w)).setIfInBounds i g') w (t++MemOp.ofEvents i fn pos es) D A (upd K i (Rk.nat m)) n:=by
 have hb:=h.tl.base;have G:∀e∈es,∀a,e.loc≠.mark (.release a):=λe I a=>uP (u e I) a;refine⟨by simp[h.size],λk H v C b=>?_,λk v=>?_,λy q=>?_,?_,h.norel.app G,by rw[Deaf_other t (by omega) _ g_of_ofEvents,h.deaf0],λy q=>by rw[Deaf_other t (by omega) _ g_of_ofEvents,h.deafW y q],λy q B=>?_,h.xl,h.Bd,h.pay,h.live,h.AF,h.CJ,h.LJ,h.kc,h.MD⟩
 .by_cases e:k=i
  .subst e;rw[get_map_set_same _ _ _ (by grind)]at b;cases b;exact⟨m,by rw[upd_same],by grind[Deaf_own]⟩
  .rw[get_map_set _ _ _ _ (Ne.symm e)]at b;obtain⟨z,M,rfl⟩:=pj.1 b;obtain⟨J,F,d⟩:=h.lv k z v C M;exact⟨J,by rw[upd_ne K _ e];exact F,by rw[woken_quitsD d,Deaf_other t (Ne.symm e) _ g_of_ofEvents];exact d⟩
 .rw[Deaf_other t (by omega) _ g_of_ofEvents];exact h.above k v
 .obtain⟨H,b,o⟩:=h.wk y q;exact⟨H,by rw[get_map_set _ _ _ _ (by omega),b,mv,o.woken],by rw[upd_ne K _ (by omega)];exact o⟩
 .exact h.tl.mute (g:=i) (λop ir=>by grind[Go.Conc.mem_ofEvents]) (λop ir=>by grind[Go.Conc.mem_ofEvents,low_mute]) (λop ir=>by grind[Go.Conc.mem_ofEvents,touch_mute])
 .obtain⟨r,L⟩:=h.rel y q B;exact⟨r,L.appOther g_of_ofEvents (by omega)⟩
def Com.spawn(h:Com P ty Y N val l c j gs w t D A K 0){a' child:aq}{x y:MemOp}{r:Rk}(I:x.g=0/\x.act=.go (Y.base+j))(O:y.g=Y.base+j/\y.act=.start)(L:∀b o v,c j b o=aa v->l b=0/\b≠Y.C/\b≠Y.Wg/\¬Y.Sh b/\b<w.heap.size)(J:jW (Cx.work P) E0 (Ix P ty Y N val j) r child s)(u:bU s {s with w:=w})(R:lC l (c j) (Y.base+j) s):
  Com P ty Y N val l c (j+1) ((gs.setIfInBounds 0 a').push child) w (t++#[x,y]) (upd D j ⟨7,0,0⟩) (upd A j 1) (upd K (Y.base+j) r) 0:=by
 have hb:=h.tl.base;have Q:∀op∈#[x,y],op=x∨op=y:=by grind
 have d:∀op∈#[x,y],op.act≠.mark .disable/\op.act≠.mark .enable:=by grind
 have q:∀i,0<i->i<Y.base+j->((gs.setIfInBounds 0 a').push child)[i]?=gs[i]?:=λi hi tM=>by rw[Array.getElem?_push_lt (by simp[h.size];omega),<-fO,ni (by omega)]
 refine⟨by simp[h.size];omega,λi g hi OF hg=>?_,λi hi=>?_,λz k=>?_,h.tl.fork I O h.deaf0 (h.above _ (aZ _)) λb o v B=>let ⟨h1,h2,H,M,_⟩:=L b o v B;⟨h1,h2,H,M⟩,λad=>(h.norel ad).app λop ir=>?_,by rw[Deaf_still t 0 _ d,h.deaf0],λz k=>?_,λz k e=>?_,λz k F=>?_,λz k e=>?_,h.pay,h.live,h.AF,h.CJ,h.LJ,h.kc,λz k b o v B=>?_⟩
 .rw[q i hi (by omega)]at hg;obtain⟨m,h1,h2⟩:=h.lv i g hi OF hg;exact⟨m,by rw[upd_ne K _ (by omega)];exact h1,by rw[Deaf_still t _ _ d];exact h2⟩
 .rw[Deaf_still t _ _ d];exact h.above i (by omega)
 .rcases cA z j with tM|a
  .obtain⟨g,hg,G⟩:=h.wk z tM;exact⟨g,by grind,by rw[upd_ne D _ (by omega),upd_ne A _ (by omega),upd_ne K _ (by omega)];exact G⟩
  .obtain rfl:z=j:=by omega
   refine⟨child,?_,by rw[upd_same,upd_same,upd_same];exact .am J u R⟩;rw[show Y.base+z=(gs.setIfInBounds 0 a').size by simp[h.size],Array.getElem?_push_size]
 .grind
 .rw[Deaf_still t _ _ d];rcases cA z j with tM|a
  .rw[h.deafW z tM,upd_ne D _ (by omega)]
  .obtain rfl:z=j:=by omega
   rw[upd_same];exact h.above _ (aZ _)
 .rcases cA z j with tM|a
  .rw[upd_ne D _ (by omega)]at e;obtain⟨r,u⟩:=h.rel z tM e;refine⟨r,u.appNot λop ir=>?_⟩;grind
  .obtain rfl:z=j:=by omega
   rw[upd_same]at e;grind
 .rcases cA z j with tM|a
  .rw[upd_ne A _ (by omega)]at F;exact h.xl z tM F
  .obtain rfl:z=j:=by omega
   rw[upd_same]at F;grind
 .rcases cA z j with tM|a
  .rw[upd_ne D _ (by omega)]at e;exact h.Bd z tM e
  .obtain rfl:z=j:=by omega
   rw[upd_same]at e;grind
 .rcases cA z j with tM|a
  .exact h.MD z tM b o v B
  grind
end
end
section
open Go.Conc
open Go.ConcN (WD CTag Mode Vc Ssum pend phi cnt WgLive PayAt Has RW DWs WSit RelBy sumTo upd upd_same upd_ne AtR0)
open Go.ConcR (KK WgAt stA smA rd wr mk Payload g_of_ofEvents again_blocked)
variable [Payload]
section
variable (P:aM)(ty:aw)(Y:Lay)(N:Nat)(val:Nat->Nat->ai)(n:Nat)(T l:aq->St->Prop)
def AtAcq(g:aq)(s:St):Prop:=g.status=.running/\∃g',(∀w,aG P ab g w=.go g' w #[mk (.acquire (stA Y.Wg))])/\∀c,(Cx.lead P ty Y.Wg).rely s c->T g' c
def AtKe(g:aq)(s:St):Prop:=g.status=.running/\∃g',(∀w,aG P ab g w=.go g' w #[mk .enable])/\∀c,(Cx.lead P ty Y.Wg).rely s c->(eg (Cx.lead P ty Y.Wg) (Es Y.Wg)) (AtAcq P ty Y T) g' c
def AtW4(g:aq)(s:St):Prop:=g.status=.running/\∀c,(Cx.lead P ty Y.Wg).rely s c->WgAt ty Y.Wg c.w 0 0->∃g',aG P ab g c.w=.go g' c.w #[rd (stA Y.Wg)]/\(eg (Cx.lead P ty Y.Wg) (Es Y.Wg)) (AtKe P ty Y T) g' c
def AtW3(g:aq)(s:St):Prop:=g.status=.running/\g.offers=af/\∀c,(Cx.lead P ty Y.Wg).rely s c ->
 ((∃st,WgAt ty Y.Wg c.w st 0)->aG P ab g c.w=.go {g with status:=.blocked} c.w #[]) /\
 (WgAt ty Y.Wg c.w 0 1->∃g',aG P ab g c.w=.go g' (c.w.setCell (smA Y.Wg) (.int .u32 0)) (semEvents (smA Y.Wg))/\(eg (Cx.lead P ty Y.Wg) (Es Y.Wg)) (AtW4 P ty Y T) g' {c with w:=c.w.setCell (smA Y.Wg) (.int .u32 0)})
def AtW2(vs:Nat)(g:aq)(s:St):Prop:=g.status=.running/\∀c,(Cx.lead P ty Y.Wg).rely s c->∀v:Nat,v<2147483648->WgAt ty Y.Wg c.w (v*KK) 0 ->
 (v=vs->∃g',aG P ab g c.w=.go g' (c.w.setCell (stA Y.Wg) (.int .u64 (v*KK+1))) #[rd (stA Y.Wg),wr (stA Y.Wg)]/\(eg (Cx.lead P ty Y.Wg) (Es Y.Wg)) (AtW3 P ty Y T) g' {c with w:=c.w.setCell (stA Y.Wg) (.int .u64 (v*KK+1))}) /\
 (v≠vs->∃g',aG P ab g c.w=.go g' c.w #[rd (stA Y.Wg)]/\l g' c)
def AtW1(g:aq)(s:St):Prop:=g.status=.running/\∀c,(Cx.lead P ty Y.Wg).rely s c->∀v:Nat,v<2147483648->WgAt ty Y.Wg c.w (v*KK) 0 ->
 ∃g',aG P ab g c.w=.go g' c.w #[rd (stA Y.Wg)]/\(v=0->(eg (Cx.lead P ty Y.Wg) (Es Y.Wg)) (AtKe P ty Y T) g' c)/\(v≠0->(eg (Cx.lead P ty Y.Wg) (Es Y.Wg)) (AtW2 P ty Y T l v) g' c)
def AtKd(g:aq)(s:St):Prop:=g.status=.running/\∃g',(∀w,aG P ab g w=.go g' w #[mk .disable])/\∀c,(Cx.lead P ty Y.Wg).rely s c->l g' c
def St.child(s:St):St:={β:=[],M:=s.M,w:=s.w,own:=λ_=>False}
def AtGo(j:Nat)(Next:aq->St->Prop)(g:aq)(s:St):Prop:=g.status=.running/\∀c,(Cx.lead P ty Y.Wg).rely s c ->
 ∃g' child,aG P ab g c.w=.spawn g' child c.w #[]/\child.status=.running/\eg (Cx.work P) E0 (Ix P ty Y N val j) child c.child/\Next g' c
def AtKeS(j:Nat)(Next:aq->St->Prop)(g:aq)(s:St):Prop:=g.status=.running/\∃g',(∀w,aG P ab g w=.go g' w #[mk .enable])/\∀c,(Cx.lead P ty Y.Wg).rely s c->(eg (Cx.lead P ty Y.Wg) (Es Y.Wg)) (AtGo P ty Y N val j Next) g' c
def AtA1(j:Nat)(Next:aq->St->Prop)(g:aq)(s:St):Prop:=g.status=.running/\∀c,(Cx.lead P ty Y.Wg).rely s c->∀v:Nat,v<2147483647->WgAt ty Y.Wg c.w (v*KK) 0 ->
 ∃g',aG P ab g c.w=.go g' (c.w.setCell (stA Y.Wg) (.int .u64 ((v+1)*KK))) #[rd (stA Y.Wg),wr (stA Y.Wg)]/\(eg (Cx.lead P ty Y.Wg) (Es Y.Wg)) (AtKeS P ty Y N val j Next) g' {c with w:=c.w.setCell (stA Y.Wg) (.int .u64 ((v+1)*KK))}
def AtKdS(j:Nat)(Next:aq->St->Prop)(g:aq)(s:St):Prop:=g.status=.running/\∃g',(∀w,aG P ab g w=.go g' w #[mk .disable])/\∀c,(Cx.lead P ty Y.Wg).rely s c->(eg (Cx.lead P ty Y.Wg) (Es Y.Wg)) (AtA1 P ty Y N val j Next) g' c
def Spawns:Nat->aq->St->Prop
 |0,g,s=>(eg (Cx.lead P ty Y.Wg) (Es Y.Wg)) (AtKd P ty Y l) g s
 |r+1,g,s=>(eg (Cx.lead P ty Y.Wg) (Es Y.Wg)) (AtKdS P ty Y N val (n-(r+1)) (Spawns r)) g s
def Rk.lift:Rk->Rk
 |.leaf=>.node λ_=>.leaf
 |.node f=>.node λs=>Rk.lift (f s)
omit [Payload]in
def Rk.EV:∀{x r:Rk},Rk.lt x r->Rk.lt x.lift r.lift
 |_,.leaf,h=>h.elim
 |_,.node _,⟨s,h⟩=>⟨s,h.elim (λe=>.inl (by rw[e])) λh=>.inr (Rk.EV h)⟩
omit [Payload]in
def Rk.Iz(s:St):∀r:Rk,∃x,Rk.lt x r.lift
 |.leaf=>⟨.leaf,s,.inl rfl⟩
 |.node f=>⟨(f s).lift,s,.inl rfl⟩
inductive CS:CTag->Nat->Rk->Nat->aq->St->Prop
 |skd {r:Nat} {rk:Rk} {g:aq} {s:St}:r<n->(jW (Cx.lead P ty Y.Wg) (Es Y.Wg)) (AtKdS P ty Y N val (n-(r+1)) (Spawns P ty Y N val n l r)) rk g s->CS (.sp r 5) (n-(r+1)) rk 0 g s
 |sa1 {r:Nat} {rk:Rk} {g:aq} {s:St}:r<n->(jW (Cx.lead P ty Y.Wg) (Es Y.Wg)) (AtA1 P ty Y N val (n-(r+1)) (Spawns P ty Y N val n l r)) rk g s->CS (.sp r 4) (n-(r+1)) rk 1 g s
 |ske {r:Nat} {rk:Rk} {g:aq} {s:St}:r<n->(jW (Cx.lead P ty Y.Wg) (Es Y.Wg)) (AtKeS P ty Y N val (n-(r+1)) (Spawns P ty Y N val n l r)) rk g s->CS (.sp r 3) (n-(r+1)) rk 1 g s
 |sgo {r:Nat} {rk:Rk} {g:aq} {s:St}:r<n->(jW (Cx.lead P ty Y.Wg) (Es Y.Wg)) (AtGo P ty Y N val (n-(r+1)) (Spawns P ty Y N val n l r)) rk g s->CS (.sp r 2) (n-(r+1)) rk 0 g s
 |kd {rk:Rk} {g:aq} {s:St}:(jW (Cx.lead P ty Y.Wg) (Es Y.Wg)) (AtKd P ty Y l) rk g s->CS .kd n rk 0 g s
 |w1 {rk:Rk} {g:aq} {s:St}:(jW (Cx.lead P ty Y.Wg) (Es Y.Wg)) (AtW1 P ty Y T l) rk g s->CS .w1 n rk 1 g s
 |w2 {vs:Nat} {rk:Rk} {g:aq} {s:St}:(jW (Cx.lead P ty Y.Wg) (Es Y.Wg)) (AtW2 P ty Y T l vs) rk g s->CS (.w2 vs) n rk 1 g s
 |w3 {rk:Rk} {g:aq} {s:St}:(jW (Cx.lead P ty Y.Wg) (Es Y.Wg)) (AtW3 P ty Y T) rk g s->CS .w3 n rk.lift 1 g s
 |blk {rk:Rk} {g:aq} {s:St}:AtW3 P ty Y T g s->CS .blk n rk 1 {g with status:=.blocked} s
 |w4 {rk:Rk} {g:aq} {s:St}:(jW (Cx.lead P ty Y.Wg) (Es Y.Wg)) (AtW4 P ty Y T) rk g s->CS .w4 n rk 1 g s
 |ke {rk:Rk} {g:aq} {s:St}:(jW (Cx.lead P ty Y.Wg) (Es Y.Wg)) (AtKe P ty Y T) rk g s->CS .ke n rk 1 g s
 |acq {rk:Rk} {g:aq} {s:St}:(jW (Cx.lead P ty Y.Wg) (Es Y.Wg)) (AtAcq P ty Y T) rk g s->CS .acq n rk 0 g s
structure ME(p:Nat->Nat)(o:Nat->Mem)(m:Machine)(t:Trace):Prop where
 out:∃(gs:Array aq) (w:aA) (sl:Option (Nat×Nat)) (a:aq) (s:St) (q:Nat->Nat),m=crowd gs w sl/\gs[0]?=aa a/\gs.size=Y.base+n/\T a {s with w:=w}/\bU s {s with w:=w}/\jy Y p o n s /\
  Leavers P t gs q/\Past (kh λb=>Y.Sh b∨b=Y.Wg) w.heap.size t/\mL t/\PayAt Y.C N w/\(∀x,x<n->∀i,i<Y.kc->w.cell? ⟨Y.C,Y.kc*x+i,af⟩=aa (val x i))/\Y.C<w.heap.size/\Y.Wg<w.heap.size/\∀b,Y.Sh b->b<w.heap.size
abbrev Mu:=Nat×((Nat->Rk)×Rk)
def EW(M:Nat):Mu->Mu->Prop:=Prod.Lex (· < ·) (Prod.Lex (Vec M) Rk.lt)
omit [Payload]in
def P4(M:Nat):WellFounded (EW M):=(Prod.lex Nat.lt_wfRel ⟨_,(Prod.lex ⟨Vec M,Iw M⟩ ⟨Rk.lt,⟨Rk.acc⟩⟩).wf⟩).wf
structure sx(μ:Mu)(gs:Array aq)(w:aA)(t:Trace)(p:Nat->Nat)(o:Nat->Mem)(j:Nat)(D:Nat->WD)(A:Nat->Nat)(K:Nat->Rk)(d0:Nat)(tag:CTag)(rk:Rk)(a:aq)(s:St)(st sm:Int):Prop where
 a0:gs[0]?=aa a
 cs:CS P ty Y N val n T l tag j rk d0 a s
 rely:bU s {s with w:=w}
 lead:jy Y p o j s
 fY:Com P ty Y N val p o j gs w t D A K d0
 wg:WgAt ty Y.Wg w st sm
 mode:Go.ConcN.Mode j D tag st sm
 mu:μ=(phi n (Vc j D) tag+Ssum j D+sumTo j A,(K,rk))
def Inv(i:Mu)(m:Machine)(t:Trace):Prop :=
 ∃(gs:Array aq) (w:aA) (sl:Option (Nat×Nat)) (p:Nat->Nat) (o:Nat->Mem) (j:Nat) (D:Nat->WD) (A:Nat->Nat) (K:Nat->Rk) (b:Nat) (tag:CTag) (rk:Rk) (a:aq) (s:St) (st sm:Int),
  m=crowd gs w sl/\sx P ty Y N val n T l i gs w t p o j D A K b tag rk a s st sm
end
section
variable {P:aM}{ty:aw}{Y:Lay}{N:Nat}{val:Nat->Nat->ai}{n:Nat}{T l:aq->St->Prop}{p hm':Nat->Nat}{o:Nat->Mem}{tag:CTag}{rk:Rk}{d:Nat}{a:aq}
omit [Payload]in
def fM(h:bU s {s with w:=w})(B:WgLive ty Y.Wg w):(Cx.lead P ty Y.Wg).rely s {s with w:=w}:=⟨h,λ_=>B⟩
omit [Payload]in
def AtW3.rely{c:St}(h:AtW3 P ty Y T g s)(u:(Cx.lead P ty Y.Wg).rely s c):AtW3 P ty Y T g c :=
 ⟨h.1,h.2.1,λs2 z=>h.2.2 s2 ⟨u.1.trans z.1,λx=>z.2 (u.2 x)⟩⟩
def CS.status(h:CS P ty Y N val n T l tag j rk d a s):(a.status=.running/\tag≠.blk)∨(a.status=.blocked/\tag=.blk):=by
 cases h with
 |skd _ h=>exact .inl ⟨h.run λ_ _ x=>x.1,by simp⟩
 |sa1 _ h=>exact .inl ⟨h.run λ_ _ x=>x.1,by simp⟩
 |ske _ h=>exact .inl ⟨h.run λ_ _ x=>x.1,by simp⟩
 |sgo _ h=>exact .inl ⟨h.run λ_ _ x=>x.1,by simp⟩
 |kd h=>exact .inl ⟨h.run λ_ _ x=>x.1,by simp⟩
 |w1 h=>exact .inl ⟨h.run λ_ _ x=>x.1,by simp⟩
 |w2 h=>exact .inl ⟨h.run λ_ _ x=>x.1,by simp⟩
 |w3 h=>exact .inl ⟨h.run λ_ _ x=>x.1,by simp⟩
 |blk h=>grind
 |w4 h=>exact .inl ⟨h.run λ_ _ x=>x.1,by simp⟩
 |ke h=>exact .inl ⟨h.run λ_ _ x=>x.1,by simp⟩
 |acq h=>exact .inl ⟨h.run λ_ _ x=>x.1,by simp⟩
def CS.wokenBy(h:CS P ty Y N val n T l tag j rk d a s)(g g':aq)(w':aA):
  ∃tag' rk',CS P ty Y N val n T l tag' j rk' d (woken P g g' w' a) s/\(tag'=tag∨(tag=.blk/\tag'=.w3))/\(mayWake P g=ab->g'.status=.running->tag'≠.blk):=by
 unfold Go.Conc.woken;split
 .rcases h.status with⟨i,b⟩|⟨_,rfl⟩
  .grind [again_running]
  .cases h with
   |blk hb=>exact⟨.w3,Rk.lift .leaf,by rw[again_blocked hb.1 hb.2.1];exact .w3 (show jW _ _ _ .leaf _ _ from hb),.inr ⟨rfl,rfl⟩,λ_ _=>by simp⟩
 grind
def kn{μ:Mu}{sl:Option (Nat×Nat)}{t:Trace}{D:Nat->WD}{A:Nat->Nat}{K:Nat->Rk}{st sm:Int}(I:sx P ty Y N val n T l μ gs w t p o j D A K d tag rk a s st sm){x:Nat}(W:x<j){g':aq}{es:Array Event}{a' s' d':Nat}{r':Rk}{E G:Int}(hg:gs[Y.base+x]?=aa g)(hgo:aG P ae g w=.go g' w' es)(hh:∀b,b<w.heap.size->hm' b=p b)(X:w.heap.size<=w'.heap.size)(R:∀y,y<j->y≠x->Ga Y p (o y) y w w')(H:Da Y p w w')(hws:WS P ty Y N val hm' o x a' s' r' d' g' w')(S:∀e∈es,(aF e).low w'.heap.size)(Vj:∀e∈es,∀a,(aF e).touch?=aa a->a.loc.isMemory=ab->qc Y hm' (o x) x a)(EA:∀e∈es,∀a,e.loc≠.mark (.release a))(J:deafBehind (D x).deaf es=d')(U:s'<=6->∃r,RelBy (stA Y.Wg) (t++MemOp.ofEvents (Y.base+x) g.frame.fn g.frame.place es) (Y.base+x) r)(h1:a'=0->∀i,1<=i->i<Y.kc->w'.cell? ⟨Y.C,Y.kc*x+i,af⟩=aa (val x i))(h0:s'<=6->Has Y.C (Y.kc*x) (val x 0) w')(V:PayAt Y.C N w')(L:WgAt ty Y.Wg w' E G)(F:∀tag',(tag'=tag∨(tag=.blk/\tag'=.w3))->(mayWake P g=ab->g'.status=.running->tag'≠.blk)->Go.ConcN.Mode j (upd D x ⟨s',0,d'⟩) tag' E G)(Z:(s'+a'<(D x).stage+A x/\cnt ⟨s',0,d'⟩<=cnt (D x))∨(s'=(D x).stage/\a'=A x/\Rk.lt r' (K (Y.base+x))))(ZS:Y.base+j<=Y.base+n):
  ∃q ops μ',runT P (crowd gs w sl) (Y.base+x)=(.next q,ops)/\EW (Y.base+n) μ' μ/\Inv P ty Y N val n T l μ' q (t++ops):=by
 have hb:=I.fY.tl.base;obtain⟨tag',rk',Q,m,Wp⟩:=I.cs.wokenBy g g' w';have hi0:(Y.base+x==0)=ae:=by grind
 have O:=runT_crowd_go (P:=P) (sl:=sl) (i:=Y.base+x) hg (by rw[hi0];exact hgo)
 have e1:=Go.ConcN.sumTo_upd D (⟨s',0,d'⟩:WD) cnt W;have e2:=Go.ConcN.sumTo_upd D (⟨s',0,d'⟩:WD) WD.stage W;have e3:sumTo j (upd A x a')+A x=sumTo j A+a':=Go.ConcN.sumTo_upd A a' id W;refine⟨_,_,(phi n (Vc j (upd D x ⟨s',0,d'⟩)) tag'+Ssum j (upd D x ⟨s',0,d'⟩)+sumTo j (upd A x a'),(upd K (Y.base+x) r',rk')),O,?_,
  _,w',sl,hm',o,j,_,_,_,d,tag',rk',woken P g g' w' a,s,E,G,rfl,⟨by rw[Go.ConcN.get_map_set _ _ _ _ (by omega),I.a0];rfl,Q,I.lead.Iy I.rely H,I.lead.su I.rely.size hh,
   I.fY.stepW W hh X R hws S Vj EA J U h1 h0 V ⟨_,_,L⟩,L,F tag' m Wp,rfl⟩⟩
 rw[I.mu,Go.ConcN.phi_retag n _ m];simp only[Vc,Ssum]at *;rcases Z with⟨q1,q2⟩|⟨q1,q2,q3⟩
 .refine Prod.Lex.left _ _ ?_;have:=Go.ConcN.phi_mono n (v':=sumTo j λa=>cnt (upd D x ⟨s',0,d'⟩ a)) (v:=sumTo j λa=>cnt (D a)) (by omega) tag;omega
 .have ec:cnt (⟨s',0,d'⟩:WD)=cnt (D x):=by simp only[cnt,q1]
  have ev:(sumTo j λa=>cnt (upd D x ⟨s',0,d'⟩ a))=sumTo j λa=>cnt (D a):=by omega
  have es':(sumTo j λa=>(upd D x ⟨s',0,d'⟩ a).stage)=sumTo j λa=>(D a).stage:=by omega
  have ea:sumTo j (upd A x a')=sumTo j A:=by omega
  rw[ev,es',ea];exact Prod.Lex.right _ (Prod.Lex.left _ _ ⟨Y.base+x,by omega,by rw[upd_same];exact q3,λk hk=>upd_ne K _ hk⟩)
end
end
section
open Go.Conc
open Go.ConcN (WD CTag Vc Ssum pend phi cnt WgLive PayAt Has RW DWs WSit RelBy sumTo upd upd_same upd_ne AtR0 isW3 isOpen OpenSt deafBehind_idle bk_cell okW_none Vc_upd Vc_le le_sumTo others_uncounted)
open Go.ConcR (KK WgAt stA smA rd wr mk Payload g_of_ofEvents Bk bk_of_mute ofEvent_loc_mark ofEvent_cell)
variable [Payload]
section
variable {Y:Lay}{T G:aq->St->Prop}{E hm':Nat->Nat}{O:Nat->Mem}{tag:CTag}{rk:Rk}{d:Nat}{a:aq}
omit [Payload]in
def Ga.wg(h:Aside Y.Wg w w')(F:E Y.Wg=0)(k:1<=Y.base)(hM:∀b o v,O j b o=aa v->b≠Y.Wg)(hC:Y.C≠Y.Wg):Ga Y E (O j) j w w' :=
 ⟨by rw[h.size];grind,λb _ nZ=>h.block b (λe=>by grind),λb o v H S=>by rw[jz (h.block b (hM b o v H))];exact S,λo _ _=>jz (h.block _ hC) o,h.os,h.tape,h.output⟩
omit [Payload]in
def Da.wg(h:Aside Y.Wg w w'):Da Y E w w':=⟨by rw[h.size];grind,λb _ _ _ z=>h.block b z,h.os,h.tape,h.output⟩
omit [Payload]in
def Da.refl(w:aA):Da Y E w w:=⟨aZ _,λ_ _ _ _ _=>rfl,rfl,rfl,rfl⟩
omit [Payload]in
def IA{B:Nat}{es:Array Event}(h:∀e∈es,Bk Y.Wg e)(F:Y.Wg<B):∀e∈es,(aF e).low B:=by
 intro e c;rcases h e c with p|p|⟨ad,wr,rfl,J⟩
 .rw[ofEvent_loc_mark p];trivial
 .rw[ofEvent_loc_mark p];trivial
 .rw[ofEvent_cell];show ad.block<B;grind
omit [Payload]in
def MF{x:Nat}{es:Array Event}(h:∀e∈es,Bk Y.Wg e):∀e∈es,∀a,(aF e).touch?=aa a->a.loc.isMemory=ab->qc Y E (O x) x a:=by
 intro e c b k _;rcases h e c with p|p|⟨ad,wr,rfl,J⟩
 .rw[ofEvent_loc_mark p]at k;cases k
 .rw[ofEvent_loc_mark p]at k;cases k
 .rw[ofEvent_cell]at k;simp only[bj,dx]at k;subst k;exact .inl ⟨ad,rfl,J,rfl⟩
omit [Payload]in
def Be{es:Array Event}(h:∀e∈es,Bk Y.Wg e):∀e∈es,∀a,e.loc≠.mark (.release a):=by
 intro e c a X;rcases h e c with p|p|⟨ad,wr,rfl,_⟩
 .grind
 .grind
 grind
omit [Payload]in
def MG{x:Nat}{s2:St}{es:Array Event}(V:lC E (O x) (Y.base+x) s)(U:aD σ s)(R:ey s es)(st:Step σ s σ' s2):
  (∀e∈es,(aF e).low s2.w.heap.size)/\(∀e∈es,∀a,(aF e).touch?=aa a->a.loc.isMemory=ab->qc Y (mV E s.w.heap.size (Y.base+x)) (O x) x a) /\
  (∀e∈es,e.loc≠.mark .disable/\e.loc≠.mark .enable)/\∀e∈es,∀a,e.loc≠.mark (.release a):=by
 have key:∀e∈es,(aF e).low s2.w.heap.size/\(∀a,(aF e).touch?=aa a->a.loc.isMemory=ab->qc Y (mV E s.w.heap.size (Y.base+x)) (O x) x a)/\(e.loc≠.mark .disable/\e.loc≠.mark .enable)/\∀a,e.loc≠.mark (.release a):=by
  intro e c;have h:=R e c;obtain⟨loc,wr,sy⟩:=e;cases loc with
  |cell ad =>
   obtain⟨p,z,l⟩:=h;simp only at p z l;subst p;have u:ad.block<s.w.heap.size:=by
    rcases l with l|⟨⟨L,Q,l⟩,_⟩|⟨_,v,l⟩
    .exact l.elim
    .exact U.lt L Q _ l
    .exact fW.lt U.mem l
   refine⟨by rw[ofEvent_cell];exact cx u st.size,λb k _=>?_,⟨by simp,by simp⟩,by simp⟩;rw[ofEvent_cell]at k;simp only[bj,dx]at k;subst k;refine .inr ⟨rfl,?_⟩;rcases l with l|⟨⟨L,Q,l⟩,_⟩|⟨W,v,l⟩
   .exact l.elim
   .exact .inl ⟨ad.block,rfl,by rw[eN u];exact(V.blk _ (.inr ⟨L,Q,l⟩)).1⟩
   .rcases(V.M _ _ _ l).1 with Z|Z
    .exact .inl ⟨ad.block,rfl,by grind[eN]⟩
    .refine .inr (.inr ⟨W,ad.block,ad.off,v,?_,Z⟩);obtain⟨b,o,sp⟩:=ad;grind
  |obj r =>
   obtain⟨p,z⟩:=h;simp only at p z;subst p;obtain⟨L,Q,l⟩:=z.resolve_left id;have u:=U.lt L Q _ l;refine⟨?_,λb k _=>?_,⟨by simp,by simp⟩,by simp⟩
   .simp[aF,MemAct.low,Loc.low];exact cx u st.size
   .simp[aF,bj]at k;subst k;exact .inr ⟨rfl,.inl ⟨r,rfl,by rw[eN u];exact(V.blk _ (.inr ⟨L,Q,l⟩)).1⟩⟩
  |mark m =>
   simp only[oh]at h;rcases h with rfl|⟨f,rfl⟩
   .exact⟨by simp[aF,MemAct.low],λb k=>by simp[aF,bj]at k,⟨by simp,by simp⟩,by simp⟩
   .exact⟨by simp[aF,MemAct.low],λb k=>by simp[aF,bj]at k,⟨by simp,by simp⟩,by simp⟩
  |_=>exact h.elim
 grind
def stepWorker{μ:Mu}{sl:Option (Nat×Nat)}{t:Trace}{D:Nat->WD}{A:Nat->Nat}{K:Nat->Rk}{st sm:Int}(I:sx P ty Y N val n T G μ gs w t E O j D A K d tag rk a s st sm)(hn:n<2147483648)(hj:j<=n)(hpd:j+pend tag<=n){x:Nat}(hx:x<j)(hg:gs[Y.base+x]?=aa g)(vb:g.status=.running):
  ∃m₁ ops μ',runT P (crowd gs w sl) (Y.base+x)=(.next m₁,ops)/\EW (Y.base+n) μ' μ/\Inv P ty Y N val n T G μ' m₁ (t++ops):=by
 have IB:=I.fY.tl.base;obtain⟨g₁,Yg,hs⟩:=I.fY.wk x hx;obtain rfl:g=g₁:=by grind
 generalize HE:(D x).stage=sg at hs;generalize Yh:K (Y.base+x)=r at hs;generalize SV:(D x).deaf=dd at hs;generalize hA:A x=ax at hs;have Yi:Deaf t (Y.base+x)=dd:=by rw[I.fY.deafW x hx,SV]
 have hVj:=Vc_le j D;have same:∀m' EX,Go.ConcN.Mode j (upd D x ⟨sg,m',EX⟩) tag st sm:=λm' EX=>by have:=I.mode.same (i:=x) m' EX;grind
 cases hs with
 |@am r g s0 w p z l =>
  rcases p.norm (λs0=>bU s0 {s0 with w:=w}/\lC E (O x) (Y.base+x) s0) (λs0 s' SW hi=>⟨hi.1.ghost SW,hi.2.ghost SW⟩) (λ_ s0 s' SW hi=>⟨hi.1.forget SW,hi.2.forget SW⟩) ⟨z,l⟩with⟨s',⟨k1,k2⟩,lD⟩|⟨_,s',⟨k1,k2⟩,lE⟩
  ·
   obtain⟨g',w2,es,hgo,F,Wr,m,hk⟩:=lD.2 w k1 I.fY.pay I.fY.live;have Yj:=I.fY.kc;refine kn I hx hg hgo (hm':=E) (λ_ _=>rfl) (by rw[F.size];grind) (λy hy Yk=>⟨by rw[F.size];grind,λb _ k=>F.block b (λe=>by rw[e,I.fY.tl.hC]at k;omega),λb o v H S=>?_,λo Yl Ym=>F.out o ?_,F.os,F.tape,F.output⟩)
    ⟨by rw[F.size];grind,λb _ _ z _=>F.block b z,F.os,F.tape,F.output⟩ (.rel hk) (λe c=>?_) (λe c b k _=>?_) (λe c=>?_) ?_ (λh=>absurd h (by decide)) (λ_ i _ hi=>F.new i hi) (λh=>absurd h (by decide)) F.pay
    (I.wg.of_block (F.block _ (Ne.symm I.fY.tl.ne))) (λ_ ht _=>(same _ _).retag ht) (.inl ⟨by omega,by simp[cnt,HE]⟩) (by omega)
   .rw[jz (F.block b (I.fY.tl.ms y hy b o v H).2.1)];exact S
   .rcases Nat.lt_or_gt_of_ne Yk with h|h
    .have:=uh Y.kc (show y+1<=x from h);grind
    .have:=uh Y.kc (show x+1<=y from h);grind
   .obtain⟨o,rfl,_⟩:=Wr e c;rw[ofEvent_cell];show Y.C<_;rw[F.size];exact I.fY.CJ
   .obtain⟨o,rfl,Yl,Ym⟩:=Wr e c;rw[ofEvent_cell]at k;simp only[bj,dx]at k;subst k;exact .inr ⟨rfl,.inr (.inl ⟨o,rfl,Yl,Ym⟩)⟩
   .grind
   .rw[SV];exact deafBehind_idle (λe c=>by grind) 0
  ·
   obtain⟨g',s2,es,r',hgo,Ws,LI,u⟩:=lE _ k1;obtain⟨⟨σ,σ',U,jf,HF⟩,R⟩:=Ws.resolve_right id;have k3:lC E (O x) (Y.base+x) {s' with w:=w}:=k2.rely k1.size;obtain⟨e1,e2,e3,e4⟩:=MG k3 U R HF;have vo:∀b,b<w.heap.size->E b≠Y.base+x->s2.w.heap[b]?=w.heap[b]?:=λb k AE=>HF.keep b k λL Q Pl=>AE (k3.blk b (.inr ⟨L,Q,Pl⟩)).1;refine kn I hx hg hgo (hm':=mV E w.heap.size (Y.base+x)) (λb k=>eN k) HF.size (λy hy Yk=>⟨HF.size,λb k hby=>vo b k (by omega),λb o v H S=>?_,λo _ _=>jz (vo _ I.fY.CJ (by rw[I.fY.tl.hC];omega)) o,HF.os,HF.tape,HF.output⟩)
    ⟨HF.size,λb k h0 _ _=>vo b k (by omega),HF.os,HF.tape,HF.output⟩ (.am LI (bU.vn jf.mem) (k3.step jf HF)) e1 e2 e4 (by rw[SV];exact deafBehind_idle e3 0) (λh=>absurd h (by decide)) (λh=>absurd h (by decide)) (λh=>absurd h (by decide)) ?_
    (I.wg.of_block (vo _ I.fY.AF (by rw[I.fY.tl.HC];omega))) (λ_ ht _=>(same _ _).retag ht) (.inr ⟨HE.symm,hA.symm,by grind⟩) (by omega)
   .rw[jz (vo b (I.fY.MD y hy b o v H) (by rw[(I.fY.tl.ms y hy b o v H).1];omega))];exact S
   .obtain⟨cs,c1,c2⟩:=I.fY.pay;exact⟨cs,(vo _ I.fY.CJ (by rw[I.fY.tl.hC];omega)).trans c1,c2⟩
 |@rel m g w h =>
  rcases Goes.cases h with lD|⟨m',rfl,lE⟩
  ·
   obtain⟨_,aan,g',hgo,m₂,hk⟩:=lD w (Go.ConcN.RW.refl w);refine kn I hx hg hgo (hm':=E) (λ_ _=>rfl) (aZ _) (λy _ _=>.refl ..) (.refl w) (.tail (by decide) (.k1 hk)) (λe c=>?_) (λe c b k _=>?_) (λe c=>?_) (by rw[SV];rfl) (λ_=>⟨t.size,RelBy.new Yi _ _⟩) (λ_=>I.fY.xl x hx hA) (λ_=>by grind) I.fY.pay I.wg
    (λ_ ht _=>(I.mode.counted hx (by omega) (.inl rfl) _ _).retag ht) (.inl ⟨by omega,by simp[cnt,HE]⟩) (by omega)
   .simp at c;subst c;exact I.fY.AF
   .simp at c;subst c;simp[mk,aF,bj]at k
   .simp at c;subst c;simp[mk]
  .obtain⟨g',w',es,hgo,⟨rfl,rfl⟩,EY⟩:=lE w (Go.ConcN.RW.refl w);exact kn I hx hg hgo (hm':=E) (λ_ _=>rfl) (aZ _) (λy _ _=>.refl ..) (.refl w') (.rel EY) (by simp) (by simp) (by simp) (by rw[SV];rfl) (λh=>absurd h (by decide)) (λ_=>I.fY.xl x hx hA) (λh=>absurd h (by decide)) I.fY.pay I.wg (λ_ ht _=>(same _ _).retag ht)
    (.inr ⟨HE.symm,hA.symm,by rw[Yh];exact Rk.C9 _ s⟩) (by omega)
 |@tail sg m dd g w h6 h =>
  have OG:∀{g':aq} {w':aA} {es:Array Event} {s' m' EX:Nat} {pY Gb:Int},aG P ae g w=.go g' w' es->Aside Y.Wg w w'->WgAt ty Y.Wg w' pY Gb->(∀e∈es,Bk Y.Wg e) ->
    (∀jx e,es[jx]?=aa e->(aF e).touch?=af∨0<deafBehind dd (es.extract 0 jx))->s'<=6->WSit P ty Y.Wg Y.C N OE OE 0 (Y.kc*x+1) (val x 0) s' m' EX g' w'->deafBehind dd es=EX ->
    (∀tag',(tag'=tag∨(tag=.blk/\tag'=.w3))->(mayWake P g=ab->g'.status=.running->tag'≠.blk)->Go.ConcN.Mode j (upd D x ⟨s',0,EX⟩) tag' pY Gb)->((s'<sg/\cnt ⟨s',0,EX⟩<=cnt (D x))∨(s'=sg/\m'+1=m)) ->
    ∃m₁ ops μ',runT P (crowd gs w sl) (Y.base+x)=(.next m₁,ops)/\EW (Y.base+n) μ' μ/\Inv P ty Y N val n T G μ' m₁ (t++ops):=by
   intro g' w' es s' m' EX pY Gb hgo Db IC Gc hd Wt SX Yn vp u;obtain⟨cs,Wu,Wv⟩:=I.fY.pay;refine kn I hx hg hgo (hm':=E) (λ_ _=>rfl) (by rw[Db.size];grind) (λy hy _=>.wg Db I.fY.tl.HC IB (λb o v H=>(I.fY.tl.ms y hy b o v H).2.2.1) I.fY.tl.ne) (.wg Db) (.tail Wt SX) (IA Gc (by rw[Db.size];exact I.fY.AF)) (MF Gc) (Be Gc) (by grind)
    (λ_=>let ⟨r,hr⟩:=I.fY.rel x hx (by omega);⟨r,hr.book Yi _ _ Gc hd⟩) (λ_ i hi1 R4=>(jz (Db.block _ I.fY.tl.ne) _).trans (I.fY.xl x hx hA i hi1 R4)) (λ_=>(jz (Db.block _ I.fY.tl.ne) _).trans (I.fY.Bd x hx (by omega))) ⟨cs,(Db.block _ I.fY.tl.ne).trans Wu,Wv⟩ IC vp
    (u.imp (λh=>⟨by omega,h.2⟩) λh=>⟨by omega,hA.symm,by rw[Yh,<-h.2];exact Rk.C9 _ s⟩) (by omega)
  have book:∀{g':aq} {w':aA} {es:Array Event} {s' m' EX:Nat} {pY Gb:Int},aG P ae g w=.go g' w' es->Aside Y.Wg w w'->WgAt ty Y.Wg w' pY Gb->(∀e∈es,Bk Y.Wg e) ->
    (∀jx e,es[jx]?=aa e->(aF e).touch?=af∨0<deafBehind dd (es.extract 0 jx))->s'<=6->WSit P ty Y.Wg Y.C N OE OE 0 (Y.kc*x+1) (val x 0) s' m' EX g' w'->deafBehind dd es=EX ->
    Go.ConcN.Mode j (upd D x ⟨s',0,EX⟩) tag pY Gb->((s'<sg/\cnt ⟨s',0,EX⟩<=cnt (D x))∨(s'=sg/\m'+1=m)) ->
    ∃m₁ ops μ',runT P (crowd gs w sl) (Y.base+x)=(.next m₁,ops)/\EW (Y.base+n) μ' μ/\Inv P ty Y N val n T G μ' m₁ (t++ops) :=
   λhgo Db IC Gc hd Wt SX Yn vp u=>OG hgo Db IC Gc hd Wt SX Yn (λ_ ht _=>vp.retag ht) u
  have idle:∀{g':aq} {m':Nat},aG P ae g w=.go g' w #[]->WSit P ty Y.Wg Y.C N OE OE 0 (Y.kc*x+1) (val x 0) sg m' dd g' w->m'+1=m ->
    ∃m₁ ops μ',runT P (crowd gs w sl) (Y.base+x)=(.next m₁,ops)/\EW (Y.base+n) μ' μ/\Inv P ty Y N val n T G μ' m₁ (t++ops):=by intro g' m' hgo SX E;exact book hgo (.refl Y.Wg w) I.wg (by simp) (by simp) h6 SX rfl (same _ _) (.inr ⟨rfl,E⟩)
  cases h with
  |r0 h=>omega
  |k1 h =>
   rcases Goes.cases h with lD|⟨m',rfl,lE⟩
   .obtain⟨_,g',hgo,m₂,hk⟩:=lD w (Go.ConcN.RW.refl w);exact book hgo (.refl Y.Wg w) I.wg (by intro e c;simp at c;subst c;exact .inl rfl) (by intro jx e c;exact .inl (by have:=uf c;simp at this;subst this;rfl)) (by decide) (.d1 hk) rfl (I.mode.counted hx (by omega) (.inr rfl) _ _) (.inl ⟨by omega,by simp[cnt,HE]⟩)
   .obtain⟨g',w',es,hgo,⟨rfl,rfl⟩,EY⟩:=lE w (Go.ConcN.RW.refl w);exact idle hgo (.k1 EY) rfl
  |d1 h =>
   rcases Goes.cases h with lD|⟨m',rfl,lE⟩
   .obtain⟨_,PG⟩:=lD w (Go.ConcN.RW.refl w);have zv:=I.wg;have ID:=I.mode;have Va:cnt (D x)=1:=by simp[cnt,HE]
    have hV1:1<=Vc j D:=by have:=le_sumTo (f:=λx=>cnt (D x)) hx;simp only[Vc];omega
    have bk2:∀e∈#[rd (stA Y.Wg),wr (stA Y.Wg)],Bk Y.Wg e:=by intro e c;simp at c;rcases c with rfl|rfl<;>exact bk_cell _ _ rfl
    have Vk:∀jx e,(#[rd (stA Y.Wg),wr (stA Y.Wg)]:Array Event)[jx]?=aa e->(aF e).touch?=af∨0<deafBehind 1 ((#[rd (stA Y.Wg),wr (stA Y.Wg)]:Array Event).extract 0 jx):=by
     intro jx e c
     match jx,c with
     |0,_=>exact .inr (by simp[deafBehind])
     |1,_=>exact .inr (by simp[deafBehind,rd])
     |jx+2,c=>simp at c
    have hq0:∀q,cnt (⟨1,q,1⟩:WD)=0:=λ_=>rfl;have cf:∀q,OpenSt j D->OpenSt j (upd D x ⟨1,q,1⟩):=λq h a J=>by
     by_cases e:a=x
     .subst e;rw[upd_same];simp
     .rw[upd_ne D _ e];exact h a J
    generalize aap:st=Ww at ID zv;generalize aaq:sm=sm0 at ID zv;cases ID with
    |opn p z l =>
     obtain⟨v,H⟩:∃v,Vc j D+pend tag=v+1:=⟨Vc j D+pend tag-1,by omega⟩
     rw[H]at zv;have Pt:WgAt ty Y.Wg w (((v:Nat)+1)*KK+((0:Nat):Int)) 0:=by grind
     obtain⟨g',hgo,_,hq⟩:=PG v 0 (by omega) (by omega) Pt;obtain⟨q,hq⟩:=hq (by omega);have U1:Vc j (upd D x ⟨1,0,1⟩)+pend tag=v:=by have:=Vc_upd D (⟨1,0,1⟩:WD) hx;grind
     refine book hgo (aside_setCell w (stA Y.Wg) _) (zv.setSt _) bk2 Vk (by decide) (.quit hq) rfl ?_ (.inl ⟨by omega,by grind⟩);have e:((v:Nat):Int)*KK+((0:Nat):Int)=((Vc j (upd D x ⟨1,0,1⟩)+pend tag:Nat):Int)*KK:=by grind
     rw[e];exact .opn p (cf 0 z) (λvs ev=>by grind)
    |reg p z l =>
     obtain⟨v,H⟩:∃v,Vc j D=v+1:=⟨Vc j D-1,by omega⟩
     rw[H]at zv;have hp:pend tag=0:=by cases tag<;>first|rfl|exact p.elim
     have Pt:WgAt ty Y.Wg w (((v:Nat)+1)*KK+((1:Nat):Int)) 0:=by grind
     obtain⟨g',hgo,X,hq⟩:=PG v 1 (by omega) (by omega) Pt;by_cases Po:v=0
     .subst Po;obtain⟨m₂,hk⟩:=X ⟨rfl,rfl⟩;refine book hgo (aside_setCell w (stA Y.Wg) _) (zv.setSt _) bk2 Vk (by decide) (.d2 hk) rfl ?_ (.inl ⟨by omega,by simp[cnt]⟩);have CX:∀a,a<j->a≠x->(D a).stage=1:=λa J e=>by have c0:=others_uncounted hx H Va a J e;have:=z a J;simp only[cnt]at c0;split at c0<;>omega
      have:=Go.ConcN.Mode.last (j:=j) (D:=upd D x ⟨4,0,1⟩) (tag:=tag) x p hx (by rw[upd_same];simp) (λa J e=>by rw[upd_ne D _ e];grind);rw[upd_same]at this;grind
     .obtain⟨q,hq⟩:=hq (by omega);have U1:Vc j (upd D x ⟨1,0,1⟩)=v:=by have:=Vc_upd D (⟨1,0,1⟩:WD) hx;grind
      refine book hgo (aside_setCell w (stA Y.Wg) _) (zv.setSt _) bk2 Vk (by decide) (.quit hq) rfl ?_ (.inl ⟨by omega,by grind⟩);have e:((v:Nat):Int)*KK+((1:Nat):Int)=((Vc j (upd D x ⟨1,0,1⟩):Nat):Int)*KK+1:=by grind
      rw[e];exact .reg p (cf 0 z) (by omega)
    |last L _ z l W =>
     grind
    |sema z=>have:=z x hx;omega
    |fin _ z=>have:=z x hx;omega
   .obtain⟨g',w',es,hgo,⟨rfl,rfl⟩,EY⟩:=lE w (Go.ConcN.RW.refl w);exact idle hgo (.d1 EY) rfl
  |d2 h =>
   rcases Goes.cases h with lD|⟨m',rfl,lE⟩
   .obtain⟨_,OH⟩:=lD w (Go.ConcN.RW.refl w);obtain⟨SY,CX,e1,e2⟩:=I.mode.isLast hx (by omega);have zv:=I.wg;rw[e1,e2,HE]at zv;obtain⟨g',hgo,m₂,hk⟩:=OH (by grind);refine book hgo (.refl Y.Wg w) zv (by intro e c;simp at c;subst c;exact bk_cell _ _ rfl) (by intro jx e c;match jx,c with|0,_=>exact .inr (by simp[deafBehind])|jx+1,c=>grind) (by decide) (.d3 hk) rfl ?_ (.inl ⟨by omega,by simp[cnt]⟩);have:=Go.ConcN.Mode.last (j:=j) (D:=upd D x ⟨3,0,1⟩) (tag:=tag) x SY hx (by rw[upd_same];simp) (λa J e=>by rw[upd_ne D _ e];grind);rw[upd_same]at this;grind
   .obtain⟨g',w',es,hgo,⟨rfl,rfl⟩,EY⟩:=lE w (Go.ConcN.RW.refl w);exact idle hgo (.d2 EY) rfl
  |d3 h =>
   rcases Goes.cases h with lD|⟨m',rfl,lE⟩
   .obtain⟨_,OH⟩:=lD w (Go.ConcN.RW.refl w);obtain⟨SY,CX,e1,e2⟩:=I.mode.isLast hx (by omega);have zv:=I.wg;rw[e1,e2,HE]at zv;obtain⟨g',hgo,m₂,hk⟩:=OH (by grind);refine book hgo (aside_setCell w (stA Y.Wg) _) (zv.setSt 0) (by intro e c;simp at c;subst c;exact bk_cell _ _ rfl) (by intro jx e c;match jx,c with|0,_=>exact .inr (by simp[deafBehind])|jx+1,c=>grind) (by decide) (.d4 hk) rfl ?_ (.inl ⟨by omega,by simp[cnt]⟩);have:=Go.ConcN.Mode.last (j:=j) (D:=upd D x ⟨2,0,1⟩) (tag:=tag) x SY hx (by rw[upd_same];simp) (λa J e=>by rw[upd_ne D _ e];grind);rw[upd_same]at this;grind
   .obtain⟨g',w',es,hgo,⟨rfl,rfl⟩,EY⟩:=lE w (Go.ConcN.RW.refl w);exact idle hgo (.d3 EY) rfl
  |d4 h =>
   rcases Goes.cases h with lD|⟨m',rfl,lE⟩
   .obtain⟨_,hmw,OH⟩:=lD w (Go.ConcN.RW.refl w);obtain⟨SY,CX,e1,e2⟩:=I.mode.isLast hx (by omega);have zv:=I.wg;rw[e1,e2,HE]at zv;obtain⟨g',hgo,q,hq⟩:=OH (by grind);have vq:g'.status=.running:=by
     cases q with
     |zero=>exact absurd hq.2 (by decide)
     |succ q=>exact hq.elim (λx=>absurd x.2 (by decide)) (λx=>x.1)
    refine OG hgo (aside_setCell w (smA Y.Wg) _) (zv.setSm 1) (es:=semEvents (smA Y.Wg)) ?_ ?_ (by decide) (.quit hq) (by simp[deafBehind,semEvents]) ?_ (.inl ⟨by omega,by simp[cnt]⟩)
    .intro e c;simp[semEvents]at c;rcases c with rfl|rfl|rfl|rfl
     .exact .inl rfl
     .exact bk_cell _ _ rfl
     .exact bk_cell _ _ rfl
     .exact .inr (.inl rfl)
    .intro jx e c
     match jx,c with
     |0,c=>simp[semEvents]at c;subst c;exact .inl rfl
     |1,_=>exact .inr (by simp[deafBehind,semEvents])
     |2,_=>exact .inr (by simp[deafBehind,semEvents])
     |3,c=>simp[semEvents]at c;subst c;exact .inl rfl
     |jx+4,c=>simp[semEvents]at c
    .intro tag' ht V;have hnb:=V hmw vq;have e3:tag'=.w3:=by
      rcases ht with rfl|⟨_,rfl⟩
      .cases tag'<;>first|rfl|exact SY.elim|grind
      .rfl
     subst e3;simp only[b5];exact .sema λa J=>by
      by_cases e:a=x
      .subst e;rw[upd_same]
      .rw[upd_ne D _ e];grind
   .obtain⟨g',w',es,hgo,⟨rfl,rfl⟩,EY⟩:=lE w (Go.ConcN.RW.refl w);exact idle hgo (.d4 EY) rfl
  |quit h =>
   cases m with
   |zero=>rw[h.1]at vb;cases vb
   |succ q =>
    rcases h with⟨hf,_⟩|⟨_,g',es,OI,lE,hq⟩
    .grind
    .have Gc:∀e∈es,Bk Y.Wg e:=λe c=>bk_of_mute (OI e c);have Wa:∀jx e,es[jx]?=aa e->(aF e).touch?=af∨0<deafBehind dd (es.extract 0 jx):=λjx e c=>.inl (touch_mute (OI e (uf c)));exact book (lE w) (.refl Y.Wg w) I.wg Gc Wa (by decide) (.quit hq) rfl (same _ _) (.inr ⟨rfl,rfl⟩)
end
end
section
open Go.Conc
open Go.ConcN (WD CTag Vc Ssum pend phi cnt WgLive PayAt Has RW DWs WSit RelBy sumTo upd upd_same upd_ne AtR0 isW3 isOpen OpenSt deafBehind_idle bk_cell okW_none Vc_upd Vc_le le_sumTo others_uncounted sumTo_upd_out bk_dis bk_en bk_rd bk_rw bk_sem allQuit_of exists_counted)
open Go.ConcR (KK WgAt stA smA rd wr mk Payload g_of_ofEvents Bk bk_of_mute ofEvent_loc_mark ofEvent_cell ofEvent_mk)
variable [Payload]
section
variable {Y:Lay}{T k:aq->St->Prop}{l hm':Nat->Nat}{z G:Nat->Mem}{tag:CTag}{rk:Rk}{d:Nat}{a:aq}{R:Mu}{sl:Option (Nat×Nat)}{t:Trace}{D:Nat->WD}{A:Nat->Nat}{K:Nat->Rk}{st Z:Int}
omit [Payload]in
def TL.congr{B:Nat}(h:TL Y l z t j B)(e:∀y,y<j->G y=z y):TL Y l G t j B :=
 ⟨h.base,h.HC,h.hC,h.ne,h.OD,h.P2,h.HD,λx H=>by rw[e x H];exact h.ms x H,h.T0,h.nr,h.seen,h.old,h.P3,h.F9,λi a hi X l=>(h.new i a hi X l).imp id λ⟨x,H,u,F⟩=>⟨x,H,u,by grind⟩,
  λx H=>by rw[e x H];exact h.mw x H,h.over⟩
def WS.congr{x a st d:Nat}{r:Rk}(h:WS P ty Y N val l z x a st r d g w)(e:G x=z x):WS P ty Y N val l G x a st r d g w:=by
 cases h with
 |am u F J=>exact .am u F (by grind)
 |rel u=>exact .rel u
 |tail h0 u=>exact .tail h0 u
def Com.congr{n:Nat}(h:Com P ty Y N val l z j gs w t D A K n)(e:∀y,y<j->G y=z y):Com P ty Y N val l G j gs w t D A K n :=
 ⟨h.size,h.lv,h.above,λx H=>let ⟨g,u,F⟩:=h.wk x H;⟨g,u,F.congr (e x H)⟩,h.tl.congr e,h.norel,h.deaf0,h.deafW,h.rel,h.xl,h.Bd,h.pay,h.live,h.AF,h.CJ,h.LJ,h.kc,λy q=>by rw[e y q];exact h.MD y q⟩
omit [Payload]in
def MH{s2:St}{es:Array Event}(W:jy Y l z j s)(V:aD σ s)(O:ey s es)(st:Step σ s σ' s2):
  (∀e∈es,(aF e).low s2.w.heap.size)/\(∀e∈es,∀a,(aF e).touch?=aa a->a.loc.isMemory=ab->rG Y (mV l s.w.heap.size 0) a) /\
  (∀e∈es,∀a,(aF e).touch?=aa a->a.kind=.plain->a.write=ab->∀x,x<j->∀b o v,a.loc=.cell ⟨b,o,af⟩->z x b o≠aa v) /\
  (∀e∈es,e.loc≠.mark .disable/\e.loc≠.mark .enable)/\∀e∈es,∀a,e.loc≠.mark (.release a):=by
 have key:∀e∈es,(aF e).low s2.w.heap.size/\(∀a,(aF e).touch?=aa a->a.loc.isMemory=ab->rG Y (mV l s.w.heap.size 0) a) /\
   (∀a,(aF e).touch?=aa a->a.kind=.plain->a.write=ab->∀x,x<j->∀b o v,a.loc=.cell ⟨b,o,af⟩->z x b o≠aa v)/\(e.loc≠.mark .disable/\e.loc≠.mark .enable)/\∀a,e.loc≠.mark (.release a):=by
  intro e E;have h:=O e E;obtain⟨loc,wr,sy⟩:=e;cases loc with
  |cell ad =>
   obtain⟨u,F,J⟩:=h;simp only at u F J;subst u;have p:ad.block<s.w.heap.size/\l ad.block=0/\ad.block≠Y.C/\ad.block≠Y.Wg/\¬Y.Sh ad.block:=by
    rcases J with J|⟨⟨L,S,J⟩,_⟩|⟨_,v,J⟩
    .exact J.elim
    .obtain⟨k1,k2,Q,k4,k5⟩:=W.blk _ (.inr ⟨L,S,J⟩);grind
    .obtain⟨k1,k2,Q,k4,k5⟩:=W.M _ _ _ J;grind
   refine⟨by rw[ofEvent_cell];exact cx p.1 st.size,λb c _=>?_,λb c _ hbw x H b' o v hl U=>?_,⟨by simp,by simp⟩,by simp⟩
   .rw[ofEvent_cell]at c;simp only[bj,dx]at c;subst c;exact .inr ⟨ad.block,rfl,by grind[eN],p.2.2.2.1,p.2.2.1,p.2.2.2.2,rfl⟩
   .rw[ofEvent_cell]at c;simp only[bj,dx]at c;subst c;simp only at hbw hl;have hM:=W.ms x H b' o v U;grind
  |obj r =>
   obtain⟨u,F⟩:=h;simp only at u F;subst u;obtain⟨L,S,J⟩:=F.resolve_left id;obtain⟨k1,k2,Q,k4,k5⟩:=W.blk _ (.inr ⟨L,S,J⟩);refine⟨?_,λb c _=>?_,λb c _ _ x _ b' o v hl=>?_,⟨by simp,by simp⟩,by simp⟩
   .simp[aF,MemAct.low,Loc.low];exact cx k5 st.size
   .simp[aF,bj]at c;subst c;exact .inr ⟨r,rfl,by grind[eN],Q,k2,k4,rfl⟩
   .simp[aF,bj]at c;grind
  |mark m =>
   simp only[oh]at h;rcases h with rfl|⟨f,rfl⟩
   .exact⟨by simp[aF,MemAct.low],λb c=>by simp[aF,bj]at c,λb c=>by simp[aF,bj]at c,⟨by simp,by simp⟩,by simp⟩
   .exact⟨by simp[aF,MemAct.low],λb c=>by simp[aF,bj]at c,λb c=>by simp[aF,bj]at c,⟨by simp,by simp⟩,by simp⟩
  |_=>exact h.elim
 grind
def sC(I:sx P ty Y N val n T k R gs w t l z j D A K d tag rk a s st Z){a':aq}{es:Array Event}{tag':CTag}{rk':Rk}{pY Gb:Int}(hgo:aG P ab a w=.go a' w' es)(V:∀b,b<w.heap.size->hm' b=l b)(Ps:w.heap.size<=w'.heap.size)(Wx:∀y,y<j->Ga Y l (z y) y w w')(Wy:∀e∈es,(aF e).low w'.heap.size)(htm:∀e∈es,∀a,(aF e).touch?=aa a->a.loc.isMemory=ab->rG Y hm' a)(Vj:∀e∈es,∀a,(aF e).touch?=aa a->a.kind=.plain->a.write=ab->∀x,x<j->∀b o v,a.loc=.cell ⟨b,o,af⟩->z x b o≠aa v)(EA:∀e∈es,∀a,e.loc≠.mark (.release a))(IE:PayAt Y.C N w')(zv:WgAt ty Y.Wg w' pY Gb)(Gd:CS P ty Y N val n T k tag' j rk' (deafBehind d es) a' s')(SZ:bU s' {s' with w:=w'})(g:jy Y hm' z j s')(q:Go.ConcN.Mode j D tag' pY Gb)(p:phi n (Vc j D) tag'<phi n (Vc j D) tag∨(phi n (Vc j D) tag'=phi n (Vc j D) tag/\Rk.lt rk' rk)):
  ∃m₁ ops μ',runT P (crowd gs w sl) 0=(.next m₁,ops)/\EW (Y.base+n) μ' R/\Inv P ty Y N val n T k μ' m₁ (t++ops):=by
 have c:=I.fY.tl.base;have vb:=runT_crowd_go (P:=P) (sl:=sl) (i:=0) I.a0 (by simpa using hgo)
 refine⟨_,_,(phi n (Vc j D) tag'+Ssum j D+sumTo j A,(K,rk')),vb,?_,_,w',sl,hm',z,j,D,A,K,deafBehind d es,tag',rk',a',s',pY,Gb,rfl,
  ⟨Go.ConcN.get_map_set_same _ _ _ (by rw[I.fY.size];omega),Gd,SZ,g,I.fY.step0 V Ps Wx Wy htm Vj EA IE ⟨_,_,zv⟩,zv,q,rfl⟩⟩
 rw[I.mu];rcases p with h|⟨u,F⟩
 .exact Prod.Lex.left _ _ (by omega)
 .rw[u];exact Prod.Lex.right _ (Prod.Lex.right _ F)
def ij(I:sx P ty Y N val n T k R gs w t l z j D A K d tag rk a s st Z){a':aq}{es:Array Event}{rk':Rk}{s1:St}(u:bU s1 {s1 with w:=w})(q:jy Y l z j s1)(hgo:aG P ab a w=.go a' s'.w es)(Ws:qn {s1 with w:=w} s' es∨Es Y.Wg {s1 with w:=w} s' es)(Gd:CS P ty Y N val n T k tag j rk' d a' s')(p:Rk.lt rk' rk):
  ∃m₁ ops μ',runT P (crowd gs w sl) 0=(.next m₁,ops)/\EW (Y.base+n) μ' R/\Inv P ty Y N val n T k μ' m₁ (t++ops):=by
 rcases Ws with⟨⟨σ,σ',V,jf,g⟩,O⟩|⟨rfl,ad,had,Wr⟩
 .have Q:jy Y l z j {s1 with w:=w}:=q.rely u.size;obtain⟨e1,e2,e3,e4,e5⟩:=MH Q V O g;have vo:∀b,b<w.heap.size->(l b≠0∨b=Y.C∨b=Y.Wg)->s'.w.heap[b]?=w.heap[b]?:=λb c AE=>g.keep b c λL S Pl=>by obtain⟨q1,q2,q3,_⟩:=Q.blk b (.inr ⟨L,S,Pl⟩);grind
  have IB:=I.fY.tl.base;refine sC I hgo (hm':=mV l w.heap.size 0) (λb c=>eN c) g.size (λy hy=>⟨g.size,λb c hby=>vo b c (.inl (by omega)),λb o v U _=>jf.mem b o v (g.mem _ _ _ (q.ms y hy b o v U)),λo _ _=>jz (vo _ I.fY.CJ (.inr (.inl rfl))) o,g.os,g.tape,g.output⟩) e1 e2 e3 e5 ?_
   (I.wg.of_block (vo _ I.fY.AF (.inr (.inr rfl)))) (s':=s') (tag':=tag) (rk':=rk') (by rw[deafBehind_idle e4];exact Gd) (bU.vn jf.mem) (Q.step jf g I.fY.AF I.fY.CJ I.fY.LJ) I.mode (.inr ⟨rfl,p⟩)
  obtain⟨cs,c1,c2⟩:=I.fY.pay;exact⟨cs,(vo _ I.fY.CJ (.inr (.inl rfl))).trans c1,c2⟩
 .have R5:∀e∈es,e=mk (.read ad)∨e=mk (.write ad):=by grind
  refine sC I hgo (hm':=l) (λb c=>rfl) (aZ _) (λy hy=>.refl ..) (λe E=>?_) (λe E b c _=>?_) (λe E b c hk=>?_) (λe E=>?_) I.fY.pay I.wg (s':={s1 with w:=w}) (tag':=tag) (rk':=rk') ?_ (u.trans' ) (q.rely u.size) I.mode (.inr ⟨rfl,p⟩)
  .have hW:=I.fY.AF;rcases R5 e E with rfl|rfl<;>(rw[ofEvent_mk];show ad.block<_;grind)
  .rcases R5 e E with rfl|rfl<;>(rw[ofEvent_mk]at c;simp[bj]at c;subst c;exact .inl ⟨ad,rfl,had,by simp⟩)
  .rcases R5 e E with rfl|rfl<;>(rw[ofEvent_mk]at c;simp[bj]at c;grind)
  .rcases R5 e E with rfl|rfl<;>simp[mk]
  .rw[deafBehind_idle (λe E=>by rcases R5 e E with rfl|rfl<;>simp[mk])];exact Gd
def gg(I:sx P ty Y N val n T k R gs w t l z j D A K d tag rk a s st Z){a':aq}{es:Array Event}{tag':CTag}{rk':Rk}{pY Gb:Int}{s1:St}(u:bU s1 {s1 with w:=w})(g:jy Y l z j s1)(hgo:aG P ab a w=.go a' w' es)(Db:Aside Y.Wg w w')(IC:WgAt ty Y.Wg w' pY Gb)(Gc:∀e∈es,Bk Y.Wg e)(Gd:CS P ty Y N val n T k tag' j rk' (deafBehind d es) a' {s1 with w:=w'})(vp:Go.ConcN.Mode j D tag' pY Gb)(p:phi n (Vc j D) tag'<phi n (Vc j D) tag∨(phi n (Vc j D) tag'=phi n (Vc j D) tag/\Rk.lt rk' rk)):
  ∃m₁ ops μ',runT P (crowd gs w sl) 0=(.next m₁,ops)/\EW (Y.base+n) μ' R/\Inv P ty Y N val n T k μ' m₁ (t++ops):=by
 obtain⟨cs,Va,RR⟩:=I.fY.pay;have F:bU s1 {s1 with w:=w'}:=g.Iy u (Da.wg Db);refine sC I hgo (hm':=l) (λb c=>rfl) (by rw[Db.size];grind) (λy hy=>.wg Db I.fY.tl.HC I.fY.tl.base (λb o v U=>(I.fY.tl.ms y hy b o v U).2.2.1) I.fY.tl.ne) (IA Gc (by rw[Db.size];exact I.fY.AF)) (λe E b c l=>?_) (λe E b c hk=>?_) (Be Gc)
  ⟨cs,(Db.block _ I.fY.tl.ne).trans Va,RR⟩ IC Gd F.trans' (g.rely F.size) vp p
 .rcases Gc e E with q|q|⟨ad,wr,rfl,X⟩
  .rw[ofEvent_loc_mark q]at c;cases c
  .rw[ofEvent_loc_mark q]at c;cases c
  .rw[ofEvent_cell]at c;simp only[bj,dx]at c;subst c;exact .inl ⟨ad,rfl,X,by simp⟩
 .rcases Gc e E with q|q|⟨ad,wr,rfl,X⟩
  .rw[ofEvent_loc_mark q]at c;cases c
  .rw[ofEvent_loc_mark q]at c;cases c
  .rw[ofEvent_cell]at c;simp only[bj,dx]at c;grind
end
section
variable {Y:Lay}{T f:aq->St->Prop}{p hm':Nat->Nat}{u k:Nat->Mem}{tag:CTag}{rk:Rk}{d:Nat}{a:aq}{C:Mu}{sl:Option (Nat×Nat)}{t:Trace}{D:Nat->WD}{A:Nat->Nat}{K:Nat->Rk}{st E:Int}
def CS.bound(h:CS P ty Y N val n T f tag j rk d a s):j+pend tag<=n:=by cases h<;>simp only[pend]<;>(try simp)<;>omega
omit [Payload]in
def ik(h:jW (Cx.lead P ty Y.Wg) (Es Y.Wg) S rk a s)(l:bU s {s with w:=w})(F:jy Y p u j s)(live:WgLive ty Y.Wg w):
  (∃s',bU s' {s' with w:=w}/\jy Y p u j s'/\S a s')∨∃s',bU s' {s' with w:=w}/\jy Y p u j s'/\∃g' s2 es r',aG P ab a w=.go g' s2.w es/\(qn {s' with w:=w} s2 es∨Es Y.Wg {s' with w:=w} s2 es)/\jW (Cx.lead P ty Y.Wg) (Es Y.Wg) S r' g' s2/\Rk.lt r' rk:=by
 rcases h.norm (λs0=>bU s0 {s0 with w:=w}/\jy Y p u j s0) (λs0 s' B hi=>⟨hi.1.ghost B,hi.2.ghost B⟩) (λG=>False.elim G) ⟨l,F⟩with⟨s',⟨k1,c⟩,z⟩|⟨_,s',⟨k1,c⟩,z⟩
 .grind
 .exact .inr ⟨s',k1,c,z _ ⟨k1,λ_=>live⟩⟩
def WS.quits{x a st d:Nat}{r:Rk}{g:aq}(h:WS P ty Y N val p u x a st r d g w)(b:st=1):∃m,QuitsD P m d g:=by
 cases h with
 |am _ _ _=>cases b
 |rel _=>cases b
 |tail _ h=>exact⟨_,h.quits b⟩
def WS.small{x a st d:Nat}{r:Rk}(h:WS P ty Y N val p u x a st r d g w)(b:st=1):a=0:=by
 cases h with
 |am _ _ _=>cases b
 |rel _=>rfl
 |tail _ h=>rfl
def IF(I:sx P ty Y N val n T f C gs w t p u j D A K d tag rk a s st E)(hn:n<2147483648)(Vl:∀g s,f g s->eg (Cx.lead P ty Y.Wg) (Es Y.Wg) (AtW1 P ty Y T f) g s)(vb:a.status=.running):
  ∃W ops,runT P (crowd gs w sl) 0=(.next W,ops)/\((∃hm' k,ME P Y N val n T hm' k W (t++ops))∨∃μ',EW (Y.base+n) μ' C/\Inv P ty Y N val n T f μ' W (t++ops)):=by
 have hVj:=Vc_le j D;have IB:=I.fY.tl.base;have live:=I.fY.live;have fin:∀{X:Prop},(∃W ops μ',runT P (crowd gs w sl) 0=(.next W,ops)/\EW (Y.base+n) μ' C/\Inv P ty Y N val n T f μ' W (t++ops)) ->
   ∃W ops,runT P (crowd gs w sl) 0=(.next W,ops)/\((∃hm' k,ME P Y N val n T hm' k W (t++ops))∨∃μ',EW (Y.base+n) μ' C/\Inv P ty Y N val n T f μ' W (t++ops)) :=
  λ{_} ⟨W,ops,μ',l,h2,h3⟩=>⟨W,ops,l,.inr ⟨μ',h2,h3⟩⟩
 have hbound:=I.cs.bound;have cs:=I.cs;have Q:=I.wg;have J:=I.mode;cases cs with
 |@skd r rk g s hr h =>
  rcases ik h I.rely I.lead live with⟨s',k1,c,_,g',H,O⟩|⟨s',k1,c,g',s2,es,r',H,U,O,R⟩
  .obtain⟨r2,O⟩:=O {s' with w:=w} (fM k1 live);exact fin (X:=True) (gg I k1 c (H w) (.refl Y.Wg w) Q bk_dis (.sa1 hr O) (J.reopen ar ar rfl (by simp)) (.inl (by simp only[phi];omega)))
  .exact fin (X:=True) (ij I k1 c H U (.skd hr O) R)
 |@sa1 r rk g s hr h =>
  rcases ik h I.rely I.lead live with⟨s',k1,c,_,V⟩|⟨s',k1,c,g',s2,es,r',H,U,O,R⟩
  .obtain⟨ho,e1,e2,_⟩:=J.open_inv ar;rw[e1,e2]at Q;obtain⟨a',H,r2,O⟩:=V {s' with w:=w} (fM k1 live) (Vc (n-(r+1)) D) (by omega) (by simpa[pend]using Q);refine fin (X:=True) (gg I k1 c H (aside_setCell w (stA Y.Wg) _) (Q.setSt _) bk_rw (.ske hr O) ?_ (.inl (by simp only[phi];omega)));have e:(((Vc (n-(r+1)) D:Nat):Int)+1)*KK=((Vc (n-(r+1)) D+pend (.sp r 3):Nat):Int)*KK:=by simp[pend]
   rw[e];exact .opn ar ho (by simp)
  .exact fin (X:=True) (ij I k1 c H U (.sa1 hr O) R)
 |@ske r rk g s hr h =>
  rcases ik h I.rely I.lead live with⟨s',k1,c,_,g',H,O⟩|⟨s',k1,c,g',s2,es,r',H,U,O,R⟩
  .obtain⟨r2,O⟩:=O {s' with w:=w} (fM k1 live);exact fin (X:=True) (gg I k1 c (H w) (.refl Y.Wg w) Q bk_en (.sgo hr O) (J.reopen ar ar rfl (by simp)) (.inl (by simp only[phi];omega)))
  .exact fin (X:=True) (ij I k1 c H U (.ske hr O) R)
 |@sgo r rk g s hr h =>
  rcases ik h I.rely I.lead live with⟨s',k1,c,_,V⟩|⟨s',k1,c,g',s2,es,r',H,U,O,R⟩
  .obtain⟨a',child,hsp,_,⟨rc,Wp⟩,OJ⟩:=V {s' with w:=w} (fM k1 live);obtain⟨ho,e1,e2,_⟩:=J.open_inv ar;rw[e1,e2]at Q;have vq:=runT_crowd_spawn (P:=P) (sl:=sl) (i:=0) I.a0 (by simpa using hsp);rw[I.fY.size]at vq;have z:jy Y p u (n-(r+1)) {s' with w:=w}:=c.rely k1.size;let k:=upd u (n-(r+1)) s'.M;have Yo:∀y,y<n-(r+1)->k y=u y:=λy hy=>upd_ne u _ (by omega);have Wz:k (n-(r+1))=s'.M:=upd_same u _ _;have P5:bU (St.child {s' with w:=w}) {St.child {s' with w:=w}with w:=w}:=bU.vn k1.mem;have S0:lC p (k (n-(r+1))) (Y.base+(n-(r+1))) (St.child {s' with w:=w}):=by
    refine⟨λb hb=>?_,λb o v hv=>⟨.inr (by rw[Wz];exact hv),(z.M b o v hv).2.2.2.2⟩⟩;rcases hb with hb|⟨L,hL,_⟩
    .exact hb.elim
    .simp[St.child]at hL
   have EZ:=(I.fY.congr Yo).spawn (a':=a') (x:={g:=0,fn:=a.frame.fn,pos:=a.frame.place,act:=.go (Y.base+(n-(r+1)))}) (y:={g:=Y.base+(n-(r+1)),fn:=child.frame.fn,pos:=a.frame.place,act:=.start}) ⟨rfl,rfl⟩ ⟨rfl,rfl⟩
    (λb o v hv=>by rw[Wz]at hv;exact z.M b o v hv) Wp P5 S0
   have eV:Vc (n-(r+1)+1) (upd D (n-(r+1)) ⟨7,0,0⟩)=Vc (n-(r+1)) D+1:=by simp only[Vc,sumTo,upd_same];rw[sumTo_upd_out D _ cnt (aZ _)];rfl
   have eS:Ssum (n-(r+1)+1) (upd D (n-(r+1)) ⟨7,0,0⟩)=Ssum (n-(r+1)) D+7:=by simp only[Ssum,sumTo,upd_same];rw[sumTo_upd_out D _ WD.stage (aZ _)]
   have eA:sumTo (n-(r+1)+1) (upd A (n-(r+1)) 1)=sumTo (n-(r+1)) A+1:=by have:sumTo (n-(r+1)) (upd A (n-(r+1)) 1)=sumTo (n-(r+1)) A:=sumTo_upd_out A 1 id (i:=n-(r+1)) (j:=n-(r+1)) (aZ _);show sumTo (n-(r+1)) (upd A (n-(r+1)) 1)+upd A (n-(r+1)) 1 (n-(r+1))=_;rw[upd_same];grind
   have Vm:OpenSt (n-(r+1)+1) (upd D (n-(r+1)) ⟨7,0,0⟩):=λi hi=>by
    by_cases e:i=n-(r+1)
    .subst e;rw[upd_same];simp
    .rw[upd_ne D _ e];exact ho i (by omega)
   have WA:((gs.setIfInBounds 0 a').push child)[0]?=aa a':=by
    have h0:0<gs.size:=by rw[I.fY.size];omega
    grind
   have zw:jy Y p k (n-(r+1)+1) {s' with w:=w}:=⟨z.blk,z.M,λy hy b o v hv=>by
    rcases cA y (n-(r+1))with l|l
    .rw[Yo y l]at hv;exact z.ms y l b o v hv
    .obtain rfl:y=n-(r+1):=by omega
     rw[Wz]at hv;exact hv⟩
   have ej:n-(r+1)+1=n-r:=by omega
   rw[ej]at EZ eV eS eA Vm zw;have WB:∀tag',pend tag'=0->((Vc (n-(r+1)) D+pend (.sp r 2):Nat):Int)*KK=((Vc (n-r) (upd D (n-(r+1)) ⟨7,0,0⟩)+pend tag':Nat):Int)*KK:=λtag' hp=>by rw[eV,hp];simp[pend]
   cases r with
   |zero =>
    obtain⟨r3,O⟩:=OJ;simp only[j3]at EZ eV eS eA Vm WB zw;refine⟨_,_,vq,.inr ⟨(phi n (Vc n (upd D (n-(0+1)) ⟨7,0,0⟩)) .kd+Ssum n (upd D (n-(0+1)) ⟨7,0,0⟩)+sumTo n (upd A (n-(0+1)) 1),(upd K (Y.base+(n-(0+1))) rc,r3)),by rw[I.mu];exact Prod.Lex.left _ _ (by simp only[phi];omega),
     _,w,sl,p,k,n,_,_,_,0,.kd,r3,a',{s' with w:=w},_,_,rfl,⟨WA,.kd O,k1.trans',zw,EZ,Q,?_,rfl⟩⟩⟩
    rw[WB .kd rfl];exact .opn ar Vm (by simp)
   |succ r' =>
    obtain⟨r3,O⟩:=OJ;refine⟨_,_,vq,.inr ⟨(phi n (Vc (n-(r'+1)) (upd D (n-(r'+1+1)) ⟨7,0,0⟩)) (.sp r' 5)+Ssum (n-(r'+1)) (upd D (n-(r'+1+1)) ⟨7,0,0⟩)+sumTo (n-(r'+1)) (upd A (n-(r'+1+1)) 1),(upd K (Y.base+(n-(r'+1+1))) rc,r3)),by rw[I.mu];exact Prod.Lex.left _ _ (by simp only[phi];omega),
     _,w,sl,p,k,n-(r'+1),_,_,_,0,.sp r' 5,r3,a',{s' with w:=w},_,_,rfl,⟨WA,.skd (by omega) O,k1.trans',zw,EZ,Q,?_,rfl⟩⟩⟩
    rw[WB (.sp r' 5) rfl];exact .opn ar Vm (by simp)
  .exact fin (X:=True) (ij I k1 c H U (.sgo hr O) R)
 |kd h =>
  rcases ik h I.rely I.lead live with⟨s',k1,c,_,g',H,O⟩|⟨s',k1,c,g',s2,es,r',H,U,O,R⟩
  .obtain⟨r2,O⟩:=Vl _ _ (O {s' with w:=w} (fM k1 live));exact fin (X:=True) (gg I k1 c (H w) (.refl Y.Wg w) Q bk_dis (.w1 O) (J.reopen ar ar rfl (by simp)) (.inl (by simp only[phi];omega)))
  .exact fin (X:=True) (ij I k1 c H U (.kd O) R)
 |w1 h =>
  rcases ik h I.rely I.lead live with⟨s',k1,c,_,V⟩|⟨s',k1,c,g',s2,es,r',H,U,O,R⟩
  .obtain⟨ho,e1,e2,_⟩:=J.open_inv ar;rw[e1,e2]at Q;have hV:=Vc_le n D;obtain⟨a',H,h0,AE⟩:=V {s' with w:=w} (fM k1 live) (Vc n D) (by omega) (by grind);by_cases hv:Vc n D=0
   .obtain⟨r2,O⟩:=h0 hv;refine fin (X:=True) (gg I k1 c H (.refl Y.Wg w) Q bk_rd (.ke O) ?_ (.inl (by simp only[phi];omega)));have e:((Vc n D+pend .w1:Nat):Int)*KK=0:=by grind
    rw[e];exact .fin ar (allQuit_of ho hv)
   .obtain⟨r2,O⟩:=AE hv;refine fin (X:=True) (gg I k1 c H (.refl Y.Wg w) Q bk_rd (.w2 O) ?_ (.inl (by simp only[phi];omega)));have:=J.reopen (tag':=.w2 (Vc n D)) ar ar rfl (λvs e=>by grind);grind
  .exact fin (X:=True) (ij I k1 c H U (.w1 O) R)
 |@w2 vs rk g s h =>
  rcases ik h I.rely I.lead live with⟨s',k1,c,_,V⟩|⟨s',k1,c,g',s2,es,r',H,U,O,R⟩
  .obtain⟨ho,e1,e2,WC⟩:=J.open_inv ar;rw[e1,e2]at Q;obtain⟨hle,l⟩:=WC vs rfl;obtain⟨WE,S1⟩:=V {s' with w:=w} (fM k1 live) (Vc n D) (by omega) (by grind);by_cases e:Vc n D=vs
   .obtain⟨a',H,r2,O⟩:=WE e;exact fin (X:=True) (gg I k1 c H (aside_setCell w (stA Y.Wg) _) (Q.setSt _) bk_rw (.w3 O) (.reg ar ho (by omega)) (.inl (by simp only[phi];omega)))
   .obtain⟨a',H,O⟩:=S1 e;obtain⟨r2,O⟩:=Vl _ _ O;refine fin (X:=True) (gg I k1 c H (.refl Y.Wg w) Q bk_rd (.w1 O) ?_ (.inl (by simp only[phi];omega)));have:=J.reopen (tag':=.w1) ar ar rfl (by simp);grind
  .exact fin (X:=True) (ij I k1 c H U (.w2 O) R)
 |@w3 rk g s h =>
  rcases ik h I.rely I.lead live with⟨s',k1,c,lD⟩|⟨s',k1,c,g',s2,es,r',H,U,O,R⟩
  .obtain⟨_,SB,V⟩:=lD;obtain⟨MI,S4⟩:=V {s' with w:=w} (fM k1 live);obtain⟨x,hx⟩:=Rk.Iz s rk;have S5:AtW3 P ty Y T a {s' with w:=w}:=AtW3.rely ⟨vb,SB,V⟩ (fM k1 live);generalize st=Ww at J Q;generalize E=sm0 at J Q;cases J with
   |opn l _ _=>exact l.elim
   |reg l h2 h3=>exact fin (X:=True) (gg I k1 c (MI ⟨_,Q⟩) (.refl Y.Wg w) Q (by simp) (.blk (rk:=x) S5) (.reg ar h2 h3) (.inr ⟨rfl,hx⟩))
   |last L l h2 h3 h4=>exact fin (X:=True) (gg I k1 c (MI ⟨_,Q⟩) (.refl Y.Wg w) Q (by simp) (.blk (rk:=x) S5) (.last L ar h2 h3 h4) (.inr ⟨rfl,hx⟩))
   |sema h2 =>
    obtain⟨a',H,r2,O⟩:=S4 Q;exact fin (X:=True) (gg I k1 c H (aside_setCell w (smA Y.Wg) _) (Q.setSm 0) bk_sem (.w4 O) (.fin ar h2) (.inl (by simp only[phi];omega)))
   |fin l _=>exact l.elim
  .exact fin (X:=True) (ij I k1 c H U (.w3 O) (Rk.EV R))
 |blk h=>grind
 |w4 h =>
  rcases ik h I.rely I.lead live with⟨s',k1,c,_,V⟩|⟨s',k1,c,g',s2,es,r',H,U,O,R⟩
  .obtain⟨hq,e1,e2⟩:=J.fin_inv ar;rw[e1,e2]at Q;obtain⟨a',H,r2,O⟩:=V {s' with w:=w} (fM k1 live) Q;exact fin (X:=True) (gg I k1 c H (.refl Y.Wg w) Q bk_rd (.ke O) (.fin ar hq) (.inl (by simp only[phi];omega)))
  .exact fin (X:=True) (ij I k1 c H U (.w4 O) R)
 |ke h =>
  rcases ik h I.rely I.lead live with⟨s',k1,c,_,g',H,O⟩|⟨s',k1,c,g',s2,es,r',H,U,O,R⟩
  .obtain⟨r2,O⟩:=O {s' with w:=w} (fM k1 live);obtain⟨hq,e1,e2⟩:=J.fin_inv ar;rw[e1,e2]at Q;exact fin (X:=True) (gg I k1 c (H w) (.refl Y.Wg w) Q bk_en (.acq O) (.fin ar hq) (.inl (by simp only[phi];omega)))
  .exact fin (X:=True) (ij I k1 c H U (.ke O) R)
 |acq h =>
  rcases ik h I.rely I.lead live with⟨s',k1,c,_,a',H,O⟩|⟨s',k1,c,g',s2,es,r',H,U,O,R⟩
  .obtain⟨hq,e1,e2⟩:=J.fin_inv ar;have vq:=runT_crowd_go (P:=P) (sl:=sl) (i:=0) I.a0 (by simpa using H w);have ev:MemOp.ofEvents 0 a.frame.fn a.frame.place #[mk (.acquire (stA Y.Wg))]=#[{g:=0,fn:=a.frame.fn,pos:=a.frame.place,act:=.mark (.acquire (stA Y.Wg))}]:=by rw[ofEvents_eq];simp[ofEvent_mk]
   have Z:=I.fY.step0 (g:=a) (g':=a') (fn:=a.frame.fn) (pos:=a.frame.place) (es:=#[mk (.acquire (stA Y.Wg))]) (hm':=p) (w':=w) (λ_ _=>rfl) (aZ _) (λy _=>.refl ..) (by simp;exact I.fY.AF) (by intro e he b hb;simp at he;subst he;simp[mk,aF,bj]at hb) (by intro e he b hb;simp at he;subst he;simp[mk,aF,bj]at hb) (by intro e he;simp at he;subst he;simp[mk]) I.fY.pay live;have hd0:deafBehind 0 #[mk (.acquire (stA Y.Wg))]=0:=rfl;have hy:(t++#[({g:=0,fn:=a.frame.fn,pos:=a.frame.place,act:=.mark (.acquire (stA Y.Wg))}:MemOp)])[t.size]?=aa {g:=0,fn:=a.frame.fn,pos:=a.frame.place,act:=.mark (.acquire (stA Y.Wg))}:=by simp
   have S6:=Z.tl.Pz (by rw[Z.deaf0];rfl) (Z.norel _) (q:=t.size) (by rw[ev,act?_of hy]) (by rw[ev];simp[Trace.g?]) (by rw[ev];exact⟨0,by simp[Trace.g?],by rw[deaf_old (aZ _)];exact I.fY.deaf0⟩) (λx hx=>by
    obtain⟨r,hr⟩:=I.fY.rel x hx (by rw[hq x hx];omega)
    exact⟨r,hr.appOther g_of_ofEvents (by omega),lt_of_act? hr.act⟩)
   have FX:∃q,Leavers P (t++MemOp.ofEvents 0 a.frame.fn a.frame.place #[mk (.acquire (stA Y.Wg))]) ((gs.map (woken P a a' w)).setIfInBounds 0 a') q:=by
    have each:∀i,∃m,∀g,0<i->((gs.map (woken P a a' w)).setIfInBounds 0 a')[i]?=aa g->QuitsD P m (Deaf (t++MemOp.ofEvents 0 a.frame.fn a.frame.place #[mk (.acquire (stA Y.Wg))]) i) g:=by
     intro i;cases PF:((gs.map (woken P a a' w)).setIfInBounds 0 a')[i]? with
     |none=>exact⟨0,λg _ B=>by cases B⟩
     |some g =>
      rcases nk i with e|P6
      .exact⟨0,λg' h=>by omega⟩
      .rcases cA i Y.base with R|R3
       .obtain⟨m,_,WG⟩:=Z.lv i g P6 R PF;exact⟨m,λg' _ EY=>by grind⟩
       .obtain⟨x,rfl⟩:∃x,i=Y.base+x:=⟨i-Y.base,by omega⟩
        have hx:x<n:=by have:=(eZ.1 PF).1;rw[Z.size]at this;omega
        obtain⟨g0,EU,WH⟩:=Z.wk x hx;rw[PF]at EU;cases EU;obtain⟨m,WG⟩:=WH.quits (hq x hx);refine⟨m,λg' _ EY=>?_⟩;cases EY;rw[Z.deafW x hx];exact WG
    exact⟨λi=>Classical.choose (each i),λi g hi B=>Classical.choose_spec (each i) g hi B,λi hi=>Z.above i (by rw[Z.size]at hi;exact hi)⟩
   obtain⟨q,FX⟩:=FX;refine⟨_,_,vq,.inl ⟨p,u,⟨_,w,sl,a',s',q,rfl,Go.ConcN.get_map_set_same _ _ _ (by rw[I.fY.size];omega),Z.size,O {s' with w:=w} (fM k1 live),k1,c,FX,S6,Z.norel,I.fY.pay,λx hx i hi=>?_,I.fY.CJ,I.fY.AF,I.fY.LJ⟩⟩⟩;obtain⟨g0,_,WH⟩:=I.fY.wk x hx;rcases nk i with e|P6
   .subst e;exact I.fY.Bd x hx (by rw[hq x hx];omega)
   .exact I.fY.xl x hx (WH.small (hq x hx)) i P6 hi
  .exact fin (X:=True) (ij I k1 c H U (.acq O) R)
end
end
section
open Go.Conc
open Go.ConcN (WD CTag Vc Ssum pend phi cnt WgLive PayAt Has WSit RelBy sumTo upd upd_same upd_ne exists_counted)
open Go.ConcR (KK WgAt stA smA Payload)
variable [Payload]
section
variable {Y:Lay}{T c:aq->St->Prop}{l:Nat->Nat}{p:Nat->Mem}{tag:CTag}{rk:Rk}{d:Nat}{a:aq}{f:Mu}{sl:Option (Nat×Nat)}{t:Trace}{D:Nat->WD}{A:Nat->Nat}{K:Nat->Rk}{st u:Int}
def WS.running_of{x a st d:Nat}{r:Rk}{g:aq}(h:WS P ty Y N val l p x a st r d g w)(b:st≠1):g.status=.running:=by
 cases h with
 |am h1 _ _=>exact h1.run λ_ _ x=>x.1
 |rel h1=>exact Goes.running (λ_ _ x=>x.1) w (Go.ConcN.RW.refl w) h1
 |tail _ h1=>exact h1.running_of b
def someone_runs(I:sx P ty Y N val n T c f gs w t l p j D A K d tag rk a s st u):∃(i:Nat)(g:aq),gs[i]?=aa g/\g.status=.running:=by
 rcases I.cs.status with⟨e,_⟩|⟨_,rfl⟩
 .exact⟨0,a,I.a0,e⟩
 .have b:=I.mode;cases b with
  |opn h1 _ _=>exact h1.elim
  |reg _ _ k =>
   obtain⟨i,hi,o⟩:=exists_counted k;obtain⟨g,h,e⟩:=I.fY.wk i hi;exact⟨_,g,h,e.running_of (by omega)⟩
  |last L _ m k _ =>
   obtain⟨g,h,e⟩:=I.fY.wk L m;exact⟨_,g,h,e.running_of (by omega)⟩
  |fin h1 _=>exact h1.elim
def all_awake(I:sx P ty Y N val n T c f gs w t l p j D A K d tag rk a s st u):∀g∈gs,awake g:=by
 intro g y z;obtain⟨i,hi⟩:=Array.mem_iff_getElem?.1 y;rcases nk i with rfl|b
 .rw[I.a0]at hi;cases hi;rcases I.cs.status with⟨k,_⟩|⟨k,_⟩<;>rw[k]<;>simp
 .rcases cA i Y.base with o|v
  .obtain⟨m,_,q⟩:=I.fY.lv i g b o hi;rcases q.status with h|h<;>rw[h]<;>simp
  .obtain⟨x,rfl⟩:∃x,i=Y.base+x:=⟨i-Y.base,by omega⟩
   have r:x<j:=by have:=(eZ.1 hi).1;rw[I.fY.size]at this;omega
   obtain⟨g',e,k⟩:=I.fY.wk x r;rw[hi]at e;cases e;rcases k.status with h|h<;>rw[h]<;>simp
def sx.at(I:sx P ty Y N val n T c f gs w t l p j D A K d tag rk a s st u)(b:Nat):sx P ty Y N val n T c f gs (w.at b) t l p j D A K d tag rk a s st u :=
 ⟨I.a0,I.cs,I.rely.more (aZ _) (λ_ _=>rfl) (λ_ _ _ _ h=>h) rfl rfl rfl,I.lead,I.fY.at b,I.wg,I.mode,I.mu⟩
def Dc(I:sx P ty Y N val n T c f gs w t l p j D A K d tag rk a s st u)(hi:0<i)(v:i<Y.base)(E:gs[i]?=aa g)(o:g.status=.running):
  ∃h ops μ',runT P (crowd gs w sl) i=(.next h,ops)/\EW (Y.base+n) μ' f/\Inv P ty Y N val n T c μ' h (t++ops):=by
 obtain⟨m,H,C⟩:=I.fY.lv i g hi v E;cases m with
 |zero=>rw[C.1]at o;cases o
 |succ m =>
  rcases C with⟨J,_⟩|⟨_,g',es,y,x,z⟩
  .grind
  .have B:(i==0)=ae:=by grind
   have q:=runT_crowd_go (P:=P) (sl:=sl) (i:=i) E (by rw[B];exact x w)
   obtain⟨tag',rk',r,e,G⟩:=I.cs.wokenBy g g' w;have b:Go.ConcN.Mode j D tag' st u:=I.mode.retag e;refine⟨_,_,(phi n (Vc j D) tag'+Ssum j D+sumTo j A,(upd K i (Rk.nat m),rk')),q,?_,_,w,sl,l,p,j,D,A,_,d,tag',rk',woken P g g' w a,s,st,u,rfl,
    ⟨by rw[Go.ConcN.get_map_set _ _ _ _ (by omega),I.a0];rfl,r,I.rely,I.lead,I.fY.leave hi v y z,I.wg,b,rfl⟩⟩
   rw[I.mu,Go.ConcN.phi_retag n _ e];exact Prod.Lex.right _ (Prod.Lex.left _ _ ⟨i,by omega,by rw[upd_same,H];exact Rk.C9 _ s,λk F=>upd_ne K _ F⟩)
def IG(C:n<2147483648)(B:∀g s,c g s->eg (Cx.lead P ty Y.Wg) (Es Y.Wg) (AtW1 P ty Y T c) g s){m:Machine}(h:Inv P ty Y N val n T c f m t):
  ∃b ops,stepT P m=(.next b,ops)/\((∃hm' MJ,ME P Y N val n T hm' MJ b (t++ops))∨∃k,EW (Y.base+n) k f/\Inv P ty Y N val n T c k b (t++ops)):=by
 obtain⟨gs,w,sl,l,p,j,D,A,K,O,tag,rk,a,s,st,u,rfl,I⟩:=h;obtain⟨i,g,M,o,v,e,q⟩:=crowd_pick (P:=P) (w:=w) (sl:=sl) (all_awake I) (someone_runs I);rw[q];have y:=I.at M;have F:j<=n:=by have:=I.cs.bound;omega
 rcases nk i with rfl|r
 .rw[I.a0]at v;cases v;exact IF (sl:=o) y C B e
 .rcases cA i Y.base with z|J
  .obtain⟨b,ops,k,G,L,E⟩:=Dc (sl:=o) y r z v e;grind
  .obtain⟨x,rfl⟩:∃x,i=Y.base+x:=⟨i-Y.base,by omega⟩
   have H:x<j:=by have:=(eZ.1 v).1;rw[I.fY.size]at this;omega
   obtain⟨b,ops,k,G,L,E⟩:=stepWorker (sl:=o) y C F I.cs.bound H v e;grind
def Ge(x:n<2147483648)(o:∀g s,c g s->eg (Cx.lead P ty Y.Wg) (Es Y.Wg) (AtW1 P ty Y T c) g s):∀(f:Mu)(m:Machine)(t:Trace),Inv P ty Y N val n T c f m t ->
  ∃M i j hm' MJ,runNT P M m t=(.next i,j)/\ME P Y N val n T hm' MJ i j:=by
 intro f;induction(P4 (Y.base+n)).apply f with
 |intro f _ w =>
  intro m t h;obtain⟨b,ops,q,e⟩:=IG x o h;rcases e with⟨hm',MJ,e⟩|⟨k,e,v⟩
  .exact⟨1,b,t++ops,hm',MJ,by simp[runNT,q],e⟩
  .obtain⟨M,i,j,hm',MJ,k1,r⟩:=w k e b (t++ops) v;exact⟨M+1,i,j,hm',MJ,by simp only[runNT,q];exact k1,r⟩
def AD.fork{s0:St}{T':aq->St->Prop}(kc:Nat)(Yj:0<kc)(Wg C:Nat)(hn:n<2147483648)(AE:C≠Wg)(hg:eK s s0)(vb:g.status=.running)(hC:∃L∈s.β,C∈L.bs)(hW:∃L∈s.β,Wg∈L.bs)(F:∀b,(s.own b∨∃L∈s.β,b∈L.bs)->b<s.w.heap.size)(h0:∀b,(b=C∨b=Wg)->¬s0.own b/\(∀L∈s0.β,b∉L.bs)/\∀o,s0.M b o=af)(Q:WgAt ty Wg s.w 0 0)(IE:PayAt C N s.w)(h:∀Y:Lay,Y.Wg=Wg->Y.C=C->Y.kc=kc->∃T c,(∀g s,c g s->eg (Cx.lead P ty Y.Wg) (Es Y.Wg) (AtW1 P ty Y T c) g s)/\Spawns P ty Y N val n c n g s0 /\
   ∀g' s',T g' s'->fW s'->PayAt C N s'.w->(∀x,x<n->∀i,i<kc->s'.w.cell? ⟨C,kc*x+i,af⟩=aa (val x i))->C<s'.w.heap.size->(∀b,(b=C∨b=Wg)->¬s'.own b/\(∀L∈s'.β,b∉L.bs)/\∀o,s'.M b o=af) ->
    ∃s2,T' g' s2/\s2.w=s'.w/\fW s2/\∀Sh:Nat->Prop,Clear Sh s'->¬Sh C->Clear Sh s2):AD P g s T':=by
 intro Sh gs sl t q l ha G hP hc EA;have WI:¬Sh C:=λhs=>let ⟨L,G,hb⟩:=hC;hc.β C hs L G hb
 have X:¬Sh Wg:=λhs=>let ⟨L,G,hb⟩:=hW;hc.β Wg hs L G hb
 have S7:=F C (.inr hC);have Z:=F Wg (.inr hW);have V:1<=gs.size:=(eZ.1 ha).1;let Y:Lay:={Sh:=Sh,T0:=t.size,Wg:=Wg,C:=C,base:=gs.size,kc:=kc}
 obtain⟨T,c,Vl,m,U⟩:=h Y rfl rfl rfl;have S:=hc.ghost hg;have W:fW s0:=.ghost hg;have B:jy Y (λ_=>0) (λ_ _ _=>af) 0 s0:=by
  refine⟨λb hb=>⟨rfl,λe=>?_,λe=>?_,λe=>?_,by rw[hg.w];exact F b (hg.blk b hb)⟩,λb o v hv=>⟨rfl,λe=>?_,λe=>?_,λe=>?_,fW.lt W hv⟩,λx y=>absurd y (gw x)⟩
  .grind
  .grind
  .rcases hb with hb|⟨L,G,hb⟩
   .exact S.own b e hb
   .exact S.β b e L G hb
  .grind
  .grind
  .rw[S.M b e o]at hv;cases hv
 have J:Com P ty Y N val (λ_=>0) (λ_ _ _=>af) 0 gs s.w t (λ_=>⟨0,0,0⟩) (λ_=>0) (λi=>Rk.nat (q i)) 0 :=
  ⟨rfl,λi g hi _ PF=>⟨q i,rfl,G.old i g hi PF⟩,G.above,λx y=>absurd y (gw x),TL.start hP rfl V AE X WI,EA,hP.hears,λx y=>absurd y (gw x),λx y=>absurd y (gw x),λx y=>absurd y (gw x),λx y=>absurd y (gw x),
   IE,⟨_,_,Q⟩,Z,S7,hc.lt,Yj,λx y=>absurd y (gw x)⟩
 have O:bU s0 {s0 with w:=s.w}:=by have:=bU.vn W;rw[<-hg.w];exact this
 have z:∃f,Inv P ty Y N val n T c f (crowd gs s.w sl) t:=by
  cases n with
  |zero =>
   obtain⟨r,m⟩:=m;exact⟨_,gs,s.w,sl,_,_,0,_,_,_,0,.kd,r,g,s0,_,_,rfl,⟨ha,.kd m,O,B,J,Q,by have:=Go.ConcN.Mode.opn (j:=0) (D:=λ_=>(⟨0,0,0⟩:WD)) (tag:=.kd) ar (λi hi=>absurd hi (gw i)) (by simp);simpa[Vc,sumTo,pend]using this,rfl⟩⟩
  |succ n =>
   obtain⟨r,m⟩:=m;have S8:CS P ty Y N val (n+1) T c (.sp n 5) (n+1-(n+1)) r 0 g s0:=.skd (Nat.lt_succ_self n) m;rw[Nat.sub_self]at S8;exact⟨_,gs,s.w,sl,_,_,0,_,_,_,0,.sp n 5,r,g,s0,_,_,rfl,⟨ha,S8,O,B,J,Q,by have:=Go.ConcN.Mode.opn (j:=0) (D:=λ_=>(⟨0,0,0⟩:WD)) (tag:=.sp n 5) ar (λi hi=>absurd hi (gw i)) (by simp);simpa[Vc,sumTo,pend]using this,rfl⟩⟩
 obtain⟨f,z⟩:=z;obtain⟨M,m',t',hm',MJ,Yp,⟨gs',w',sl',a',H,q',rfl,WA,_,hT,R6,S9,gm,hP',aax,hp',I,hlC,hlW,hlS⟩⟩:=Ge hn Vl f _ _ z;have R:jy Y hm' MJ n {H with w:=w'}:=S9.rely R6.size;have E:∀b,(b=C∨b=Wg∨Sh b)->¬H.own b/\(∀L∈H.β,b∉L.bs)/\∀o,H.M b o=af:=by
  intro b hb;have key:∀x,(hm' x=0/\x≠Y.C/\x≠Y.Wg/\¬Y.Sh x/\x<w'.heap.size)->x≠b:=by grind
  refine⟨λho=>key b (R.blk b (.inl ho)) rfl,λL G Pl=>key b (R.blk b (.inr ⟨L,G,Pl⟩)) rfl,λo=>?_⟩;cases hM:H.M b o with
  |none=>rfl
  |some v=>exact absurd rfl (key b (R.M b o v hM))
 obtain⟨s2,hT2,WC,WG,RR⟩:=U a' {H with w:=w'} hT (λb o v hv=>R6.mem b o v hv) hp' I hlC (λb hb=>E b (hb.elim .inl λe=>.inr (.inl e)));have CQ:Clear (λb=>Sh b∨b=Wg) {H with w:=w'}:=by have k:∀b,(Sh b∨b=Wg)->¬H.own b/\(∀L∈H.β,b∉L.bs)/\∀o,H.M b o=af:=λb hb=>E b (hb.elim (λe=>.inr (.inr e)) λe=>.inr (.inl e));exact⟨λb hb=>(k b hb).1,λb hb=>(k b hb).2.1,λb hb=>(k b hb).2.2,λb hb=>hb.elim (hlS b) λe=>by grind⟩
 grind
end
end
section
open Go.Conc Go.RowKit Go.Conc.Lib Go.ConcR.Gen
open Go.ConcN (WgLive)
open Go.ConcR (KK WgAt stA smA rd wr mk DC0)
variable {L:WgLink}
section
variable (P:aM)(R:aA->aA->Prop)(L:WgLink)(Wg:Nat)(a:aq)
def W5(g:aq)(_:aA):Prop:=g.status=.running/\∃g',(∀w,aG P ab g w=.go g' w #[mk .enable])/\∀w1,WgLive L.tWg Wg w1->∃m,Goes P ab R DC0 (λg _=>g=a) m g' w1
def GRd(g:aq)(_:aA):Prop:=g.status=.running/\∃g' ad,ad.block=Wg/\(∀w,aG P ab g w=.go g' w #[mk (.read ad)])/\∀w1,WgLive L.tWg Wg w1->∃m,Goes P ab R DC0 (W5 P R L Wg a) m g' w1
def YK(g:aq)(w:aA):Prop:=g.status=.running/\∀v:Nat,v<2147483647->WgAt L.tWg Wg w (v*KK) 0 ->
 ∃g',aG P ab g w=.go g' (w.setCell (stA Wg) (.int .u64 ((v+1)*KK))) #[rd (stA Wg),wr (stA Wg)]/\∃m,Goes P ab R DC0 (λg w=>GRd P R L Wg a g w∨W5 P R L Wg a g w) m g' (w.setCell (stA Wg) (.int .u64 ((v+1)*KK)))
def GKd(g:aq)(_:aA):Prop:=g.status=.running/\∃g',(∀w,aG P ab g w=.go g' w #[mk .disable])/\∀w1,WgLive L.tWg Wg w1->∃m,Goes P ab R DC0 (YK P R L Wg a) m g' w1
end
set_option maxRecDepth 100000 in
def MW{P:aM}(H:WgLib P L){R:aA->aA->Prop}{Wg:Nat}(c:∀{w w1},WgLive L.tWg Wg w->R w w1->WgLive L.tWg Wg w1){b₀:aU}{a₀:Act}{ops₀:Array aB}{i₀:Nat}{rest₀:List Nat}{k₀:List Item}(w:aA)(b:WgLive L.tWg Wg w):
  Goes P ab R DC0 (GKd P R L Wg (G (b₀.at (a₀.put ((ops₀[i₀]?).bind (·.dst)) (.tuple #[])) (.inRegion ops₀ rest₀::k₀)) cs)) 12
   (G ((base L.add).at ⟨#[.pointer (aa ⟨Wg,0,af⟩),.int .i64 1,ah,ah,ah,ah,ah,ah,ah,ah,ah,ah,ah,ah,ah,ah,ah,ah,ah,ah,ah,ah,ah,ah,ah,ah,ah,ah,ah,ah,ah,ah,ah,ah,ah,ah,ah,ah,ah,ah,ah,ah,ah,ah,ah,ah,ah,ah,ah,ah,ah,ah,ah,ah,ah,ah,ah,ah,ah,ah,ah,ah,ah,ah,ah,ah,ah,ah,ah,ah,ah,ah,ah,ah,ah,ah,ah,ah,ah,ah,ah,ah,ah,ah,ah,ah,ah,ah,ah,ah,ah,ah,ah,ah,ah,ah,ah,ah,ah,ah,ah,ah,ah,ah,ah,ah,ah,ah,ah,ah,ah,ah,ah,ah,ah,ah,ah],[]⟩ [.code (body_add L)]) (b₀.at a₀ (.inRegion ops₀ (i₀::rest₀)::k₀)::cs)) w:=by
 lib_facts
 simp only[body_add,addFn,ga]
 repeat (u_c az c b)
 u_cond ab c b
 repeat (u_c az c b)
 u_reg c b
 u_op c b
 u_op c b
 u_c ay c b
 repeat (u_c az c b)
 u_cond ae c b
 u_c stepG_skip c b
 repeat (u_c az c b)
 u_reg c b
 refine Goes.stop (λl f=>?_);refine⟨rfl,_,λw=>stepG_mark0 .disable (by simp) rfl rfl (by k_ne) rfl H.f_disable (x_disable_n L) (x_disable_b L) (x_disable_x L) (x_disable_f L),λw b=>?_⟩;clear f;refine⟨40,?_⟩
 walk_nrm
 u_c ay c b
 repeat (u_c az c b)
 u_reg c b
 u_defer c b
 u_c ay c b
 repeat (u_c az c b)
 u_reg c b
 u_op c b
 u_c ay c b
 repeat (u_c az c b)
 u_reg c b
 u_bub c b
 u_c ay c b
 repeat (u_c az c b)
 u_cond ae c b
 u_c stepG_skip c b
 repeat (u_c az c b)
 u_reg c b
 u_op c b
 u_op c b
 u_op c b
 u_op c b
 u_op c b
 u_op c b
 u_call H.f_uAdd (nm_uAdd L) uAddFn c b
 repeat (u_c az c b)
 u_reg c b
 u_op c b
 u_c ay c b
 repeat (u_c az c b)
 u_reg c b
 u_op c b
 u_op c b
 u_op c b
 u_op c b
 refine Goes.stop (λh e=>?_);replace b:=c b e;clear e;refine⟨rfl,λv t j=>?_⟩;have k:KK=4294967296:=rfl;have n:IntKind.u64.wrap ((v:Int)*KK+4294967296)=((v:Int)+1)*KK:=by rw[IntKind.wrap_u64];simp only[k];omega
 refine⟨_,(stepG_add_atomic rfl rfl (by k_ne) rfl H.f_addU64 (x_addU64_n L) (x_addU64_b L) (x_addU64_x L) .u64 (x_addU64_f L) rfl rfl j.cellSt (j.thaw 0)).trans (by rw[n];rfl),110,?_⟩;replace b:WgLive L.tWg Wg (h.setCell (stA Wg) (.int .u64 (((v:Int)+1)*KK))):=⟨_,_,j.setSt _⟩
 clear j
 walk_nrm
 u_op c b
 u_c ay c b
 u_c stepG_ret' c b
 u_leave1 H.f_uAdd c b
 u_op c b
 u_c ay c b
 have s:bits .and .u64 (((v:Int)+1)*4294967296) 2147483648=0:=by have:=Go.ConcN.st_flag (v+1) 0 (by omega) (by omega);grind
 have r:bits .and .u64 (((v:Int)+1)*4294967296) 2147483647=0:=by have:=Go.ConcN.st_waiters (v+1) 0 (by omega) (by omega);grind
 have x:((v:Int)+1+2147483648) % 4294967296-2147483648=(v:Int)+1:=by omega
 have u:¬((v:Int)+1<0):=by omega
 have q:(0:Int)<(v:Int)+1:=by omega
 repeat (u_c az c b)
 u_reg c b
 u_op c b
 u_op c b
 u_op c b
 u_op c b
 u_skip c b
 u_skip c b
 u_op c b
 u_c ay c b
 repeat (u_c az c b)
 u_cond ae c b
 u_c stepG_skip c b
 repeat (u_c az c b)
 u_reg c b
 u_op c b
 u_op c b
 u_op c b
 u_op c b
 u_c ay c b
 repeat (u_c az c b)
 u_reg c b
 u_op c b
 u_op c b
 u_op c b
 u_op c b
 u_c ay c b
 by_cases o:(v:Int)+1=1
 .repeat (u_c az c b)
  u_reg c b
  u_op c b
  u_op c b
  u_op c b
  u_op c b
  u_op c b
  u_op c b
  u_op c b
  u_op c b
  u_op c b
  u_op c b
  u_c ay c b
  repeat (u_c az c b)
  u_cond ab c b
  repeat (u_c az c b)
  u_reg c b
  u_op c b
  u_op c b
  u_op c b
  u_conv H.underlying_tPU32 H.room_tU32 (Go.ConcN.Gen.WgLive.cell1 b).choose_spec c b
  refine Goes.stop (λm g=>.inl ?_);clear g;refine⟨rfl,_,⟨Wg,1,af⟩,rfl,λw=>stepG_markAt .read (by simp) rfl rfl (by k_ne) rfl H.f_raceRead (x_raceRead_n L) (x_raceRead_b L) (x_raceRead_x L) (x_raceRead_f L) (ad:=⟨Wg,1,af⟩) (by simp[Act.eval]),λw b=>⟨50,?_⟩⟩
  walk_nrm
  u_c ay c b
  repeat (u_c az c b)
  u_reg c b
  u_op c b
  u_op c b
  u_c ay c b
  repeat (u_c az c b)
  u_cond ae c b
  u_c stepG_skip c b
  repeat (u_c az c b)
  u_reg c b
  u_op c b
  u_op c b
  u_op c b
  u_skip c b
  u_skip c b
  u_op c b
  u_op c b
  u_skip c b
  u_skip c b
  u_skip c b
  u_skip c b
  u_op c b
  u_c ay c b
  repeat (u_c az c b)
  u_cond ae c b
  u_c stepG_skip c b
  repeat (u_c az c b)
  u_reg c b
  u_op c b
  u_op c b
  u_op c b
  u_skip c b
  u_skip c b
  u_op c b
  u_c ay c b
  repeat (u_c az c b)
  u_cond ab c b
  u_c stepG_ret' c b
  refine Goes.stop (λi d=>?_);clear d;refine⟨rfl,_,λw=>stepG_unwind_entry (v:=.tuple #[]) (evs:=#[mk .enable]) rfl H.f_enable (x_enable_n L) (x_enable_b L) (x_enable_x L) (x_enable_f L) (by simp[Extern.Race.none_]) (by simp[mk]) (by simp[mk]),λw b=>⟨1,?_⟩⟩
  u_leave0 H.f_add c b
  grind[Goes.stop]
 .have p:((v:Int)+1==1)=ae:=by grind
  repeat (u_c az c b)
  u_reg c b
  u_op c b
  u_op c b
  u_op c b
  u_op c b
  u_op c b
  u_op c b
  u_op c b
  u_op c b
  u_op c b
  u_op c b
  u_c ay c b
  repeat (u_c az c b)
  u_cond ae c b
  u_c stepG_skip c b
  repeat (u_c az c b)
  u_reg c b
  u_op c b
  u_op c b
  u_c ay c b
  repeat (u_c az c b)
  u_cond ae c b
  u_c stepG_skip c b
  repeat (u_c az c b)
  u_reg c b
  u_op c b
  u_op c b
  u_op c b
  u_skip c b
  u_skip c b
  u_op c b
  u_op c b
  u_skip c b
  u_skip c b
  u_skip c b
  u_skip c b
  u_op c b
  u_c ay c b
  repeat (u_c az c b)
  u_cond ae c b
  u_c stepG_skip c b
  repeat (u_c az c b)
  u_reg c b
  u_op c b
  u_op c b
  u_op c b
  u_skip c b
  u_skip c b
  u_op c b
  u_c ay c b
  repeat (u_c az c b)
  u_cond ab c b
  u_c stepG_ret' c b
  refine Goes.stop (λi d=>.inr ?_);clear d;refine⟨rfl,_,λw=>stepG_unwind_entry (v:=.tuple #[]) (evs:=#[mk .enable]) rfl H.f_enable (x_enable_n L) (x_enable_b L) (x_enable_x L) (x_enable_f L) (by simp[Extern.Race.none_]) (by simp[mk]) (by simp[mk]),λw b=>⟨1,?_⟩⟩
  u_leave0 H.f_add c b
  grind[Goes.stop]
end
section
open Go.Conc Go.RowKit Go.Conc.Lib Go.ConcR.Gen
open Go.ConcN (WgLive)
open Go.ConcR (KK WgAt stA smA rd wr mk DC0)
section
variable (P:aM)(R:aA->aA->Prop)(L:WgLink)(Wg:Nat)(a:aq)(b:aq->Prop)
def Tv(g:aq)(_:aA):Prop:=g.status=.running/\∃g',(∀w,aG P ab g w=.go g' w #[mk (.acquire (stA Wg))])/\∀w1,WgLive L.tWg Wg w1->∃m,Goes P ab R DC0 (λg _=>g=a) m g' w1
def W6(g:aq)(_:aA):Prop:=g.status=.running/\∃g',(∀w,aG P ab g w=.go g' w #[mk .enable])/\∀w1,WgLive L.tWg Wg w1->∃m,Goes P ab R DC0 (Tv P R L Wg a) m g' w1
def YL(g:aq)(w:aA):Prop:=g.status=.running/\(WgAt L.tWg Wg w 0 0->∃g',aG P ab g w=.go g' w #[rd (stA Wg)]/\∃m,Goes P ab R DC0 (W6 P R L Wg a) m g' w)
def YM(g:aq)(w:aA):Prop:=g.status=.running/\g.offers=af/\((∃st,WgAt L.tWg Wg w st 0)->aG P ab g w=.go {g with status:=.blocked} w #[]) /\
 (WgAt L.tWg Wg w 0 1->∃g',aG P ab g w=.go g' (w.setCell (smA Wg) (.int .u32 0)) (semEvents (smA Wg))/\∃m,Goes P ab R DC0 (YL P R L Wg a) m g' (w.setCell (smA Wg) (.int .u32 0)))
def YN(g:aq)(_:aA):Prop:=g.status=.running/\∃g' ad,ad.block=Wg/\(∀w,aG P ab g w=.go g' w #[mk (.write ad)])/\∀w1,WgLive L.tWg Wg w1->∃m,Goes P ab R DC0 (YM P R L Wg a) m g' w1
def YO(vs:Nat)(g:aq)(w:aA):Prop:=g.status=.running/\∀v:Nat,v<2147483648->WgAt L.tWg Wg w (v*KK) 0 ->
 (v=vs->∃g',aG P ab g w=.go g' (w.setCell (stA Wg) (.int .u64 (v*KK+1))) #[rd (stA Wg),wr (stA Wg)]/\∃m,Goes P ab R DC0 (YN P R L Wg a) m g' (w.setCell (stA Wg) (.int .u64 (v*KK+1)))) /\
 (v≠vs->∃g',aG P ab g w=.go g' w #[rd (stA Wg)]/\∃m,Goes P ab R DC0 (λg _=>b g) m g' w)
def HW1(g:aq)(w:aA):Prop:=g.status=.running/\∀v:Nat,v<2147483648->WgAt L.tWg Wg w (v*KK) 0 ->
 ∃g',aG P ab g w=.go g' w #[rd (stA Wg)]/\(v=0->∃m,Goes P ab R DC0 (W6 P R L Wg a) m g' w)/\(v≠0->∃m,Goes P ab R DC0 (YO P R L Wg a b v) m g' w)
def HKd(g:aq)(_:aA):Prop:=g.status=.running/\∃g',(∀w,aG P ab g w=.go g' w #[mk .disable])/\∀w1,WgLive L.tWg Wg w1->∃m,Goes P ab R DC0 (λg _=>b g) m g' w1
end
def Qs(L:WgLink)(Wg:Nat)(c:aU)(cs:List aU)(g:aq):Prop :=
 ∃T:Array ai,g=G ((base L.wait).at ⟨T,[]⟩ [.code (L7 L),.inLoop (L7 L),.inBlock 0]) (c::cs)/\T.size=84/\T[0]?=aa (.pointer (aa ⟨Wg,0,af⟩))
set_option maxRecDepth 100000 in
def Ds{L:WgLink}(H:WgLib P L){R:aA->aA->Prop}{Wg:Nat}(b:∀{w w1},WgLive L.tWg Wg w->R w w1->WgLive L.tWg Wg w1){c:aU}(w:aA)(a:WgLive L.tWg Wg w):
  Goes P ab R DC0 (HKd P R L Wg (Qs L Wg c cs)) 6 (G ((base L.wait).at ⟨#[.pointer (aa ⟨Wg,0,af⟩),ah,ah,ah,ah,ah,ah,ah,ah,ah,ah,ah,ah,ah,ah,ah,ah,ah,ah,ah,ah,ah,ah,ah,ah,ah,ah,ah,ah,ah,ah,ah,ah,ah,ah,ah,ah,ah,ah,ah,ah,ah,ah,ah,ah,ah,ah,ah,ah,ah,ah,ah,ah,ah,ah,ah,ah,ah,ah,ah,ah,ah,ah,ah,ah,ah,ah,ah,ah,ah,ah,ah,ah,ah,ah,ah,ah,ah,ah,ah,ah,ah,ah,ah],[]⟩ [.code (body_wait L)]) (c::cs)) w:=by
 lib_facts
 unfold Qs;simp only[L7,body_wait,waitFn,ga]
 repeat (u_c az b a)
 u_cond ab b a
 repeat (u_c az b a)
 u_reg b a
 refine Goes.stop (λe d=>?_);clear d;refine⟨rfl,_,λw=>stepG_mark0 .disable (by simp) rfl rfl (by k_ne) rfl H.f_disable (x_disable_n L) (x_disable_b L) (x_disable_x L) (x_disable_f L),λw a=>⟨6,?_⟩⟩
 walk_nrm
 u_c ay b a
 repeat (u_c az b a)
 u_c stepG_block b a
 u_c stepG_loop b a
 exact Goes.stop λ_ _=>⟨_,rfl,rfl,rfl⟩
end
section
open Go.Conc Go.RowKit Go.Conc.Lib Go.ConcR.Gen
open Go.ConcN (WgLive)
open Go.ConcN.Gen
open Go.ConcR (KK WgAt stA smA rd wr mk DC0)
set_option maxRecDepth 100000 in
def Dr{L:WgLink}(H:WgLib P L){R:aA->aA->Prop}{Wg:Nat}(b:∀{w w1},WgLive L.tWg Wg w->R w w1->WgLive L.tWg Wg w1){b₀:aU}{a₀:Act}{ops₀:Array aB}{i₀:Nat}{rest₀:List Nat}{k₀:List Item}(g:aq)(hg:Qs L Wg (b₀.at a₀ (.inRegion ops₀ (i₀::rest₀)::k₀)) cs g)(w:aA)(a:WgLive L.tWg Wg w):
  ∃m,Goes P ab R DC0 (HW1 P R L Wg (G (b₀.at (a₀.put ((ops₀[i₀]?).bind (·.dst)) (.tuple #[])) (.inRegion ops₀ rest₀::k₀)) cs) (Qs L Wg (b₀.at a₀ (.inRegion ops₀ (i₀::rest₀)::k₀)) cs)) m g w:=by
 lib_facts
 obtain⟨T,rfl,q,s⟩:=hg;obtain⟨v0,v1,v2,v3,v4,v5,v6,v7,v8,v9,v10,v11,v12,O,V,v15,W,B,v18,v19,v20,v21,v22,Q,U,v25,v26,v27,v28,v29,v30,E,v32,Y,v34,v35,u,v37,X,v39,y,J,z,v43,v44,v45,v46,Z,I,v49,v50,v51,v52,v53,v54,x,v56,F,N,v59,v60,v61,v62,v63,v64,v65,v66,v67,v68,v69,v70,v71,A,v73,v74,v75,K,v77,v78,v79,D,v81,v82,v83,rfl⟩:=array84 T q;simp only[g8,kC,dx]at s;subst s;refine⟨30,?_⟩;unfold Qs;simp only[L7,body_wait,waitFn,ga]
 u_c stepG_block b a
 repeat (u_c az b a)
 u_reg b a
 u_op b a
 u_op b a
 u_op b a
 u_call H.f_uLoad (nm_uLoad L) uLoadFn b a
 repeat (u_c az b a)
 u_reg b a
 u_op b a
 u_c ay b a
 repeat (u_c az b a)
 u_reg b a
 u_op b a
 u_op b a
 u_op b a
 refine Goes.stop (λo j=>?_);replace a:=b a j;clear j;refine⟨rfl,λv hv d=>?_⟩;rcases nk v with rfl|M
 .replace d:WgAt L.tWg Wg o 0 0:=by grind
  refine⟨_,stepG_load_atomic (v:=0) rfl rfl (by k_ne) rfl H.f_loadU64 (x_loadU64_n L) (x_loadU64_b L) (x_loadU64_x L) .u64 (x_loadU64_f L) rfl d.cellSt,λ_=>⟨80,?_⟩,λh=>absurd rfl h⟩;clear d
  walk_nrm
  u_op b a
  u_c ay b a
  u_c stepG_ret' b a
  u_leave1 H.f_uLoad b a
  u_op b a
  u_c ay b a
  repeat (u_c az b a)
  u_reg b a
  u_op b a
  u_op b a
  u_op b a
  u_op b a
  u_c ay b a
  repeat (u_c az b a)
  u_reg b a
  u_op b a
  u_op b a
  u_op b a
  u_op b a
  u_c ay b a
  repeat (u_c az b a)
  u_reg b a
  u_op b a
  u_op b a
  u_c ay b a
  repeat (u_c az b a)
  u_cond ab b a
  repeat (u_c az b a)
  u_cond ab b a
  repeat (u_c az b a)
  u_reg b a
  refine Goes.stop (λf c=>?_);clear c;refine⟨rfl,_,λw=>stepG_mark0 .enable (by simp) rfl rfl (by k_ne) rfl H.f_enable (x_enable_n L) (x_enable_b L) (x_enable_x L) (x_enable_f L),λw a=>⟨20,?_⟩⟩
  walk_nrm
  u_c ay b a
  repeat (u_c az b a)
  u_reg b a
  u_op b a
  u_conv H.underlying_tWgP H.room_tWg (Go.ConcN.Gen.WgLive.cell0 a).choose_spec b a
  refine Goes.stop (λf c=>?_);clear c;refine⟨rfl,_,λw=>stepG_markAt .acquire (by simp) rfl rfl (by k_ne) rfl H.f_acquire (x_acquire_n L) (x_acquire_b L) (x_acquire_x L) (x_acquire_f L) (by simp[Act.eval,stA]),λw a=>⟨40,?_⟩⟩
  walk_nrm
  u_c ay b a
  repeat (u_c az b a)
  u_reg b a
  u_op b a
  u_op b a
  u_op b a
  u_op b a
  u_op b a
  u_op b a
  u_op b a
  u_op b a
  u_skip b a
  u_skip b a
  u_op b a
  u_c ay b a
  repeat (u_c az b a)
  u_cond ae b a
  u_c stepG_skip b a
  u_c stepG_ret' b a
  u_leave0 H.f_wait b a
  grind[Goes.stop]
 .obtain⟨S,l⟩:∃S:Int,(v:Int)*KK=S:=⟨_,rfl⟩;have a1:S / 4294967296=(v:Int):=by rw[<-l];simp only[KK];omega
  have b1:bits .and .u64 S 2147483648=0:=by rw[<-l];have:=Go.ConcN.st_flag v 0 (by omega) (by omega);simpa[KK]using this
  have b2:bits .and .u64 S 2147483647=0:=by rw[<-l];have:=Go.ConcN.st_waiters v 0 (by omega) (by omega);simpa[KK]using this
  have c1:IntKind.i32.wrap (v:Int)=(v:Int):=by grind[IntKind.wrap_i32]
  have w1:IntKind.u64.wrap (S+1)=S+1:=by rw[IntKind.wrap_u64,<-l];simp only[KK];omega
  have q3:decide ((v:Int)<0)=ae:=gL (by omega);have q4:decide (0<(v:Int))=ab:=dh (by omega);have q5:((v:Int)==0)=ae:=by grind
  have q6:decide ((v:Int)=0)=ae:=gL (by omega);rw[l]at d;refine⟨_,stepG_load_atomic (v:=S) rfl rfl (by k_ne) rfl H.f_loadU64 (x_loadU64_n L) (x_loadU64_b L) (x_loadU64_x L) .u64 (x_loadU64_f L) rfl d.cellSt,λC=>absurd C (by omega),λ_=>⟨80,?_⟩⟩;clear d
  walk_nrm
  u_op b a
  u_c ay b a
  u_c stepG_ret' b a
  u_leave1 H.f_uLoad b a
  u_op b a
  u_c ay b a
  repeat (u_c az b a)
  u_reg b a
  u_op b a
  u_op b a
  u_op b a
  u_op b a
  u_c ay b a
  repeat (u_c az b a)
  u_reg b a
  u_op b a
  u_op b a
  u_op b a
  u_op b a
  u_c ay b a
  repeat (u_c az b a)
  u_reg b a
  u_op b a
  u_op b a
  u_c ay b a
  repeat (u_c az b a)
  u_cnd ae b a
  u_c stepG_skip b a
  repeat (u_c az b a)
  u_reg b a
  u_op b a
  u_op b a
  u_op b a
  u_op b a
  u_op b a
  u_op b a
  u_call H.f_uCas (nm_uCas L) uCasFn b a
  repeat (u_c az b a)
  u_reg b a
  u_op b a
  u_c ay b a
  repeat (u_c az b a)
  u_reg b a
  u_op b a
  u_op b a
  u_op b a
  u_op b a
  u_op b a
  refine Goes.stop (λf c=>?_);replace a:=b a c;clear c;refine⟨rfl,λv' U1 d=>⟨λe=>?_,λe=>?_⟩⟩
  .subst e;rw[l]at d⊢;refine⟨_,(stepG_cas_hit (v:=S) (n:=S+1) rfl rfl (by k_ne) rfl H.f_casU64 (x_casU64_n L) (x_casU64_b L) (x_casU64_x L) .u64 (x_casU64_f L) rfl rfl rfl d.cellSt (d.thaw 0)).trans (by rfl),90,?_⟩;replace a:WgLive L.tWg Wg (f.setCell (stA Wg) (.int .u64 (S+1))):=⟨_,_,d.setSt _⟩
   clear d
   walk_nrm
   u_op b a
   u_c ay b a
   u_c stepG_ret' b a
   u_leave1 H.f_uCas b a
   u_c ay b a
   repeat (u_c az b a)
   u_cond ab b a
   repeat (u_c az b a)
   u_reg b a
   u_op b a
   u_op b a
   u_op b a
   u_op b a
   u_c ay b a
   repeat (u_c az b a)
   u_cond ab b a
   repeat (u_c az b a)
   u_reg b a
   u_op b a
   u_op b a
   u_op b a
   u_conv H.underlying_tPU32 H.room_tU32 (Go.ConcN.Gen.WgLive.cell1 a).choose_spec b a
   refine Goes.stop (λf c=>?_);clear c;refine⟨rfl,_,⟨Wg,1,af⟩,rfl,λw=>stepG_markAt .write (by simp) rfl rfl (by k_ne) rfl H.f_raceWrite (x_raceWrite_n L) (x_raceWrite_b L) (x_raceWrite_x L) (x_raceWrite_f L) (ad:=⟨Wg,1,af⟩) (by simp[Act.eval]),λw a=>⟨60,?_⟩⟩
   walk_nrm
   u_c ay b a
   repeat (u_c az b a)
   u_reg b a
   u_op b a
   u_c ay b a
   repeat (u_c az b a)
   u_reg b a
   u_op b a
   u_op b a
   u_op b a
   u_op b a
   u_skip b a
   u_op b a
   u_c ay b a
   repeat (u_c az b a)
   u_cond ae b a
   u_c stepG_skip b a
   repeat (u_c az b a)
   u_reg b a
   u_op b a
   u_op b a
   u_op b a
   u_op b a
   refine Goes.stop (λp k=>?_);replace a:=b a k;clear k;refine⟨rfl,rfl,λ⟨st,d⟩=>stepG_semacquire_wait rfl rfl rfl H.f_semacquire (x_semacquire_n L) (x_semacquire_b L) (x_semacquire_x L) (x_semacquire_f L) (by simp[Act.eval,smA]) d.cellSm,λr=>?_⟩;refine⟨_,(stepG_semacquire (n:=1) rfl rfl (by k_ne) rfl H.f_semacquire (x_semacquire_n L) (x_semacquire_b L) (x_semacquire_x L) (x_semacquire_f L) (by simp[Act.eval,smA]) r.cellSm (by k_ne) (r.thaw 1)).trans (by rfl),40,?_⟩;replace a:WgLive L.tWg Wg (p.setCell (smA Wg) (.int .u32 0)):=⟨_,_,r.setSm 0⟩
   clear r
   walk_nrm
   u_c ay b a
   repeat (u_c az b a)
   u_reg b a
   u_op b a
   u_op b a
   u_op b a
   u_call H.f_uLoad (nm_uLoad L) uLoadFn b a
   repeat (u_c az b a)
   u_reg b a
   u_op b a
   u_c ay b a
   repeat (u_c az b a)
   u_reg b a
   u_op b a
   u_op b a
   u_op b a
   refine Goes.stop (λt i=>?_);replace a:=b a i;clear i;refine⟨rfl,λd=>⟨_,stepG_load_atomic (v:=0) rfl rfl (by k_ne) rfl H.f_loadU64 (x_loadU64_n L) (x_loadU64_b L) (x_loadU64_x L) .u64 (x_loadU64_f L) rfl d.cellSt,40,?_⟩⟩;clear d
   walk_nrm
   u_op b a
   u_c ay b a
   u_c stepG_ret' b a
   u_leave1 H.f_uLoad b a
   u_op b a
   u_op b a
   u_c ay b a
   repeat (u_c az b a)
   u_cond ab b a
   repeat (u_c az b a)
   u_reg b a
   refine Goes.stop (λf c=>?_);clear c;refine⟨rfl,_,λw=>stepG_mark0 .enable (by simp) rfl rfl (by k_ne) rfl H.f_enable (x_enable_n L) (x_enable_b L) (x_enable_x L) (x_enable_f L),λw a=>⟨20,?_⟩⟩
   walk_nrm
   u_c ay b a
   repeat (u_c az b a)
   u_reg b a
   u_op b a
   u_conv H.underlying_tWgP H.room_tWg (Go.ConcN.Gen.WgLive.cell0 a).choose_spec b a
   refine Goes.stop (λf c=>?_);clear c;refine⟨rfl,_,λw=>stepG_markAt .acquire (by simp) rfl rfl (by k_ne) rfl H.f_acquire (x_acquire_n L) (x_acquire_b L) (x_acquire_x L) (x_acquire_f L) (by simp[Act.eval,stA]),λw a=>⟨40,?_⟩⟩
   walk_nrm
   u_c ay b a
   repeat (u_c az b a)
   u_reg b a
   u_op b a
   u_c ay b a
   repeat (u_c az b a)
   u_cond ae b a
   u_c stepG_skip b a
   u_c stepG_ret' b a
   u_leave0 H.f_wait b a
   grind[Goes.stop]
  .refine⟨_,stepG_cas_miss (v:=(v':Int)*KK) (old:=S) (n:=S+1) rfl rfl (by k_ne) rfl H.f_casU64 (x_casU64_n L) (x_casU64_b L) (x_casU64_x L) .u64 (x_casU64_f L) rfl rfl rfl d.cellSt (d.thaw 0) (by rw[<-l];simp only[KK];omega),30,?_⟩;clear d
   walk_nrm
   u_op b a
   u_c ay b a
   u_c stepG_ret' b a
   u_leave1 H.f_uCas b a
   u_c ay b a
   repeat (u_c az b a)
   u_cond ae b a
   u_c stepG_skip b a
   u_c stepG_inBlock b a
   u_c stepG_inLoop b a
   exact Goes.stop λ_ _=>⟨_,rfl,by simp,by simp⟩
end
section
open Go.Conc Go.Conc.Lib
open Go.ConcN (WgLive)
open Go.ConcR (KK WgAt stA smA rd wr mk DC0 Payload)
def fp(ty:aw)(Wg:Nat)(w w1:aA):Prop:=WgLive ty Wg w->WgLive ty Wg w1
def fp.refl{ty:aw}{Wg:Nat}(w:aA):fp ty Wg w w:=id
def fp.trans{ty:aw}{Wg:Nat}{a b c:aA}(h:fp ty Wg a b)(k:fp ty Wg b c):fp ty Wg a c:=λx=>k (h x)
def xp(R:aA->aA->Prop)(Stop:aq->aA->Prop)(g:aq)(w:aA):Prop:=∀w1,R w w1->Stop g w1
def Goes.Tt{P:aM}{main:Bool}{R:aA->aA->Prop}{D:aA->aA->Array Event->Prop}{Stop:aq->aA->Prop}(k:∀a b c,R a b->R b c->R a c):
  ∀{n:Nat} {g:aq} {w:aA},Goes P main R D Stop n g w->Goes P main R D (xp R Stop) n g w
 |0,g,w,h=>λw1 l w2 p=>h w2 (k _ _ _ l p)
 |n+1,g,w,h=>by
  rcases h with h|⟨d,h⟩
  .exact .inl λw1 l w2 p=>h w2 (k _ _ _ l p)
  .refine .inr ⟨d,λw1 l=>?_⟩;have p:=h w1 l;cases j:aG P main g w1 with
   |go g' w' es =>
    rw[j,goes_go]at p;rw[goes_go];exact⟨p.1,Goes.Tt k p.2⟩
   |_=>rw[j]at p;exact p.elim
structure Apart(Wg:Nat)(F:St->Prop):Prop where
 rely:∀s s',F s->bU s s'->F s'
 heap:∀s,F s->∃σ,aD σ s
 free:∀s,F s->¬s.own Wg/\(∀L∈s.β,Wg∉L.bs)/\∀o,s.M Wg o=af
section
variable {P:aM}{L:WgLink}{Wg:Nat}{F:St->Prop}
def x9(ty:aw)(Wg:Nat)(F:St->Prop)(s:St):Prop:=F s/\WgLive ty Wg s.w
def Apart.OQ(A:Apart Wg F){s:St}(h:F s):fW s:=(A.heap s h).choose_spec.mem
def Apart.set(A:Apart Wg F){s:St}(h:F s)(a:Addr)(x:a.block=Wg)(v:ai):bU s {s with w:=s.w.setCell a v}:=by
 obtain⟨l,p,y⟩:=A.free s h;have j:∀b,b≠Wg->(s.w.setCell a v).heap[b]?=s.w.heap[b]?:=λb hb=>by have:=(aside_setCell s.w a v).block b (by grind);exact this
 refine⟨rfl,rfl,rfl,Nat.le_of_eq (aside_setCell s.w a v).size.symm,λb hb=>j b ?_,λb o u k=>?_,(aside_setCell s.w a v).os,(aside_setCell s.w a v).tape,(aside_setCell s.w a v).output⟩
 .grind
 .have E:b≠Wg:=by grind
  show(s.w.setCell a v).cell? _=_;rw[jz (j b E) o];exact A.OQ h b o u k
def Apart.next(A:Apart Wg F){ty:aw}{s i:St}(h:x9 ty Wg F s)(r:(Cx.lead P ty Wg).rely s i):x9 ty Wg F i:=⟨A.rely s i h.1 r.1,r.2 h.2⟩
def Apart.here(A:Apart Wg F){ty:aw}{s:St}(h:x9 ty Wg F s):(Cx.lead P ty Wg).rely s s:=⟨bU.vn (A.OQ h.1),id⟩
def Apart.goes(A:Apart Wg F){ty:aw}{S:aq->St->Prop}{Stop:aq->aA->Prop}(k:∀g s,x9 ty Wg F s->xp (fp ty Wg) Stop g s.w->eg (Cx.lead P ty Wg) (Es Wg) S g s){n:Nat}{g:aq}{s:St}(d:x9 ty Wg F s)(h:Goes P ab (fp ty Wg) DC0 Stop n g s.w):eg (Cx.lead P ty Wg) (Es Wg) S g s:=by refine eg.goes (X:=Cx.lead P ty Wg) (R:=fp ty Wg) (D:=DC0) (Stop:=xp (fp ty Wg) Stop) (x9 ty Wg F) (λs i hi f=>A.next hi f) (λs i _ f=>f.2) ?_ (λs hi=>A.here hi) k n g s d (Goes.Tt (λ_ _ _ l p=>l.trans p) h);rintro s es hi w' ⟨rfl,rfl⟩;exact⟨rfl,.inl (.quiet (A.heap s hi.1).choose_spec)⟩
end
set_option maxRecDepth 100000 in
def Dq{P:aM}{L:WgLink}(H:WgLib P L){Wg:Nat}:Frame.enter P L.add #[.pointer (aa ⟨Wg,0,af⟩),.int .i64 1] .normal=(base L.add).at ⟨#[.pointer (aa ⟨Wg,0,af⟩),.int .i64 1,ah,ah,ah,ah,ah,ah,ah,ah,ah,ah,ah,ah,ah,ah,ah,ah,ah,ah,ah,ah,ah,ah,ah,ah,ah,ah,ah,ah,ah,ah,ah,ah,ah,ah,ah,ah,ah,ah,ah,ah,ah,ah,ah,ah,ah,ah,ah,ah,ah,ah,ah,ah,ah,ah,ah,ah,ah,ah,ah,ah,ah,ah,ah,ah,ah,ah,ah,ah,ah,ah,ah,ah,ah,ah,ah,ah,ah,ah,ah,ah,ah,ah,ah,ah,ah,ah,ah,ah,ah,ah,ah,ah,ah,ah,ah,ah,ah,ah,ah,ah,ah,ah,ah,ah,ah,ah,ah,ah,ah,ah,ah,ah,ah,ah,ah],[]⟩ [.code (Go.ConcR.Gen.body_add L)] :=
 (enter_at (c:=Go.ConcR.Gen.body_add L) _ H.f_add (by kernel_rfl)).trans (by kernel_rfl)
set_option maxRecDepth 100000 in
def Bw{P:aM}{L:WgLink}(H:WgLib P L){Wg:Nat}:Frame.enter P L.wait #[.pointer (aa ⟨Wg,0,af⟩)] .normal=(base L.wait).at ⟨#[.pointer (aa ⟨Wg,0,af⟩),ah,ah,ah,ah,ah,ah,ah,ah,ah,ah,ah,ah,ah,ah,ah,ah,ah,ah,ah,ah,ah,ah,ah,ah,ah,ah,ah,ah,ah,ah,ah,ah,ah,ah,ah,ah,ah,ah,ah,ah,ah,ah,ah,ah,ah,ah,ah,ah,ah,ah,ah,ah,ah,ah,ah,ah,ah,ah,ah,ah,ah,ah,ah,ah,ah,ah,ah,ah,ah,ah,ah,ah,ah,ah,ah,ah,ah,ah,ah,ah,ah,ah,ah],[]⟩ [.code (Go.ConcR.Gen.body_wait L)] :=
 (enter_at (c:=Go.ConcR.Gen.body_wait L) _ H.f_wait (by kernel_rfl)).trans (by kernel_rfl)
section
variable [Payload]{P:aM}{L:WgLink}{Y:Lay}{F:St->Prop}{N n:Nat}{val:Nat->Nat->ai}
def W4(H:WgLib P L)(A:Apart Y.Wg F){j:Nat}{Next:aq->St->Prop}{b₀:aU}{a₀:Act}{ops₀:Array aB}{i₀:Nat}{rest₀:List Nat}{k₀:List Item}{cs:List aU}(o:∀s,x9 L.tWg Y.Wg F s->eg (Cx.lead P L.tWg Y.Wg) (Es Y.Wg) (AtGo P L.tWg Y N val j Next) (G (b₀.at (a₀.put ((ops₀[i₀]?).bind (·.dst)) (.tuple #[])) (.inRegion ops₀ rest₀::k₀)) cs) s){s:St}(d:x9 L.tWg Y.Wg F s):
  eg (Cx.lead P L.tWg Y.Wg) (Es Y.Wg) (AtKdS P L.tWg Y N val j Next) (G (Frame.enter P L.add #[.pointer (aa ⟨Y.Wg,0,af⟩),.int .i64 1] .normal) (b₀.at a₀ (.inRegion ops₀ (i₀::rest₀)::k₀)::cs)) s:=by
 have z:∀g s,x9 L.tWg Y.Wg F s->W5 P (fp L.tWg Y.Wg) L Y.Wg (G (b₀.at (a₀.put ((ops₀[i₀]?).bind (·.dst)) (.tuple #[])) (.inRegion ops₀ rest₀::k₀)) cs) g s.w->eg (Cx.lead P L.tWg Y.Wg) (Es Y.Wg) (AtKeS P L.tWg Y N val j Next) g s:=by rintro g s d ⟨l,g',p,y⟩;refine⟨.leaf,l,g',p,λi f=>?_⟩;have a:=A.next d f;obtain⟨m,q⟩:=y i.w a.2;exact A.goes (λg s d h=>by obtain rfl:=h s.w (.refl _);grind) a q
 have b:∀g s,x9 L.tWg Y.Wg F s->xp (fp L.tWg Y.Wg) (YK P (fp L.tWg Y.Wg) L Y.Wg (G (b₀.at (a₀.put ((ops₀[i₀]?).bind (·.dst)) (.tuple #[])) (.inRegion ops₀ rest₀::k₀)) cs)) g s.w->eg (Cx.lead P L.tWg Y.Wg) (Es Y.Wg) (AtA1 P L.tWg Y N val j Next) g s:=by
  rintro g s d h;refine⟨.leaf,(h s.w (.refl _)).1,λi f v I t=>?_⟩;have a:=A.next d f;obtain⟨g',l,m,q⟩:=(h i.w f.2).2 v I t;have k:x9 L.tWg Y.Wg F {i with w:=i.w.setCell (stA Y.Wg) (.int .u64 ((v+1)*KK))}:=⟨A.rely _ _ a.1 (A.set a.1 _ rfl _),⟨_,_,t.setSt _⟩⟩;refine⟨g',l,A.goes (λg s d h=>?_) k q⟩
  rcases h s.w (.refl _)with h|h
  .obtain⟨l,g',ad,p,y,W⟩:=h;refine .step l λi f=>⟨g',i,_,y i.w,.inr ⟨rfl,ad,p,.inl rfl⟩,?_⟩
   have a:=A.next d f;obtain⟨m,q⟩:=W i.w a.2;exact A.goes (λg s d h=>z g s d (h s.w (.refl _))) a q
  grind
 have t:=MW (P:=P) (L:=L) H (R:=fp L.tWg Y.Wg) (Wg:=Y.Wg) (λh r=>r h) (b₀:=b₀) (a₀:=a₀) (ops₀:=ops₀) (i₀:=i₀) (rest₀:=rest₀) (k₀:=k₀) (cs:=cs) s.w d.2;rw[Dq H];refine A.goes (λg s d h=>?_) d t;obtain⟨l,g',p,y⟩:=h s.w (.refl _);refine⟨.leaf,l,g',p,λi f=>?_⟩;have a:=A.next d f;obtain⟨m,q⟩:=y i.w a.2;exact A.goes b a q
section
variable (P L Y F)
def TW(B g:aq)(s:St):Prop:=x9 L.tWg Y.Wg F s/\∃m,Goes P ab (fp L.tWg Y.Wg) DC0 (λg _=>g=B) m g s.w
def Fh(c:aU)(cs:List aU)(g:aq)(s:St):Prop:=x9 L.tWg Y.Wg F s/\∃m,Goes P ab (fp L.tWg Y.Wg) DC0 (λg _=>Qs L Y.Wg c cs g) m g s.w
end
variable {b₀:aU}{a₀:Act}{ops₀:Array aB}{i₀:Nat}{rest₀:List Nat}{k₀:List Item}{cs:List aU}
omit [Payload]in
def Tu(H:WgLib P L)(A:Apart Y.Wg F){T J:aq->St->Prop}(K:∀g s,TW P L Y F (G (b₀.at (a₀.put ((ops₀[i₀]?).bind (·.dst)) (.tuple #[])) (.inRegion ops₀ rest₀::k₀)) cs) g s->T g s)(C:∀g s,Fh P L Y F (b₀.at a₀ (.inRegion ops₀ (i₀::rest₀)::k₀)) cs g s->J g s){g:aq}{s:St}(h:Fh P L Y F (b₀.at a₀ (.inRegion ops₀ (i₀::rest₀)::k₀)) cs g s):
  eg (Cx.lead P L.tWg Y.Wg) (Es Y.Wg) (AtW1 P L.tWg Y T J) g s:=by
 generalize hc:b₀.at a₀ (.inRegion ops₀ (i₀::rest₀)::k₀)=c at *;generalize Q:G (b₀.at (a₀.put ((ops₀[i₀]?).bind (·.dst)) (.tuple #[])) (.inRegion ops₀ rest₀::k₀)) cs=B at K;have O:∀g s,x9 L.tWg Y.Wg F s->xp (fp L.tWg Y.Wg) (Tv P (fp L.tWg Y.Wg) L Y.Wg B) g s.w->eg (Cx.lead P L.tWg Y.Wg) (Es Y.Wg) (AtAcq P L.tWg Y T) g s:=by intro g s d h;obtain⟨l,g',p,y⟩:=h s.w (.refl _);exact⟨.leaf,l,g',p,λi f=>K _ _ ⟨A.next d f,y i.w (A.next d f).2⟩⟩
 have z:∀g s,x9 L.tWg Y.Wg F s->xp (fp L.tWg Y.Wg) (W6 P (fp L.tWg Y.Wg) L Y.Wg B) g s.w->eg (Cx.lead P L.tWg Y.Wg) (Es Y.Wg) (AtKe P L.tWg Y T) g s:=by intro g s d h;obtain⟨l,g',p,y⟩:=h s.w (.refl _);refine⟨.leaf,l,g',p,λi f=>?_⟩;obtain⟨m,q⟩:=y i.w (A.next d f).2;exact A.goes O (A.next d f) q
 have V:∀g s,x9 L.tWg Y.Wg F s->xp (fp L.tWg Y.Wg) (YL P (fp L.tWg Y.Wg) L Y.Wg B) g s.w->eg (Cx.lead P L.tWg Y.Wg) (Es Y.Wg) (AtW4 P L.tWg Y T) g s:=by intro g s d h;refine⟨.leaf,(h s.w (.refl _)).1,λi f t=>?_⟩;obtain⟨g',l,m,q⟩:=(h i.w f.2).2 t;exact⟨g',l,A.goes z (A.next d f) q⟩
 have U:∀g s,x9 L.tWg Y.Wg F s->xp (fp L.tWg Y.Wg) (YM P (fp L.tWg Y.Wg) L Y.Wg B) g s.w->eg (Cx.lead P L.tWg Y.Wg) (Es Y.Wg) (AtW3 P L.tWg Y T) g s:=by intro g s d h;refine⟨.leaf,(h s.w (.refl _)).1,(h s.w (.refl _)).2.1,λi f=>⟨(h i.w f.2).2.2.1,λt=>?_⟩⟩;obtain⟨g',l,m,q⟩:=(h i.w f.2).2.2.2 t;exact⟨g',l,A.goes V (s:={i with w:=i.w.setCell (smA Y.Wg) (.int .u32 0)}) ⟨A.rely _ _ (A.next d f).1 (A.set (A.next d f).1 _ rfl _),⟨_,_,t.setSm 0⟩⟩ q⟩
 have gWr:∀g s,x9 L.tWg Y.Wg F s->xp (fp L.tWg Y.Wg) (YN P (fp L.tWg Y.Wg) L Y.Wg B) g s.w->eg (Cx.lead P L.tWg Y.Wg) (Es Y.Wg) (AtW3 P L.tWg Y T) g s:=by
  intro g s d h;obtain⟨l,g',ad,p,y,W⟩:=h s.w (.refl _);refine .step l λi f=>⟨g',i,_,y i.w,.inr ⟨rfl,ad,p,.inr rfl⟩,?_⟩
  obtain⟨m,q⟩:=W i.w (A.next d f).2;exact A.goes U (A.next d f) q
 have Z:∀(v:Nat) g s,x9 L.tWg Y.Wg F s->xp (fp L.tWg Y.Wg) (YO P (fp L.tWg Y.Wg) L Y.Wg B (Qs L Y.Wg c cs) v) g s.w->eg (Cx.lead P L.tWg Y.Wg) (Es Y.Wg) (AtW2 P L.tWg Y T J v) g s:=by
  intro vs g s d h;refine⟨.leaf,(h s.w (.refl _)).1,λi f v I t=>⟨λe=>?_,λe=>?_⟩⟩
  .obtain⟨g',l,m,q⟩:=((h i.w f.2).2 v I t).1 e;exact⟨g',l,A.goes gWr (s:={i with w:=i.w.setCell (stA Y.Wg) (.int .u64 (v*KK+1))}) ⟨A.rely _ _ (A.next d f).1 (A.set (A.next d f).1 _ rfl _),⟨_,_,t.setSt _⟩⟩ q⟩
  .obtain⟨g',l,m,q⟩:=((h i.w f.2).2 v I t).2 e;exact⟨g',l,C _ _ ⟨A.next d f,m,q⟩⟩
 obtain⟨d,m,q⟩:=h;refine A.goes (λg s d h=>?_) d q;obtain⟨m,t⟩:=Dr (P:=P) (L:=L) H (R:=fp L.tWg Y.Wg) (Wg:=Y.Wg) (λh r=>r h) (b₀:=b₀) (a₀:=a₀) (ops₀:=ops₀) (i₀:=i₀) (rest₀:=rest₀) (k₀:=k₀) (cs:=cs) g (by rw[hc];exact h s.w (.refl _)) s.w d.2;rw[hc,Q]at t;refine A.goes (λg s d h=>?_) d t;refine⟨.leaf,(h s.w (.refl _)).1,λi f v I t=>?_⟩;obtain⟨g',l,p,y⟩:=(h i.w f.2).2 v I t;refine⟨g',l,λh0=>?_,λE=>?_⟩
 .obtain⟨m,q⟩:=p h0;exact A.goes z (A.next d f) q
 .obtain⟨m,q⟩:=y E;exact A.goes (Z v) (A.next d f) q
omit [Payload]in
def Tw(H:WgLib P L)(A:Apart Y.Wg F){c:aU}{J:aq->St->Prop}(C:∀g s,Fh P L Y F c cs g s->J g s){s:St}(d:x9 L.tWg Y.Wg F s):
  eg (Cx.lead P L.tWg Y.Wg) (Es Y.Wg) (AtKd P L.tWg Y J) (G (Frame.enter P L.wait #[.pointer (aa ⟨Y.Wg,0,af⟩)] .normal) (c::cs)) s:=by have t:=Ds (P:=P) (L:=L) H (R:=fp L.tWg Y.Wg) (Wg:=Y.Wg) (λh r=>r h) (c:=c) (cs:=cs) s.w d.2;rw[Bw H];refine A.goes (λg s d h=>?_) d t;obtain⟨l,g',p,y⟩:=h s.w (.refl _);exact⟨.leaf,l,g',p,λi f=>C _ _ ⟨A.next d f,y i.w (A.next d f).2⟩⟩
end
end
section
open Go.Conc Go.RowKit Go.Conc.Lib Go.ConcR.Gen
open Go.ConcN (WgLive Has RW DWs AtR0 EvW)
open Go.ConcN.Gen
open Go.ConcR (KK WgAt stA smA rd wr mk DC0 Payload)
section
variable {R:aA->aA->Prop}{D:aA->aA->Array Event->Prop}{Stop A:aq->aA->Prop}
def Goes.never(b:∀w,R w w)(f:∀g w,Stop g w->∃g' e,aG P ae g w=.go g' w #[e])(d:∀n g w,A g w->¬Goes P ae R D Stop n g w):
  ∀(m n:Nat) (g:aq) (w:aA),Goes P ae R DC0 A m g w->¬Goes P ae R D Stop n g w
 |0,n,g,w,h,k=>d n g w (h w (b w)) k
 |m+1,n,g,w,h,k=>by
  rcases h with h|⟨_,h⟩
  .grind
  .have h1:=h w (b w);cases a:aG P ae g w with
   |go g' w' es =>
    rw[a,goes_go]at h1;obtain⟨⟨rfl,rfl⟩,h2⟩:=h1;have no:¬Stop g w':=λi=>by grind
    cases n with
    |zero=>exact no (k w' (b w'))
    |succ n =>
     rcases k with k|⟨_,k⟩
     .grind
     .have k1:=k w' (b w');rw[a,goes_go]at k1;exact Goes.never b f d m n g' w' h2 k1.2
   |_=>rw[a]at h1;exact h1.elim
def Goes.meet(d:∀w,R w w)(i:∀g w,Stop g w->∃g' e,aG P ae g w=.go g' w #[e])(b:∀n g w,A g w->Goes P ae R D Stop n g w->∀w1,R w w1->Stop g w1):
  ∀(m n:Nat) (g:aq) (w:aA),Goes P ae R DC0 A m g w->Goes P ae R D Stop n g w->Goes P ae R DC0 Stop m g w
 |0,n,g,w,h,k=>b n g w (h w (d w)) k
 |m+1,n,g,w,h,k=>by
  rcases h with h|⟨f,h⟩
  .exact .inl (b n g w (h w (d w)) k)
  .refine .inr ⟨f,λw1 hr=>?_⟩;have h1:=h w1 hr;cases a:aG P ae g w1 with
   |go g' w' es =>
    rw[a,goes_go]at h1;rw[goes_go];obtain⟨⟨rfl,rfl⟩,h2⟩:=h1;have no:¬Stop g w':=λf=>by grind
    refine⟨⟨rfl,rfl⟩,?_⟩;cases n with
    |zero=>exact absurd (k w' hr) no
    |succ n =>
     rcases k with k|⟨_,k⟩
     .grind
     .have k1:=k w' hr;rw[a,goes_go]at k1;exact Goes.meet d i b m n g' w' h2 k1.2
   |_=>rw[a]at h1;exact h1.elim
end
variable [Payload]{L:WgLink}{Wg C Low x:Nat}{val:ai}{c:aU}
def StK(P:aM)(g:aq)(_:aA):Prop:=∃a,∀w,aG P ae g w=.go a w #[mk .disable]
def StR(P:aM)(L:WgLink)(Wg C n Low x:Nat)(val:ai)(g:aq)(w:aA):Prop :=
 (WgLive L.tWg Wg w/\Has C (x-1) val w)/\∃g2,(∀w,aG P ae g w=.go g2 w #[mk (.releaseMerge (stA Wg))])/\∀w,WgLive L.tWg Wg w/\Has C (x-1) val w->∃m,Goes P ae (RW L.tWg Wg C n Low (x-1)) DC0 (StK P) m g2 w
set_option maxRecDepth 100000 in
def Ln(H:WgLib P L)(w:aA)(a:WgLive L.tWg Wg w/\Has C (x-1) val w):
  Goes P ae (RW L.tWg Wg C n Low (x-1)) DC0 (StR P L Wg C n Low x val) 23 (G ((baseD L.done).at ⟨#[.pointer (aa ⟨Wg,0,af⟩),ah,ah,ah],[]⟩ [.code (body_done L)]) (c::cs)) w:=by
 lib_facts
 simp only[body_done,body_add,doneFn,addFn,ga]
 u_reg kn_rely a
 u_op kn_rely a
 u_in kn_rely a
 refine goes_call rfl rfl (by k_ne) rfl H.f_add (nm_add L) rfl ⟨by u_nil,?_⟩
 walk_nrmf addFn
 repeat (u_c az kn_rely a)
 u_cond ab kn_rely a
 repeat (u_c az kn_rely a)
 u_reg kn_rely a
 u_op kn_rely a
 u_op kn_rely a
 u_c ay kn_rely a
 repeat (u_c az kn_rely a)
 u_cond ab kn_rely a
 u_reg kn_rely a
 u_op kn_rely a
 u_conv H.underlying_tWgP H.room_tWg (Go.ConcN.Gen.WgLive.cell0 a.1).choose_spec kn_rely a
 refine Goes.stop (λd b=>?_);replace a:=kn_rely a b;clear b;refine⟨a,_,λw=>stepG_markAt .releaseMerge (by simp) rfl rfl (by k_ne) rfl H.f_relMerge (x_relMerge_n L) (x_relMerge_b L) (x_relMerge_x L) (x_relMerge_f L) (by simp[Act.eval,stA]),λw a=>⟨10,?_⟩⟩
 walk_nrm
 u_c ay kn_rely a
 repeat (u_c az kn_rely a)
 u_reg kn_rely a
 exact Goes.stop λd b=>⟨_,λw=>stepG_mark0 .disable (by simp) rfl rfl (by k_ne) rfl H.f_disable (x_disable_n L) (x_disable_b L) (x_disable_x L) (x_disable_f L)⟩
def TO(H:WgLib P L){z:Nat}(f:c.mode=.returning)(q:QuitsD P z 0 (G c cs))(w:aA)(d:WgLive L.tWg Wg w/\Has C (x-1) val w):
  Goes P ae (RW L.tWg Wg C n Low (x-1)) DC0 (AtR0 P L.tWg Wg C n Low x val) 23 (G ((baseD L.done).at ⟨#[.pointer (aa ⟨Wg,0,af⟩),ah,ah,ah],[]⟩ [.code (body_done L)]) (c::cs)) w:=by
 have v:=doneN (Own:=λ_ _=>False) (Rd:=λ_ _=>False) (Low:=Low) (n:=n) H f q w d;have i:∀g w,AtR0 P L.tWg Wg C n Low x val g w->∃g' e,aG P ae g w=.go g' w #[e]:=λg w h=>by obtain⟨_,_,g',p,_⟩:=h;grind
 have y:(mk (.releaseMerge (stA Wg)):Event)≠mk .disable:=by simp[mk]
 refine Goes.meet (λw=>.refl w) i ?_ _ _ _ _ (Ln H w d) v;intro l g w h k w1 hr;obtain⟨d,g2,p,t⟩:=h;have a:AtR0 P L.tWg Wg C n Low x val g w1∨∃o,Goes P ae (RW L.tWg Wg C n Low (x-1)) (DWs Wg (λ_ _=>False) (λ_ _=>False) C n x) (AtR0 P L.tWg Wg C n Low x val) o g2 w1:=by
  cases l with
  |zero=>exact .inl (k w1 hr)
  |succ l =>
   rcases k with k|⟨_,k⟩
   .grind
   grind[goes_go]
 rcases a with h|⟨o,h⟩
 .exact h
 .exfalso;obtain⟨m,r⟩:=t w1 (kn_rely d hr);refine Goes.never (λw=>.refl w) i ?_ _ _ _ _ r h;rintro j u w4 ⟨I,B⟩ k;have b:∀w,¬AtR0 P L.tWg Wg C n Low x val u w:=λw s=>by obtain⟨_,_,F,E,_⟩:=s;grind
  cases j with
  |zero=>exact b w4 (k w4 (.refl w4))
  |succ j =>
   rcases k with k|⟨_,k⟩
   .exact b w4 (k w4 (.refl w4))
   .have k1:=k w4 (.refl w4);rw[B w4,goes_go]at k1;have:=(k1.1.2 _ (Array.mem_singleton.2 rfl)).2.1;exact this rfl
end
section
open Go.Conc (G crowd rcase scase ph partners_nil offersAt crowd_send_room crowd_recv_buf crowd_recv_closed runT_crowd_go EvL listed)
def gR(z:ai)(cap:Nat)(q:List Int)(cl:Bool):ai->(Nat->Option Obj)->Prop:=λv a=>v=z/\∃r s t,z=.chan (aa r)/\(∀n∈q,bw .i64 n)/\∀b,a b=if b=r then aa (.chan cap (q.map (Value.int .i64)).toArray cl s t ae)else af
structure xO(s:St)(l:Nat)(z:ai)(cap:Nat)(q:List Int)(cl:Bool)(L:Loc)(r sn rc:Nat):Prop where
 at':s.β[l]?=aa L
 v:L.v=z
 m:z=.chan (aa r)
 inr:∀n∈q,bw .i64 n
 heap:s.w.heap[r]?=aa (.chan cap (q.map (Value.int .i64)).toArray cl sn rc ae)
 bs:∀b,b∈L.bs↔b=r
section
variable {z:ai}{cap:Nat}{q:List Int}{cl:Bool}
def gR.open(hh:aD σ s)(hl:σ[l]?=aa (.cf (gR z cap q cl))):∃L r sn rc,xO s l z cap q cl L r sn rc:=by
 have hb:l<s.β.length:=by rw[hh.len];grind
 obtain⟨ch,⟨h1,r,sn,rc,h2,a,e⟩,c,d,_⟩:=hh.box l _ _ hl (bm hb);exact⟨_,r,sn,rc,bm hb,h1,h2,a,c r _ (by grind),λb=>by grind⟩
def xO.iD{L:Loc}{r sn rc:Nat}(g:xO s l z cap q cl L r sn rc)(hh:aD σ s)(hl:σ[l]?=aa (.cf (gR z cap q cl))){q':List Int}(a:Bool)(d c:Nat)(j:∀n∈q',bw .i64 n):
  aD (σ.set l (.cf (gR z cap q' a))) {s with w:=s.w.setChan r cap (q'.map (Value.int .i64)).toArray a d c ae}/\Step σ s (σ.set l (.cf (gR z cap q' a))) {s with w:=s.w.setChan r cap (q'.map (Value.int .i64)).toArray a d c ae}:=by
 have f:r<s.w.heap.size:=(eZ.1 g.heap).1;have h:=hh.iD (H':=gR z cap q' a) (L':=L) (w':=s.w.setChan r cap (q'.map (Value.int .i64)).toArray a d c ae) hl g.at' rfl (by simp[World.setChan]) (λb _ hb=>by show(s.w.heap.setIfInBounds r _)[b]?=_;rw[ni (by rintro rfl;exact hb ((g.bs r).2 rfl))]) (λb hb=>.inl hb)
  ⟨λb=>if b=r then aa (.chan cap (q'.map (Value.int .i64)).toArray a d c ae)else af,⟨g.v,r,d,c,g.m,j,λ_=>rfl⟩,λb k hb=>by
   simp only[World.setChan]
   grind,λb=>by rw[g.bs];by_cases e:b=r<;>simp[e]⟩ rfl rfl rfl
 have e1:s.β.set l L=s.β:=by
  apply gK;intro i;by_cases e:l=i
  .subst e;rw[fQ (b8.1 g.at').1,g.at']
  grind
 rwa [e1]at h
end
def l3(c:Nat):MemAct->Prop
 |.send k _|.sendDone k _|.recv k _ _|.recvDone k _|.recvClosed k=>k=c
 |_=>False
def l3.Pz{Sh:Go.Loc->Prop}{B c:Nat}{t u:Trace}(h:Go.Conc.Past Sh B t)(e:∀op∈u,op.g=0/\l3 c op.act)(j:c<B):Go.Conc.Past Sh B (t++u):=by
 refine h.app0 (λop ir=>(e op ir).1) (λop ir b hb=>?_) ?_ λop ir=>?_
 .have:=(e op ir).2;cases a:op.act<;>simp[a,l3,bj]at this hb
 .obtain⟨u⟩:=u;rw[Go.Conc.Deaf_append];have:∀(l:List MemOp) (d:Nat),(∀op∈l,l3 c op.act)->l.foldl (Go.Conc.deafStep 0) d=d:=λl=>by
   induction l with
   |nil=>exactλd _=>rfl
   |cons x l f =>
    intro d hl;have i:=hl x iA;rw[iB,f _ λop ir=>hl op (kE _ ir)];cases a:x.act<;>simp[a,l3,Go.Conc.deafStep]at i⊢
  exact this u _ λop ir=>(e op (by simpa using ir)).2
 .have:=(e op ir).2;cases a:op.act<;>simp[a,l3,MemAct.low]at this⊢<;>omega
def l3.norel{c:Nat}{t u:Trace}(h:mL t)(b:∀op∈u,op.g=0/\l3 c op.act):mL (t++u) :=
 λa=>(h a).app λop ir hx=>by have:=(b op ir).2;rw[hx]at this;exact this
section
def mO(P:aM)(N:Nat)(o:aB)(φ:Fr)(σ:List bd)(x:D)(σ':List bd):Prop :=
 ∀s a,ck N σ s φ a->aD σ s->∀(b:aU) (k:List Item) (cs:List aU) (ops:Array aB) (i:Nat) (rest:List Nat),b.kind≠.early->ops[i]?=aa o->aY o (yielded ops a.tmps)=ab ->
  AD P (G (b.aT a (.inRegion ops (i::rest)::k)) cs) s λg' s'=>∃v,g'=G (b.aT (a.put o.dst v) (.inRegion ops rest::k)) cs/\aD σ' s'/\cN σ s σ' s'/\dk σ' s' v x
def AK.zj{x:D}(h:mO P N o φ σ x σ')(p:o.guard=af)(l:fD N o.dst=ab)(k:AK (Cx.beside P) N Qf (.ops all rest::K) .normal (kg o.dst x φ) σ'):AK (Cx.beside P) N Qf (.ops all (o::rest)::K) .normal φ σ:=by
 intro s a f hh b kk cs S idx hb iC hQ;cases idx with
 |nil=>exact iC.elim
 |cons j idx =>
 refine .uO (h s a f hh b kk cs _ j idx hb iC.1 (du p)) ?_;rintro g' s' ⟨v,rfl,d,e,i⟩;refine k s' _ ?_ d b kk cs S idx hb iC.2 λc σ2 s2 a2 q g h2 st=>hQ c σ2 s2 a2 q g h2 (e.trans st);cases m:o.dst with
 |none=>exact f.mono e hh.len
 |some t=>exact(f.mono e hh.len).put (gB l t m) i
def PC{t:Trace}{q:Nat->Nat}(b:Go.Conc.Leavers P t gs q)(r:Nat)(send:Bool):partners (gs.setIfInBounds 0 ph) r send=[]:=by
 refine partners_nil λj g a=>?_;rcases nk j with rfl|c
 .rw[Array.getElem?_setIfInBounds]at a;split at a
  .split at a
   .cases a;rfl
   .cases a
  .simp at *
 .rw[ni (by omega)]at a;have:=(b.old j g c a).status;unfold offersAt;rcases this with h|h<;>rw[h]
def zk{g2:aq}{c:Nat}{T:aq->St->Prop}(u:g.status=.running)(F:aD σ s)(one:∀(d:Nat) (gs:Array aq) (sl:Option (Nat×Nat)),gs[0]?=aa g->(∀r send,partners (gs.setIfInBounds 0 ph) r send=[]) ->
   ∃a ops,runT P (crowd gs (s.w.at d) sl) 0=(.next (crowd (gs.setIfInBounds 0 g2) a.w sl),ops)/\(∀op∈ops,op.g=0/\l3 c op.act)/\aD σ' a/\Step σ {s with w:=s.w.at d} σ' a/\T g2 a)(v:c<s.w.heap.size):AD P g s T:=by
 refine AD.slip u λD gs d sl t q E o f x l k=>?_;obtain⟨a,ops,B,e,p,i,C⟩:=one d gs sl o λr send=>PC f r send;have h:0<gs.size:=(eZ.1 o).1;refine⟨_,g2,a,ops,B,p.mem,by simp[h],⟨λj y b m=>?_,λj b=>?_⟩,l3.Pz (x.mono i.size) e (cx v i.size),(l.at d).step i,l3.norel k e,C⟩
 .rw[ni (by omega)]at m;rw[Go.Conc.Deaf_other t (g':=0) (by omega) _ λop ir=>(e op ir).1];exact f.old j y b m
 .rw[Go.Conc.Deaf_other t (g':=0) (by simp at b;omega) _ λop ir=>(e op ir).1];exact f.above j (by simpa using b)
def PD{b:aU}{a:Act}{k:List Item}{rest:List Nat}(hi:ops[i]?=aa o){cc:Array CommCase}{d:CommShape}{j:Int}{ok:Bool}:
  (G (b.aT a (.inRegion ops (i::rest)::k)) cs).finishComm P cc d j v ok=G (b.aT (a.put o.dst (commResult cc d j v ok)) (.inRegion ops rest::k)) cs:=by have c:=ja (b:=b) (a:=a) (k:=k) ops i rest (commResult cc d j v ok);rw[hi]at c;simp only[mr]at c;simp only[Goroutine.finishComm,G,c]
def EK{fn:aJ}{pos:String}{c:Nat}{a b:MemAct}{f g:aJ}{p q:String}(e:l3 c a:=by rfl)(d:l3 c b:=by rfl):∀op∈MemOp.ofEvents 0 fn pos #[]++#[{g:=0,fn:=f,pos:=p,act:=a},{g:=0,fn:=g,pos:=q,act:=b}],op.g=0/\l3 c op.act:=by
 intro op ir;simp[MemOp.ofEvents]at ir;rcases ir with rfl|rfl
 .exact⟨rfl,e⟩
 .exact⟨rfl,d⟩
section
variable {z:ai}{cap:Nat}{q:List Int}{n:Int}
def mO.send(ho:o.op=.send x y)(hl:σ[l]?=aa (.cf (gR z cap q ae)))(I:bJ φ x=.e (.one (.v z)))(M:bJ φ y=.e (.one (.c (.int .i64 n))))(H:q.length<cap):
  mO P N o φ σ .any (σ.set l (.cf (gR z cap (q++[n]) ae))):=by
 intro s a f hh b k cs ops i rest hb hi hw;obtain⟨L,r,sn,D,g⟩:=gR.open hh hl;have ex:a.eval x=.chan (aa r):=(RY (cY f x) I).trans g.m;obtain⟨K,O⟩:=U9 (cY f y) M;have B:r<s.w.heap.size:=(eZ.1 g.heap).1;refine zk (c:=r) (σ':=σ.set l (.cf (gR z cap (q++[n]) ae))) (g2:=G (b.aT (a.put o.dst ah) (.inRegion ops rest::k)) cs) rfl hh (λd gs sl h0 hp=>?_) B;have t:bU s {s with w:=s.w.at d}:=bU.at hh.mem d;have p:=hh.rely t;have J:xO {s with w:=s.w.at d} l z cap q ae L r sn D:=⟨g.at',g.v,g.m,g.inr,g.heap,g.bs⟩;obtain⟨E,F⟩:=J.iD p hl (q':=q++[n]) ae (sn+1) D (λm hm=>(fz.1 hm).elim (g.inr m) λh=>by rw[iT.1 h];exact O)
 have C:aG P (0==0) (G (b.aT a (.inRegion ops (i::rest)::k)) cs) (s.w.at d)=.comm (G (b.aT a (.inRegion ops (i::rest)::k)) cs) #[scase r (.int .i64 n) (.tuple #[])] ab .send (s.w.at d) #[]:=by
  have u:(b.kind==CallKind.early)=ae:=by grind
  rw[pC hi hw (by simp[ho])];simp[stepG.apply,ak,ho,ex,K,G,Frame.aT,u,GStep.after,scase,seen]
 have j:=crowd_send_room (P:=P) (sl:=sl) h0 C g.heap (by simpa using H) (hp r ae);rw[PD hi,show(q.map (Value.int .i64)).toArray.push (.int .i64 n)=((q++[n]).map (Value.int .i64)).toArray by simp]at j;refine⟨{s with w:=(s.w.at d).setChan r cap ((q++[n]).map (Value.int .i64)).toArray ae (sn+1) D ae},_,j,EK,E,F,ah,rfl,E,t.stepW.trans (F.n3 p),ar⟩
variable {T:aw}{A:ChanDir}
def Ov(ho:o.op=.recv T x ab){b:aU}{a:Act}{k:List Item}{rest:List Nat}{r:Nat}(m:b.kind≠.early)(hi:ops[i]?=aa o)(l:aY o (yielded ops a.tmps)=ab)(j:P.underlying T=aa (.chan A E))(e:∀w,(zeroValue E).run P w=.ok (.int .i64 0) w)(f:a.eval x=.chan (aa r)):
  aG P (0==0) (G (b.aT a (.inRegion ops (i::rest)::k)) cs) w=.comm (G (b.aT a (.inRegion ops (i::rest)::k)) cs) #[rcase r (.int .i64 0)] ab (.recv ab) w #[]:=by
 have c:(b.kind==CallKind.early)=ae:=by grind
 have d:(underlying T).run P w=.ok (.chan A E) w:=by simp[underlying,j]
 have h:(ak a.eval o).run P w=.ok (.comm #[rcase r (.int .i64 0)] ab (.recv ab)) w:=by simp[ak,ho,f,d,e,rcase]
 have g:(ak a.eval o).events P w #[]=#[]:=by simp[ak,ho,f,d,e,rcase]
 rw[pC hi l (by simp[ho])];simp[stepG.apply,h,g,G,Frame.aT,c,GStep.after,seen]
def mO.recv(ho:o.op=.recv T x ab)(C:P.underlying T=aa (.chan A E))(F:∀w,(zeroValue E).run P w=.ok (.int .i64 0) w){cl:Bool}(hl:σ[l]?=aa (.cf (gR z cap (n::q) cl)))(D:bJ φ x=.e (.one (.v z))):
  mO P N o φ σ (.fw [.one (.c (.int .i64 n)),.one (.c (.bool ab))]) (σ.set l (.cf (gR z cap q cl))):=by
 intro s a f hh b k cs ops i rest hb hi hw;obtain⟨L,r,sn,u,g⟩:=gR.open hh hl;have ex:a.eval x=.chan (aa r):=(RY (cY f x) D).trans g.m;have t:r<s.w.heap.size:=(eZ.1 g.heap).1;refine zk (c:=r) (σ':=σ.set l (.cf (gR z cap q cl))) (g2:=G (b.aT (a.put o.dst (.tuple #[.int .i64 n,.bool ab])) (.inRegion ops rest::k)) cs) rfl hh (λd gs sl h0 hp=>?_) t;have p:bU s {s with w:=s.w.at d}:=bU.at hh.mem d;have j:=hh.rely p;have H:xO {s with w:=s.w.at d} l z cap (n::q) cl L r sn u:=⟨g.at',g.v,g.m,g.inr,g.heap,g.bs⟩;obtain⟨y,B⟩:=H.iD j hl (q':=q) cl sn (u+1) λm hm=>g.inr m (kE _ hm)
 have h:=crowd_recv_buf (P:=P) (w:=s.w.at d) (sl:=sl) h0 (Ov ho hb hi hw C F ex) g.heap (by simp) (hp r ab);have e1:((n::q).map (Value.int .i64)).toArray.extract 1 ((n::q).map (Value.int .i64)).toArray.size=(q.map (Value.int .i64)).toArray:=by simp[yR]
 have e2:((n::q).map (Value.int .i64)).toArray.getD 0 ah=.int .i64 n:=by simp
 rw[PD hi,e1,e2]at h;exact⟨{s with w:=(s.w.at d).setChan r cap (q.map (Value.int .i64)).toArray cl sn (u+1) ae},_,h,EK,y,B,_,rfl,y,p.stepW.trans (B.n3 j),⟨_,rfl,Rd.int (g.inr n iA),Rd.bool,ar⟩⟩
def mO.H0(ho:o.op=.recv T x ab)(u:P.underlying T=aa (.chan A E))(B:∀w,(zeroValue E).run P w=.ok (.int .i64 0) w)(hl:σ[l]?=aa (.cf (gR z cap [] ab)))(y:bJ φ x=.e (.one (.v z))):
  mO P N o φ σ (.fw [.one (.c (.int .i64 0)),.one (.c (.bool ae))]) σ:=by intro s a f hh b k cs ops i rest hb hi hw;obtain⟨L,r,sn,C,g⟩:=gR.open hh hl;have ex:a.eval x=.chan (aa r):=(RY (cY f x) y).trans g.m;have t:r<s.w.heap.size:=(eZ.1 g.heap).1;refine zk (c:=r) (σ':=σ) (g2:=G (b.aT (a.put o.dst (.tuple #[.int .i64 0,.bool ae])) (.inRegion ops rest::k)) cs) rfl hh (λd gs sl h0 hp=>?_) t;have p:bU s {s with w:=s.w.at d}:=bU.at hh.mem d;have j:=hh.rely p;have h:=crowd_recv_closed (P:=P) (w:=s.w.at d) (sl:=sl) h0 (Ov ho hb hi hw u B ex) g.heap (hp r ab);rw[PD hi]at h;refine⟨{s with w:=s.w.at d},_,h,λop ir=>?_,j,.refl _ _,_,rfl,j,p.stepW,⟨_,rfl,Rd.int (by simp[bw]),Rd.bool,ar⟩⟩;simp[MemOp.ofEvents]at ir;rw[ir];exact⟨rfl,rfl⟩
def mO.close(ho:o.op=.call {callee:=.builtin .close,args:=#[x],argTypes:=jJ})(hl:σ[l]?=aa (.cf (gR z cap q ae)))(j:bJ φ x=.e (.one (.v z))):
  mO P N o φ σ .any (σ.set l (.cf (gR z cap q ab))):=by
 intro s a f hh b k cs ops i rest hb hi hw;obtain⟨L,r,sn,E,g⟩:=gR.open hh hl;have ex:a.eval x=.chan (aa r):=(RY (cY f x) j).trans g.m;have I:r<s.w.heap.size:=(eZ.1 g.heap).1;refine AD.slip rfl λSh gs d sl t q' hm h0 hL hP hc EA=>?_;have D:bU s {s with w:=s.w.at d}:=bU.at hh.mem d;have y:=hh.rely D;have S:xO {s with w:=s.w.at d} l z cap q ae L r sn E:=⟨g.at',g.v,g.m,g.inr,g.heap,g.bs⟩;obtain⟨O,F⟩:=S.iD y hl (q':=q) ab sn E g.inr;have C:ak a.eval o=(do pure (.value (<-Builtin.close_ jJ o.type #[a.eval x]))):=by simp[ak,ho,resolve,invoke,builtin]
 have p:(s.w.at d).heap[r]?=aa (.chan cap (q.map (Value.int .i64)).toArray ae sn E ae):=g.heap;have u:(ak a.eval o).run P (s.w.at d)=.ok (.value (.tuple #[])) ((s.w.at d).setChan r cap (q.map (Value.int .i64)).toArray ab sn E ae):=by rw[C,ex];simp[run_close_open _ _ p,World.setChan]
 have H:(ak a.eval o).events P (s.w.at d) #[]=#[⟨.obj r,ae,ab⟩,⟨.obj r,ab,ab⟩]:=by rw[C,ex];simp[run_close_open _ _ p,events_close_open _ _ p]
 have J:=AO (rest:=rest) (k:=k) (cs:=cs) (main:=0==0) hi hw hb u;have R:=runT_crowd_go (P:=P) (sl:=sl) (i:=0) h0 J;have c:0<gs.size:=(eZ.1 h0).1;have K:¬Sh r:=λx=>hc.β _ x L (bH g.at') ((g.bs r).2 rfl);have h:∀e∈listed P b.fn a o (s.w.at d),e=⟨.obj r,ae,ab⟩∨e=⟨.obj r,ab,ab⟩:=λe B=>by have:=Go.Conc.mem_seen B;rw[H]at this;simpa using this
 refine⟨_,G (b.aT (a.put o.dst (.tuple #[])) (.inRegion ops rest::k)) cs,{s with w:=(s.w.at d).setChan r cap (q.map (Value.int .i64)).toArray ab sn E ae},_,R,O.mem,by simp[c],hL.own (λop ir=>by grind[Go.Conc.mem_ofEvents]) c,?_,(hc.at d).step F,EA.app λe B a j=>?_,.tuple #[],rfl,O,D.stepW.trans (F.n3 y),ar⟩
 .refine(hP.mono F.size).own λe B=>?_;have Q:=cx I F.size;rcases h e B with rfl|rfl
  .exact⟨λx j M=>by simp[aF,bj]at j;subst j;exact absurd M K,by simp,by simp,by simp[aF,MemAct.low,Loc.low];exact Q⟩
  .exact⟨λx j M=>by simp[aF,bj]at j,by simp,by simp,by simp[aF,MemAct.low];exact Q⟩
 .rcases h e B with rfl|rfl<;>cases j
end
section
variable {X:Cx P}{T:aw}{A:ChanDir}
def AK.Mg(h:o.op=.makeChan T x)(d:P.underlying T=aa (.chan A E)){i:TypeInfo}(f:P.info? E=aa i){n:Nat}(m:bJ φ x=.e (.one (.c (.int .i64 n))))(hb:i.bytes=8)(C:n<=4000000)(y:o.guard=af)(r:fD N o.dst=ab)(k:∀z,AK X N Qf (.ops all rest::K) .normal (kg o.dst (.e (.one (.v z))) φ) (σ++[.cf (gR z n [] ae)])):AK X N Qf (.ops all (o::rest)::K) .normal φ σ:=by
 refine AK.hand (ι:=ai) (λz=>.e (.one (.v z))) (λz=>σ++[.cf (gR z n [] ae)]) y r (λs a l hh=>?_) k;obtain⟨ex,_⟩:=U9 (cY l x) m;let w':aA:={s.w with heap:=s.w.heap.push (.chan n #[] ae 0 0 ae)}
 have g:w'.heap[s.w.heap.size]?=aa (.chan n #[] ae 0 0 ae):=by grind
 have p:w'.heap.size=s.w.heap.size+1:=by grind
 obtain⟨t,g2⟩:=hh.grow (M':=s.M) (w':=w') (by grind) (λb hb=>by grind) (λ_ _ _=>rfl) (λb hb o v hm=>by have:=hh.block hm;omega) rfl rfl rfl;obtain⟨u,j⟩:=t.gx g2 rfl hh (B:=.cf (gR (.chan (aa s.w.heap.size)) n [] ae)) (L:=⟨.chan (aa s.w.heap.size),[s.w.heap.size]⟩)
  ⟨λb=>if b=s.w.heap.size then aa (.chan n #[] ae 0 0 ae)else af,⟨rfl,_,0,0,rfl,by simp,λ_=>rfl⟩,λb o hb=>by
   grind,λb=>by by_cases e:b=s.w.heap.size<;>simp[e],λb hb o=>by
   simp at hb;subst hb;show s.M _ _=af;cases hm:s.M s.w.heap.size o with
   |none=>rfl
   |some v=>have:=hh.block hm;omega⟩ (λb hb=>by grind)
 refine⟨.chan (aa s.w.heap.size),.value (.chan (aa s.w.heap.size)),_,.chan (aa s.w.heap.size),?_,.inl rfl,Rd.val rfl,u,j,?_⟩
 .simp[ak,h,ex,Go.Conc.run_makeChan d f .i64 n (by omega) (by rw[hb];omega),w']
 .simp[ak,h,ex,Go.Conc.run_makeChan d f .i64 n (by omega) (by rw[hb];omega),Go.Conc.events_makeChan d f .i64 n (by omega) (by rw[hb];omega)];exact .nil
end
end
end
section
open Go.RowKit
open Go.Conc (G solo crowd AtRel Past EvL Leavers)
def St.top(w:aA):St:={β:=[],M:=λb o=>w.cell? ⟨b,o,af⟩,w:=w,own:=λb=>b<w.heap.size}
def aD.top(w:aA):aD [] (St.top w):=⟨λ_ _ _ h=>h,rfl,by simp,by simp[St.top],by simp[St.top],λb hb=>⟨hb,by simp[St.top]⟩⟩
def Qq{f:aJ}{a:aU}(h:tL P f a v s)(hi:P.inits.idxOf? f=af)(w:aA)(l:∀b o u,s.M b o=aa u->w.cell? ⟨b,o,af⟩=aa u):∃es,aG P ab (G a []) w=.ended (.done v) w es/\∀e∈es,∃b o u,e=⟨.cell ⟨b,o,af⟩,ae,ae⟩/\s.M b o=aa u:=by
 obtain⟨fn,j,c⟩:=h.fn;obtain⟨i,k⟩:=c w l;refine⟨seen P a.fn ((results fn a.tmps).events P w #[]),?_,λe g=>k e (Go.Conc.mem_seen g)⟩;have d:P.inits.idxOf? a.fn=af:=by rw[h.ZB];exact hi
 simp[G,aG,unwind,doReturn,h.mode,h.defers,h.kind,j,i,d,GStep.after]
def dL.W3{f:aJ}{args:List D}{σ':ι->List bd}(h:dL (Cx.beside P) f args [] res σ')(hi:P.inits.idxOf? f=af)(K:cg [] (St.top w) vs args){Post:ai->aA->Prop}(E:∀i v s',dk (σ' i) s' v (res i)->aD (σ' i) s'->Below w.heap.size w s'.w->∀d,Post v (s'.w.at d)):
  ∃M last o w' t',runNT P (M+1) (solo (G (Frame.enter P f vs.toArray .normal) []) w) #[]=(.ended o w',t')/\runN P M (solo (G (Frame.enter P f vs.toArray .normal) []) w)=.next last /\
   step P last=.ended o w'/\Go.Conc.Good P Post last o w' t':=by
 have key:=h.2 (St.top w) vs K (aD.top w) (λg s'=>∃i v fr,g=G fr []/\tL P f fr v s'/\dk (σ' i) s' v (res i)/\aD (σ' i) s'/\Below w.heap.size w s'.w) []
  (λi fr v s' h1 h2 h3 h4=>.stop ⟨i,v,fr,rfl,h1,h2,h3,⟨h4.os,h4.tape,h4.output,h4.size,λk J=>h4.keep k J⟩⟩)
 have z:AM.kh (λ_=>False)=λ_=>False:=by funext l;cases l<;>rfl
 obtain⟨N,r,p,g',s',j,t',q',h1,h2,h3,h4,Q,t,R,⟨i,v,fr,rfl,k1,x,I,H⟩⟩:=key.beside (λ_=>False) #[G (Frame.enter P f vs.toArray .normal) []] af #[] (λ_=>0) (aD.top w).mem rfl (Go.Conc.leavers_one P _)
  (by rw[z];exact Go.Conc.past_nil.mono (iN _)) ⟨λ_ h=>h.elim,λ_ h=>h.elim,λ_ h=>h.elim,λ_ h=>h.elim⟩ (λa=>by intro i hi;simp[Trace.act?]at hi)
 have c:=Go.Conc.beside_ends (P:=P) (Shun:=AM.kh r) (B:=s'.w.heap.size) (D:=λ_ _ _=>False) (Post:=Post) (λ_ _ _ h=>h.elim) (sl:=j) (n:=0) h3 h4 Q (Go.Conc.Goes.stop λw1 Pt=>by
  obtain⟨d,rfl⟩:=Pt;obtain⟨es,e1,e2⟩:=Qq k1 hi (s'.w.at d) (λb o u q=>h2 b o u q);refine⟨rfl,v,es,e1,λe L=>?_,E i v s' x I H d⟩;obtain⟨b,o,u,rfl,q⟩:=e2 e L;refine Go.Conc.evL_cell _ _ (λA=>?_) (fW.lt h2 q);have:=t.M b A o
  grind)
 obtain⟨m,last,o,w',F,C,S,O,y⟩:=c;refine⟨N+m,last,o,w',F,?_,?_,O,y⟩
 .rw[show N+m+1=N+(m+1) by omega];exact(runNT_add N (m+1) h1).trans C
 .have e:=runNT_fst P N (crowd #[G (Frame.enter P f vs.toArray .normal) []] w af) #[];have s:(runNT P N (crowd #[G (Frame.enter P f vs.toArray .normal) []] w af) #[]).1=.next (crowd p s'.w j):=by have:runNT P N (crowd #[G (Frame.enter P f vs.toArray .normal) []] w af) #[]=_:=h1;grind
  grind[Go.Conc.solo_eq_crowd,runN_add]
end
end Go.AM
