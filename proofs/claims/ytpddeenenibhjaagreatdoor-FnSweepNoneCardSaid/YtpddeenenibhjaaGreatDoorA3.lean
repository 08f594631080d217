/- Part 3. No condition. -/
import Derived.Test.YtpddeenenibhjaaGreatDoorA2
import Derived.Lib.SliceRun
import Derived.Lib.FrozenHead
import Derived.Lib.UnsafeStr
import Derived.Lib.MakeNoZero
import Derived.Laws.Externs
import Derived.Lib.Builder
import Derived.Conc.Beside
import Derived.Conc.CrowdRun
import Derived.Conc.WgGenN2
import Derived.Conc.WgGenN3
import Derived.Conc.CrowdComm
import Derived.Conc.SmallLaws
import Derived.Conc.EventLaws
import Derived.Conc.LeavingOf
import Derived.Below
set_option linter.all false
set_option maxHeartbeats 8000000
open Go.Conc (G)
open Go renaming Value → aj, TypeId → aw, Frame → aV, FuncId → aK, execOp → ak, undef → ah, Operand → aC, World → aA, Program → aO, Oper → aB, Goroutine → aq, stepG → aH
open Option renaming some → aa, none → af
open Bool renaming true → ab, false → ae
open Go.Region renaming wanted → aZ
open Go.World renaming cell? → aW
open Go.Sem renaming events_bind → aP
open Go.Result renaming evThen_ok → aU
open Go.MemAct renaming ofEvent → aG, touch? → bl
open Nat renaming beq → av, ble → bz
open Go.Conc renaming stepG_seq → az, stepG_region_end → ay
namespace Go.AM
variable {n k l b i j:Nat}{E:aw}{H:aj->(Nat->Option Obj)->Prop}{L:Array Bool}{M:Mem}{N:Nat}{P:aO}{S:aq->St->Prop}{c:Code}{g:aq}{o:aB}{s:St}{t:aw}{v:aj}{w:aA}{x y:aC}{α:Type}{η:aC->D}{ι:Type}{σ:List bm}{φ:Fr}{all:List aB}{jP:Array aw}{cap:List C}{cu:List D}{cs:List aV}{ds:List (Nat×Bool)}{es:Nat->List C}{fo:aC}{gs:Array aq}{obs:List Prop}{off:Nat}{op:BinOp}{ops:Array aB}{ps:List Prop}{rest:List aB}{s':St}{ty:aw}{val:Nat->Nat->aj}{vs:List aj}{w':aA}{xs:Array aC}{σ' σs:List bm}{res:ι->D}{σ1:ι->List bm}
variable {CT:List (Nat×dz)}{K:List It}{Qf:Post}{T:List (Nat×TI)}{ie:TI}
section
variable {X:Cx P}
def AK.Uf(t:Nat)(E k:Nat)(es':Nat->List C){k':Nat}{d:Nat->List C}(g:look φ t=.e (.one (.c (.sl ab k' 0 d))))(kk:AK X N Qf (.code c::K) .normal ((t,.e (.one (.bp σ.length (.sl 0 k 0 0))))::φ) (σ++[.buf E k 0 es'])):AK X N Qf (.code c::K) .normal φ σ:=by
 refine AK.ghost (λs a b hh=>?_) kk;have f:=b.slot t;rw[g]at f;obtain⟨h,g2⟩:=hh.gz (B:=.buf E k 0 es') (L:=⟨.slice af 0 0,[]⟩) (.refl _ _) rfl hh (.inl ⟨rfl,rfl⟩) (by simp);refine⟨{s with β:=s.β++[⟨.slice af 0 0,[]⟩]},rfl,⟨b.size,b.defers.imp λ_ h1=>h1.mono g2.ext,λu=>?_⟩,h,g2⟩;simp only[look];cases hb:av t u with
 |false=>exact(b.slot u).mono g2.ext hh.len
 |true =>
  have e:=b7 hb;subst e;exact uV (E:=E) (es:=es') (fI f) (by simp) (by simp[<-hh.len])
def AK.wC(l j:Nat)(E k:Nat)(es':Nat->List C){E0:aw}{cs:List A}{k':Nat}{t:Nat->List C}(hl:eD l σ=aa (.cells E0 cs))(hj:eD j cs=aa (.c (.sl ab k' 0 t)))(kk:AK X N Qf (.code c::K) .normal φ ((σ++[bm.buf E k 0 es']).set l (.cells E0 (cs.set j (.bp σ.length (.sl 0 k 0 0)))))):AK X N Qf (.code c::K) .normal φ σ:=by
 refine AK.ghost (λs a q hh=>?_) kk;have H:=c7 hl;have T:=c7 hj;have G:l<σ.length:=(b8.1 H).1;have m:l<s.β.length:=by rw[hh.len];grind
 have r:=bg m;generalize s.β[l]=L at r;obtain⟨b,vs,D,f,g,R⟩:=hh.box l _ L H r;obtain⟨v,J,S⟩:=g.get T;let d:Loc:=⟨.slice af 0 0,[]⟩
 obtain⟨I,g2⟩:=hh.gz (B:=.buf E k 0 es') (L:=d) (.refl _ _) rfl hh (.inl ⟨rfl,rfl⟩) (by grind);have F:(σ++[bm.buf E k 0 es'])[l]?=aa (.cells E0 cs):=by grind
 have y:(s.β++[d])[l]?=aa L:=by grind
 have n:(s.β++[d]).set l L=s.β++[d]:=by apply gQ;grind
 have x:ic (.cells E0 cs) L (.cells E0 (cs.set j (.bp σ.length (.sl 0 k 0 0)))) L:=rfl;have o:eK ((σ++[bm.buf E k 0 es']).set l (.cells E0 (cs.set j (.bp σ.length (.sl 0 k 0 0))))) ⟨(s.β++[d]).set l L,s.M,s.w,s.own⟩ (.cells E0 (cs.set j (.bp σ.length (.sl 0 k 0 0)))) L:=by
  rw[n];refine⟨b,vs,D,f,?_,R⟩;have ex:Ext (σ++[bm.buf E k 0 es']) {s with β:=s.β++[d]} ((σ++[bm.buf E k 0 es']).set l (.cells E0 (cs.set j (.bp σ.length (.sl 0 k 0 0))))) {s with β:=s.β++[d]}:=by
   refine⟨λ_ _ _ h=>h,λi B L O z=>?_⟩;by_cases e:l=i
   .grind
   .exact⟨B,L,by grind,z,.refl _ _⟩
  have p:eb (σ++[bm.buf E k 0 es']) {s with β:=s.β++[d]} vs cs:=g.mono g2.ext hh.len;exact eb.set (p.mono ex I.len) J (uV (E:=E) (es:=es') S (by grind) (by simp[<-hh.len,d]))
 obtain⟨Q,q2⟩:=I.ig (M':=s.M) (w':=s.w) (L':=L) F y x (ba _) (λ_ _ _=>rfl) (λ_ _ _ _=>rfl) (λ_ _ _ h=>h) hh.mem (λb hb=>⟨.inl hb,hh.lt L (bL r) b hb⟩) rfl rfl rfl o;have st:=g2.trans q2;exact⟨⟨(s.β++[d]).set l L,s.M,s.w,s.own⟩,rfl,⟨q.size,q.defers.imp λ_ h1=>h1.mono st.ext,λu=>(q.slot u).mono st.ext hh.len⟩,Q,st⟩
end
def sX:Nat->(Nat->List C)->Nat->List C
 |0,es=>es
 |o+1,es=>mN (o+1) es
def u4(o:Nat)(es:Nat->List C)(i:Nat):sX o es i=es (o+i):=by cases o<;>simp[sX,mN]
def Ax(l k n:Nat)(es:Nat->List C)(a:A):Option (A×List Prop):=match GO l a with
 |true=>aa (a,[])
 |false=>match a with
  |.bp l' (.sl g k' o m)=>match av l' l,av k' k with
   |true,ab=>aa (.c (.sl ae k m (sX o es)),[g=n,o+m<=n])
   |_,_=>af
  |_=>af
def Ay(l k n:Nat)(es:Nat->List C):List A->Option (List A×List Prop)
 |[]=>aa ([],[])
 |a::r=>match Ax l k n es a with
  |some (a',p)=>match Ay l k n es r with
   |some (r',q)=>aa (a'::r',j0 p q)
   |none=>af
  |none=>af
def wD(l k n:Nat)(es:Nat->List C):E1->Option (E1×List Prop)
 |.one a=>match Ax l k n es a with|some (a,p)=>aa (.one a,p)|none=>af
 |.agg cs=>match Ay l k n es cs with|some (cs,p)=>aa (.agg cs,p)|none=>af
def vc(l k n:Nat)(es:Nat->List C):List E1->Option (List E1×List Prop)
 |[]=>aa ([],[])
 |a::r=>match wD l k n es a with
  |some (a',p)=>match vc l k n es r with
   |some (r',q)=>aa (a'::r',j0 p q)
   |none=>af
  |none=>af
def wE(l k n:Nat)(es:Nat->List C):D->Option (D×List Prop)
 |.e x=>match wD l k n es x with|some (x,p)=>aa (.e x,p)|none=>af
 |.fz xs=>match vc l k n es xs with|some (xs,p)=>aa (.fz xs,p)|none=>af
 |.any=>aa (.any,[])
section
variable {σ1:List bm}{s2:St}{E:Nat}
structure lP(σ1:List bm)(E k n:Nat)(es:Nat->List C)(s s2:St):Prop where
 keep:∀v a,gb (σ1++[.buf E k n es]) s v a->GO σ1.length a=ab->gb σ1 s2 v a
 IP:∀v k' o m,gb (σ1++[.buf E k n es]) s v (.bp σ1.length (.sl n k' o m))->k'=k->o+m<=n->Rd s2.M v (.sl ae k m (sX o es))
def lP.a(h:lP σ1 E k n es s s2){v:aj}{a a':A}{ps:List Prop}(b:Ax σ1.length k n es a=aa (a',ps))(d:au ps)(r:gb (σ1++[.buf E k n es]) s v a):gb σ1 s2 v a':=by
 unfold Ax at b;split at b
 .rename_i c;cases b;exact h.keep v a r c
 .split at b
  .rename_i l' g k' o m _;split at b
   .rename_i e1 e2;cases b;have e1:=b7 e1;have e2:=b7 e2;subst e1 e2;obtain⟨rfl,h2⟩:g=n/\o+m<=n:=d;exact h.IP v _ _ _ r rfl h2
   grind
  grind
def lP.cl(h:lP σ1 E k n es s s2):∀{vs:List aj}{cs lY:List A}{ps:List Prop},Ay σ1.length k n es cs=aa (lY,ps)->au ps->eb (σ1++[.buf E k n es]) s vs cs->eb σ1 s2 vs lY
 |[],[],_,_,b,_,_=>by cases b;trivial
 |[],_::_,_,_,_,_,r=>r.elim
 |_::_,[],_,_,_,_,r=>r.elim
 |v::vs,c::cs,lY,ps,b,d,r=>by
  simp only[Ay]at b;split at b
  .rename_i a' p h1;split at b
   .rename_i r' q h2;cases b;rw[au.cat]at d;exact⟨h.a h1 d.1 r.1,h.cl h2 d.2 r.2⟩
   grind
  grind
def lP.e(h:lP σ1 E k n es s s2){x d:E1}(b:wD σ1.length k n es x=aa (d,ps))(c:au ps)(r:nD (σ1++[.buf E k n es]) s v x):nD σ1 s2 v d:=by
 cases x with
 |one a =>
  simp only[wD]at b;split at b
  .rename_i a' p h1;cases b;exact h.a h1 c r
  grind
 |agg cs =>
  simp only[wD]at b;split at b
  .rename_i a' p h1;cases b;obtain⟨vs,f,g⟩:=r;exact⟨vs,f,h.cl h1 c g⟩
  grind
def lP.es'(h:lP σ1 E k n es s s2):∀{vs:List aj}{cs lY:List E1}{ps:List Prop},vc σ1.length k n es cs=aa (lY,ps)->au ps->gF (σ1++[.buf E k n es]) s vs cs->gF σ1 s2 vs lY
 |[],[],_,_,a,_,_=>by cases a;trivial
 |[],_::_,_,_,_,_,r=>r.elim
 |_::_,[],_,_,_,_,r=>r.elim
 |v::vs,c::cs,lY,ps,a,b,r=>by
  simp only[vc]at a;split at a
  .rename_i a' p h1;split at a
   .rename_i r' q h2;cases a;rw[au.cat]at b;exact⟨h.e h1 b.1 r.1,h.es' h2 b.2 r.2⟩
   grind
  grind
def lP.d(h:lP σ1 E k n es s s2){x c:D}(a:wE σ1.length k n es x=aa (c,ps))(b:au ps)(r:dm (σ1++[.buf E k n es]) s v x):dm σ1 s2 v c:=by
 cases x with
 |e x =>
  simp only[wE]at a;split at a
  .rename_i a' p h1;cases a;exact h.e h1 b r
  grind
 |fz xs =>
  simp only[wE]at a;split at a
  .rename_i a' p h1;cases a;obtain⟨vs,f,g⟩:=r;exact⟨vs,f,h.es' h1 b g⟩
  grind
 |any=>cases a;trivial
def aD.IP(hh:aD (σ1++[.buf E k n es]) s)(C:x3 σ1.length σ1=ab):
  ∃s2:St,aD σ1 s2/\eO s s2/\lP σ1 E k n es s s2/\∀{σ0:List bm} {s0:St},cR σ0 s0 (σ1++[.buf E k n es]) s->σ0.length<=σ1.length->cR σ0 s0 σ1 s2:=by
 have B:(σ1++[bm.buf E k n es])[σ1.length]?=aa (.buf E k n es):=by simp
 have F:s.β.length=σ1.length+1:=by rw[hh.len];simp
 have t:s.β[σ1.length]?=aa s.β[σ1.length]:=bg (by omega);generalize s.β[σ1.length]=L at t;have A:=hh.box _ _ L B t;obtain⟨M',J,H,N,m4⟩:∃M':Mem,(∀b o v,s.M b o=aa v->M' b o=aa v)/\(∀b,b∉L.bs->∀o,M' b o=s.M b o)/\(∀b o v,M' b o=aa v->s.w.cell? ⟨b,o,af⟩=aa v) /\
   (∀v k' o m,gb (σ1++[.buf E k n es]) s v (.bp σ1.length (.sl n k' o m))->k'=k->o+m<=n->Rd M' v (.sl ae k m (sX o es))):=by
  rcases A with⟨rfl,rfl⟩|⟨b,U,vs,zs,rfl,Y,Q,R,W,K,hM⟩
  .refine⟨s.M,λ_ _ _ h=>h,λ_ _ _=>rfl,hh.mem,λv k' o m r e l=>?_⟩;obtain⟨lv,⟨a,a0,cap,U,g,h1,h2,S,q,T⟩,_,D⟩:=r;grind[Rd.il]
  .let M':Mem:=λd o=>if d=b then vs[o]? else s.M d o;have G:∀d o v,s.M d o=aa v->M' d o=aa v:=λd o v g=>by grind
   refine⟨M',G,λd V o=>?_,λd o v g=>?_,λv k' o m r e l=>?_⟩
   .grind
   .by_cases e:d=b
    .subst e;simp only[M',bY]at g;simp only[aW,Y];grind
    .simp only[M',e,bS]at g;exact hh.mem d o v g
   .subst e;obtain⟨lv,⟨a,a0,cap,c1,g,h1,h2,S,q,T⟩,_,D⟩:=r;obtain⟨L',f,y⟩:=(D _ _ _ _ B).2 rfl;rw[t]at f;cases f;rw[q]at y;cases y;rw[g];have p:∀i,i<m->∀j c,(sX o es i)[j]?=aa c->∃u,vs[(o+i)*k'+j]?=aa u/\Rd s.M u c:=λi hi j c hj=>by rw[u4]at hj;exact K.rd (o+i) (by omega) j c hj
    refine .sl b (o*k') (λi j=>(vs[(o+i)*k'+j]?).getD ah) h1 (by omega) (by simp) (λi hi=>by rw[u4];exact K.width _ (by omega)) (λhm=>?_) (λi hi j c hj=>?_) (λi hi j c hj=>?_)
    .grind
    .grind
    .obtain⟨u,Z,O⟩:=p i hi j c hj;rw[Z];exact O.mono G
 have z:(σ1++[bm.buf E k n es]).set σ1.length .dead=σ1++[.dead]:=by simp
 obtain⟨I,q2⟩:=hh.ig (M':=M') (w':=s.w) (B':=.dead) (L':=⟨L.v,[]⟩) B t ar (ba _) (λ_ _ _=>rfl) (λb _ hb o=>H b hb o) J N (by simp) rfl rfl rfl ar;rw[z]at I q2;have q3:=I.drop (rest:=[.dead]) C;refine⟨_,q3,⟨rfl,J,λb hb o=>H b (hb L (bL t)) o,N,λb hb=>?_⟩,⟨λv a r x=>?_,λv k' o m r e l=>m4 v k' o m r e l⟩,λ{σ0 s0} st hle=>(st.trans (q2.ow hh)).drop (rest:=[.dead]) hle⟩
 .rcases hb with hb|⟨L',f,hb⟩
  .exact .inl hb
  .have:=jy f;grind
 .exact(r.mono q2.ext hh.len).drop (rest:=[.dead]) x
end
def dO.Cb{X:Cx P}{f:aK}{args:List D}{res':ι->D}{σ1:ι->List bm}{E:Nat}{n:ι->Nat}{es:ι->Nat->List C}(h:dO X f args σ res (λi=>σ1 i++[.buf E k (n i) (es i)])){ps:ι->List Prop}(e:∀i,wE (σ1 i).length k (n i) (es i) (res i)=aa (res' i,ps i))(c:∀i,au (ps i))(b:∀i,x3 (σ1 i).length (σ1 i)=ab)(a:∀i,σ.length<=(σ1 i).length):dO X f args σ res' σ1:=by refine⟨h.1,λs vs hr hh S cs hS=>h.2 s vs hr hh S cs λi fr v s' hl lX jq st=>?_⟩;obtain⟨s2,c1,c2,c3,c4⟩:=jq.IP (b i);exact .ghost c2 (hS i fr v s2 (hl.mono c2.mem) (c3.d (e i) (c i) lX) c1 (c4 st (a i)))
def Ev.Cb{P:aO}{X:Cx P}{f:aK}{args:List D}{σ:List bm}{res res':D}{σ1:List bm}{E k n:Nat}{es:Nat->List C}(h:Ev X f args σ res (σ1++[.buf E k n es])){ps:List Prop}(d:wE σ1.length k n es res=aa (res',ps))(c:au ps)(b:x3 σ1.length σ1=ab)(a:σ.length<=σ1.length):Ev X f args σ res' σ1 :=
 (dO.Cb (ι:=Unit) h.IJ (λ_=>d) (λ_=>c) (λ_=>b) (λ_=>a)).GP
section
def zW(h:o.op=.call {callee:=.builtin .clear,args:=#[x],argTypes:=#[t]})(a:aC->aj):
  ak a o=(do pure (.value (<-Builtin.clear_ #[t] o.type #[a x]))):=by simp[ak,h,resolve,invoke,builtin]
def IN{z:aj}{e:List C}{m:Nat}(l:z.cells.toList.map qX=e.map aa)(o:e.length=k):Flat M k m (λ_=>e) (Builtin.zeroCells z.cells m).toList:=by
 have b:z.cells.size=k:=by have:=dy List.length l;grind
 have f:eb [] ⟨[],M,default,λ_=>False⟩ z.cells.toList (e.map A.c):=kr l;refine⟨by simp[Builtin.zeroCells,b],λ_ _=>o,λi hi j c r=>?_⟩;have p:j<k:=by grind
 obtain⟨v,v1,q⟩:=f.get (j:=j) (a:=A.c c) (by grind);refine⟨v,?_,q⟩;have g:i*k+j<m*k:=by
  have:i*k+k<=m*k:=by rw[<-kM];exact ez k hi
  omega
 have d:(i*k+j) % k=j:=by grind[Nat.add_mul_mod_self_right,Nat.mod_eq_of_lt]
 have n:j<z.cells.size:=by omega
 have s:z.cells[j]=v:=by grind
 have h:z.cells[j]! = v:=by grind
 simp[Builtin.zeroCells,b,g,d,h]
def bE.DL(U:dg P T)(h:o.op=.call {callee:=.builtin .clear,args:=#[x],argTypes:=#[t]}){i:TI}(hi:bH T t=aa i)(hd:i.desc=.slice E)(hE:bH T E=aa ie){q m:Nat}{G:aw}(hx:η x=.e (.one (.bp l (.sl n ie.size q m))))(hl:σ[l]?=aa (.buf G ie.size n es))(C:q+m<=n):
  bE P o η σ .any (σ.set l (.buf G ie.size n (nU q (q+m) ie.zero es))):=by
 intro s ρ hh hr;have h1:=hr x;rw[hx]at h1;change gb σ s (ρ x) (.bp l _)at h1;obtain⟨lv,⟨a,a0,cap,c0,hv,To,SD,VY,H,R⟩,_,K⟩:=h1;obtain⟨L,I,p⟩:=(K _ _ _ _ hl).2 rfl;rw[H]at p;have c:=(U t i hi).SH;rw[hd]at c;rw[zW h,hv];by_cases hm:m=0
 .subst hm;have hz:nU q (q+0) ie.zero es=es:=by funext j;simp only[nU];grind
  have hs:σ.set l (.buf G ie.size n es)=σ:=by apply gQ;grind
  rw[hz,hs];refine⟨.value (.tuple #[]),s,?_,ar,hh,.refl _ _,?_⟩
  .cases a<;>simp[Builtin.clear_,run_underlying c]
  .intro Q g;cases a<;>simp[Builtin.clear_,run_underlying c,aP]at g
 .obtain⟨b,rfl,rfl⟩:=R (by omega);rcases hh.box l _ L hl I with⟨_,rfl⟩|⟨b',c1,vs,D,rfl,d,N,S,O,Y,Z⟩
  .cases p
  .cases p;obtain⟨inf,z,X,z2,z3,W,z5,z6,z7⟩:=(U E ie hE).info;have k:=IN (M:=s.M) (m:=m) z5 z7;have V:(Builtin.zeroCells z.cells m).toList.length=m*ie.size:=k.len;have Pc:=Y.len;have hb:q*ie.size+m*ie.size<=n*ie.size:=by rw[<-gT];exact ez _ C
   have q2:=Y.S6 k C;have he:(λi=>if q<=i/\i<q+m then(λ_=>ie.zero) (i-q)else es i)=nU q (q+m) ie.zero es:=rfl;rw[he]at q2;obtain⟨t1,t2⟩:=hh.ef hl I N S O d q2 (by grind) Z;have f:∀v∈(Builtin.zeroCells z.cells m).toList,v.oneCell'=ab:=k.cell;have r:=run_storeCells_at P b (q*ie.size) G (Builtin.zeroCells z.cells m).toList 0 (vs++D).toArray s.w d (by grind) f;have y:((vs++D).toArray.toList.take (q*ie.size+0)++(Builtin.zeroCells z.cells m).toList++(vs++D).toArray.toList.drop (q*ie.size+0+(Builtin.zeroCells z.cells m).toList.length))=vs.take (q*ie.size)++(Builtin.zeroCells z.cells m).toList++vs.drop (q*ie.size+(Builtin.zeroCells z.cells m).toList.length)++D:=by grind
   rw[y]at r;have A:∀u,(zeroValue E).run P u=.ok z u:=λu=>by simp[zeroValue,typeInfo,X,W]
   have J:∀u es,(zeroValue E).events P u es=es:=λu es=>by simp[zeroValue,typeInfo,X,W,aP]
   obtain⟨F,rfl⟩:∃F,m=F+1:=⟨m-1,by omega⟩
   refine⟨.value (.tuple #[]),_,?_,ar,t1,t2,?_⟩
   .simp[Builtin.clear_,run_underlying c,A,r]
   .intro Q g;have B:Q∈(storeCells ⟨b,q*ie.size,af⟩ (Builtin.zeroCells z.cells (F+1)).toList).events P s.w #[]:=by simp only[Builtin.clear_,aP,hX,ju]at g;simpa[run_underlying c,A,J,r]using g
    rcases ek (Builtin.zeroCells z.cells (F+1)).toList 0 (vs++D).toArray s.w #[] d (by grind) f Q B with MM|⟨j,_,_,rfl⟩
    .grind
    .exact k6 (bL I) (by simp) (Z _)
end
section
variable {X:Cx P}
def AK.Q3{φ':Fr}(h:∀s a,cr N σ s φ a->aD σ s->∃s':St,s'.w=s.w/\cr N σ' s' φ' a/\aD σ' s'/\Step σ s σ' s')(k:AK X N Qf (.ops all rest::K) .normal φ' σ'):AK X N Qf (.ops all rest::K) .normal φ σ:=by intro s a i hh b kk cs S idx hb iI hQ;obtain⟨s',j,f,c,st⟩:=h s a i hh;have d:=st.ow hh;refine .ghost (.of hh c j d) ?_;exact k s' a f c b kk cs S idx hb iI λe σ2 s2 a2 q g h2 oE=>hQ e σ2 s2 a2 q g h2 (d.trans oE)
def AK.JA(t:Nat)(E k:Nat)(es':Nat->List C){k':Nat}{d:Nat->List C}(g:look φ t=.e (.one (.c (.sl ab k' 0 d))))(kk:AK X N Qf (.ops all rest::K) .normal ((t,.e (.one (.bp σ.length (.sl 0 k 0 0))))::φ) (σ++[.buf E k 0 es'])):AK X N Qf (.ops all rest::K) .normal φ σ:=by
 refine AK.Q3 (λs a b hh=>?_) kk;have f:=b.slot t;rw[g]at f;obtain⟨h,g2⟩:=hh.gz (B:=.buf E k 0 es') (L:=⟨.slice af 0 0,[]⟩) (.refl _ _) rfl hh (.inl ⟨rfl,rfl⟩) (by simp);refine⟨{s with β:=s.β++[⟨.slice af 0 0,[]⟩]},rfl,⟨b.size,b.defers.imp λ_ h1=>h1.mono g2.ext,λu=>?_⟩,h,g2⟩;simp only[look];cases hb:av t u with
 |false=>exact(b.slot u).mono g2.ext hh.len
 |true =>
  have e:=b7 hb;subst e;exact uV (E:=E) (es:=es') (fI f) (by simp) (by simp[<-hh.len])
def AK.JB(B:dg P T){g d:Nat}(h:o.op=.binOp .eql t x (.const (.slice af g d)) ty){i:TI}(hi:bH T t=aa i)(C:i.desc=.slice E){tt:Bool}(v:bO φ x=.e (.one (.c (.sl tt k n es))))(F:o.guard=af)(A:fE N o.dst=ab)(kk:∀b:Bool,(b=ab->n=0)->AK X N Qf (.ops all rest::K) .normal (kp o.dst (.e (.one (.c (.bool b)))) φ) σ):AK X N Qf (.ops all (o::rest)::K) .normal φ σ:=by
 refine AK.hand (ι:={b:Bool // b=ab->n=0}) (λb=>.e (.one (.c (.bool b.1)))) (λ_=>σ) F A (λs a u hh=>?_) λb=>kk b.1 b.2;have m:=c8 u x;rw[v]at m;obtain⟨ad,cap,vs,m,_,_,_,_,hm⟩:=(fI m).flat;have j:=(B t i hi).SH;rw[C]at j;have p:=fI (by have:=c8 u x;rw[v]at this;exact this);have q:ad.isNone=ab->n=0:=by
  intro H;rw[m]at p;cases p with
  |sl b off f z hb ht hk ha hm hr =>
   grind
 refine⟨⟨ad.isNone,q⟩,.value (.bool ad.isNone),s,.bool ad.isNone,?_,.inl rfl,Rd.bool,hh,.refl _ _,?_⟩
 .have hr:(binOp .eql t (.slice ad n cap) (.slice af g d)).run P s.w=.ok (.bool ad.isNone) s.w:=Go.Lib.run_eql_slice_nil s.w t E ad n cap g d j;have l:∀y,eqGuard .eql t x y (.slice ad n cap) (.slice af g d)=pure ():=λy=>by simp[eqGuard]
  have e1:a.eval (.const (.slice af g d))=.slice af g d:=rfl;simp only[ak,h,m,e1,l];simp[hr]
 .have D:∀es,(Op.equal t (.slice ad n cap) (.slice af g d)).events P s.w es=es:=λes=>by show(Op.equalIn (9999+1) t _ _).events P s.w es=es;unfold Op.equalIn;cases ad<;>simp[underlying,j]
  have hr:(Op.equal t (.slice ad n cap) (.slice af g d)).run P s.w=.ok ad.isNone s.w:=by show(Op.equalIn (9999+1) t _ _).run P s.w=_;grind[Go.Lib.run_equalIn_slice_nil]
  have l:∀y,eqGuard .eql t x y (.slice ad n cap) (.slice af g d)=pure ():=λy=>by simp[eqGuard]
  have e1:a.eval (.const (.slice af g d))=.slice af g d:=rfl;intro G r;exfalso;simp only[ak,h,m,e1,l,binOp]at r;simp[hr,D,aP]at r
end
def qE(xs:List UInt8):List aj:=xs.map λx=>.int .u8 x.toNat
theorem uY{xs:List UInt8}:(qE xs).length=xs.length:=by simp[qE]
def MK{xs b:List UInt8}:qE (xs++b)=qE xs++qE b:=by simp[qE]
def oV(bf:Option (Nat×Nat))(n:Nat):aj:=match bf with|none=>.slice af 0 0|some (g,cap)=>.slice (aa ⟨g,0,af⟩) n cap
def BB(T E:aw)(a:Bool)(v1:aj)(bf:Option (Nat×Nat))(xs:List UInt8)(f:Nat):aj->(Nat->Option Obj)->Prop:=λv d =>
 ∃b,v=.pointer (aa ⟨b,0,af⟩)/\cZ v1=ab/\d b=aa (.cells #[if a then v else .pointer af,v1] T (0,0)) /\
 match bf with
 |none=>xs=[]/\∀c,(d c).isSome=ab↔c=b
 |some (g,cap)=>g≠b/\xs.length<=cap/\0<cap/\cap<=9223372036854775807/\f<=xs.length/\(∃e,(qE xs++e).length=cap/\d g=aa (.cells (qE xs++e).toArray E (0,f)))/\∀c,(d c).isSome=ab↔c=b∨c=g
section
variable {X:Cx P}{k:List (Nat×TI)}{T:aw}{a:Bool}{v1:aj}{bf:Option (Nat×Nat)}{xs:List UInt8}{f:Nat}
structure vq(P:aO)(σ:List bm)(s:St)(l:Nat)(T E:aw)(a:Bool)(v1:aj)(bf:Option (Nat×Nat))(xs:List UInt8)(f:Nat)(L:Loc)(b:Nat)(ch:Nat->Option Obj):Prop where
 β:s.β[l]?=aa L
 v:L.v=.pointer (aa ⟨b,0,af⟩)
 bb:BB T E a v1 bf xs f L.v ch
 heap:∀(b:Nat) (o:Obj),ch b=aa o->s.w.heap[b]?=aa o
 bs:∀b,b∈L.bs↔(ch b).isSome=ab
 M:∀b∈L.bs,∀o,s.M b o=af
 ch:ch b=aa (.cells #[if a then L.v else .pointer af,v1] T (0,0))
 cell:cZ v1=ab
def BB.row(hh:aD σ s)(hl:σ[l]?=aa (.cq (BB T E a v1 bf xs f))):∃L b ch,vq P σ s l T E a v1 bf xs f L b ch:=by
 have c:l<s.β.length:=by rw[hh.len];grind
 have d:=bg c;generalize s.β[l]=L at d;obtain⟨ch,g,h1,h2,i⟩:=hh.box l _ L hl d;have e:=g;obtain⟨b,h,j,hb,_⟩:=e;exact⟨L,b,ch,d,h,g,h1,h2,i,hb,j⟩
def vq.mem{L:Loc}{ch:Nat->Option Obj}(r:vq P σ s l T E a v1 bf xs f L b ch):b∈L.bs:=(r.bs b).2 (by rw[r.ch];rfl)
def vq.ptr{L:Loc}{ch:Nat->Option Obj}(r:vq P σ s l T E a v1 bf xs f L b ch)(h:dm σ s v (.e (.one (.ptr l off)))):v=.pointer (aa ⟨b,off,af⟩):=by obtain⟨_,c,d,h1,h2,rfl⟩:=(h:gb σ s v (.ptr l off));rw[r.β]at h1;cases h1;rw[r.v]at h2;grind
def IA(z:dg P k){i:TI}(h:o.op=.load t x)(hi:bH k t=aa i)(C:i.agg=ae)(G:σ[l]?=aa (.cq (BB T E a v1 bf xs f))){d:D}(F:η x=.e (.one (.ptr l off)))(H:∀s L b ch,aD σ s->vq P σ s l T E a v1 bf xs f L b ch->∃v,(#[if a then L.v else .pointer af,v1]:Array aj)[off]?=aa v/\dm σ s v d):bE P o η σ d σ:=by
 refine .nP λs K A J=>?_;obtain⟨L,b,ch,r⟩:=BB.row (P:=P) A G;have u:=r.ptr (by have:=J x;rwa [F]at this);obtain⟨v,I,q⟩:=H s L b ch A r;have g:s.w.cell? ⟨b,off,af⟩=aa v:=by simp only[aW,r.heap _ _ r.ch];grind
 have c:(loadVar t ⟨b,off,af⟩).run P s.w=.ok v s.w:=by simp[loadVar,(z t i hi).jY,C,run_load,g]
 refine⟨v,by simp[ak,h,u,Instr.loadAt,Instr.sureAddr,c],q,λy p=>?_⟩;have m:y∈(loadVar t ⟨b,off,af⟩).events P s.w #[]:=by
  have e:ak K o=(do pure (.value (<-loadVar t ⟨b,off,af⟩))):=by simp[ak,h,u,Instr.loadAt,Instr.sureAddr]
  rw[e]at p;simpa[c]using p
 obtain⟨j,B,rfl⟩:=ja (z t i hi) (n:=1) (λj B=>by grind) (by grind) y m
 exact oX (bL r.β) r.mem
def bE.ff(c:dg P k){i:TI}(h:o.op=.load t x)(hi:bH k t=aa i)(d:i.agg=ae)(hl:σ[l]?=aa (.cq (BB T E a v1 bf xs f)))(g:η x=.e (.one (.ptr l 1))):bE P o η σ (.e (.one (.v v1))) σ :=
 IA c h hi d hl g λs L b ch hh r=>⟨v1,by simp,Rd.val r.cell⟩
def ML(b:σ[l]?=aa (.cq H)):∀B,σ[l]?=aa B->B.gr=ae:=by intro B h;rw[b]at h;cases h;rfl
def bE.IB(c:dg P k){i:TI}(h:o.op=.load t x)(hi:bH k t=aa i)(d:i.agg=ae)(hl:σ[l]?=aa (.cq (BB T E ab v1 bf xs f)))(g:η x=.e (.one (.ptr l 0))):bE P o η σ (.e (.one (.ptr l 0))) σ :=
 IA c h hi d hl g λs L b ch hh r=>⟨L.v,by simp,ML hl,L,b,r.β,r.v,r.v⟩
def bE.Qk(d:dg P k){i:TI}(h:o.op=.load t x)(hi:bH k t=aa i)(g:i.agg=ae)(hl:σ[l]?=aa (.cq (BB T E ae v1 bf xs f)))(j:η x=.e (.one (.ptr l 0))):bE P o η σ (.e (.one (.c .oY))) σ :=
 IA d h hi g hl j λs L b ch hh r=>⟨.pointer af,by simp,Rd.oY⟩
def setRow_size(w:aA)(b:Nat)(row:Array aj):(w.setRow b row).heap.size=w.heap.size:=by simp[World.setRow]
def IC(S:dg P k){i:TI}(h:o.op=.store t x y)(hi:bH k t=aa i)(F:i.size=1)(U:σ[l]?=aa (.cq (BB T E a v1 bf xs f))){c:Bool}{d:aj}(hx:η x=.e (.one (.ptr l off)))(ho:off<2)(hc:cZ d=ab)(hd:∀s L b ch v,aD σ s->vq P σ s l T E a v1 bf xs f L b ch->dm σ s v (η y)->cZ v=ab/\(#[if a then L.v else .pointer af,v1]:Array aj).setIfInBounds off v=#[if c then L.v else .pointer af,d]):bE P o η σ .any (σ.set l (.cq (BB T E c d bf xs f))):=by
 intro s p N hr;obtain⟨L,b,ch,r⟩:=BB.row (P:=P) N U;have D:=r.ptr (by have:=hr x;rwa [hx]at this);obtain⟨C,G⟩:=hd s L b ch (p y) N r (hr y);have q:(p y).cells=#[p y]:=by cases Q:p y<;>simp[Q,cZ,Value.cells]at C⊢
 have A:∀v∈[p y],v.oneCell'=ab:=by intro v D;simp at D;subst D;cases Q:p y<;>simp[Q,cZ,Value.oneCell']at C⊢
 have n:=r.heap _ _ r.ch;have J:=run_storeCells_at P b off T [p y] 0 _ s.w n (by grind) A;have B:((#[if a then L.v else .pointer af,v1]:Array aj).toList.take (off+0)++[p y]++(#[if a then L.v else .pointer af,v1]:Array aj).toList.drop (off+0+[p y].length)).toArray=#[if c then L.v else .pointer af,d]:=by
  rw[<-G]
  match off,ho with
  |0,_=>grind
  |1,_=>grind
 rw[B]at J;have V:(s.w.setRow b #[if c then L.v else .pointer af,d]).heap[b]?=aa (.cells #[if c then L.v else .pointer af,d] T (0,0)):=setRow_heap s.w b _ _ T _ n;have z:∀g,g≠b->(s.w.setRow b #[if c then L.v else .pointer af,d]).heap[g]?=s.w.heap[g]?:=λg m=>setRow_other s.w b g _ m;obtain⟨R,W⟩:=N.iJ (l:=l) (H':=BB T E c d bf xs f) (L':=L) (w':=s.w.setRow b #[if c then L.v else .pointer af,d]) U r.β rfl (by rw[setRow_size];grind)
  (λg m hn=>z g (by rintro rfl;exact hn r.mem)) (λg m=>.inl m)
  ⟨λg=>if g=b then aa (.cells #[if c then L.v else .pointer af,d] T (0,0))else ch g,by
   obtain⟨K,Y,q2,q3,q4⟩:=r.bb;have:K=b:=by rw[r.v]at Y;grind
   subst this;have O:∀g,(if g=K then aa (Obj.cells #[if c then L.v else .pointer af,d] T (0,0))else ch g).isSome=ab↔(ch g).isSome=ab:=by grind
   refine⟨K,Y,hc,by simp,?_⟩;grind,λg o' m=>by
   by_cases e:g=b
   .grind
   .simp only[e,bS]at m;rw[z g e];exact r.heap _ _ m,λg=>by
   rw[r.bs g];by_cases e:g=b
   .subst e;simp[r.ch]
   grind⟩ rfl rfl rfl
 have H:s.β.set l L=s.β:=by
  apply gQ;intro j;by_cases e:l=j
  .subst e;rw[fO (b8.1 r.β).1,r.β]
  grind
 rw[H]at R W;refine⟨.skip,{s with w:=s.w.setRow b #[if c then L.v else .pointer af,d]},?_,rfl,R,W,?_⟩
 .simp[ak,h,D,Instr.storeAt,Instr.sureAddr,storeVar,(S t i hi).run_sizeOf,F,q,J]
 .intro Z u;have e:ak p o=(do storeVar t ⟨b,off,af⟩ (p y);pure .skip):=by simp[ak,h,D,Instr.storeAt,Instr.sureAddr]
  rw[e]at u;have I:Z∈(storeCells ⟨b,off,af⟩ [p y]).events P s.w #[]:=by
   simp only[storeVar,aP,(S t i hi).run_sizeOf,q,F,aU,events_sizeOf,cU,fe,bS,bT,cm,Sem.events_pure,List.size_toArray,ey]at u;generalize(storeCells ⟨b,off,af⟩ [p y]).run P s.w=r at u;cases r with
   |ok v w'=>simpa using u
   |halt x w'=>simpa using u
  rcases ek [p y] 0 _ s.w #[] n (by grind) A Z I with MM|⟨j,_,_,rfl⟩
  .grind
  .exact k6 (bL r.β) r.mem (r.M _ r.mem _)
def bE.zF(j:dg P k){i:TI}(h:o.op=.store t x y)(hi:bH k t=aa i)(d:i.size=1)(hl:σ[l]?=aa (.cq (BB T E a v1 bf xs f))){c:aj}(m:η x=.e (.one (.ptr l 1)))(p:η y=.e (.one (.v c)))(n:cZ c=ab):bE P o η σ .any (σ.set l (.cq (BB T E a c bf xs f))) :=
 IC j h hi d hl m (by omega) n λs L b ch v hh r g=>by rw[p]at g;have:=Rd.fu g;grind
def bE.MN(g:dg P k){i:TI}(h:o.op=.store t x y)(hi:bH k t=aa i)(c:i.size=1)(hl:σ[l]?=aa (.cq (BB T E a v1 bf xs f)))(m:η x=.e (.one (.ptr l 0)))(n:η y=.e (.one (.ptr l 0)))(j:cZ v1=ab):bE P o η σ .any (σ.set l (.cq (BB T E ab v1 bf xs f))) :=
 IC g h hi c hl m (by omega) j λs L b ch v hh r d=>by rw[n]at d;have:=r.ptr d;subst this;refine⟨rfl,?_⟩;rw[<-r.v];rfl
def bE.Ql{T:aw}(h:o.op=.alloc T)(i:∀w,(zeroValue T).run P w=.ok (.agg #[.pointer af,.slice af 0 0]) w)(g:∀w es,(zeroValue T).events P w es=es):bE P o η σ (.e (.one (.ptr σ.length 0))) (σ++[.cq (BB T E ae (.slice af 0 0) af [] 0)]):=by
 intro s r hh hr;let w':=s.w.alloc (.cells #[.pointer af,.slice af 0 0] T);obtain⟨p,g2⟩:=hh.grow (M':=s.M) (w':=w') (by simp[w']) (λb hb=>cO s.w _ hb) (λ_ _ _=>rfl) (λb hb o v hm=>by have:=hh.block hm;omega) rfl rfl rfl;have n:w'.heap.size=s.w.heap.size+1:=by simp[w']
 have l:w'.heap[s.w.heap.size]?=aa (.cells #[.pointer af,.slice af 0 0] T (0,0)):=dG s.w _;obtain⟨m,q⟩:=p.gz g2 rfl hh (B:=.cq (BB T E ae (.slice af 0 0) af [] 0)) (L:=⟨.pointer (aa ⟨s.w.heap.size,0,af⟩),[s.w.heap.size]⟩)
  ⟨λd=>if d=s.w.heap.size then aa (.cells #[.pointer af,.slice af 0 0] T (0,0))else af,⟨s.w.heap.size,rfl,rfl,by simp,rfl,λd=>by by_cases e:d=s.w.heap.size<;>simp[e]⟩,λd j c=>by
   grind,λd=>by by_cases e:d=s.w.heap.size<;>simp[e],λd c j=>by
   simp at c;subst c;show s.M _ _=af;cases hm:s.M s.w.heap.size j with
   |none=>rfl
   |some v=>have:=hh.block hm;omega⟩ (λd c=>by grind)
 refine⟨.value (.pointer (aa ⟨s.w.heap.size,0,af⟩)),_,?_,⟨by simp,⟨.pointer (aa ⟨s.w.heap.size,0,af⟩),[s.w.heap.size]⟩,s.w.heap.size,?_,rfl,rfl⟩,m,q,?_⟩
 .simp[ak,h,Instr.alloc,i,Go.newVar,newRow,Value.cells,w']
 .simp[<-hh.len]
 .simp[ak,h,Instr.alloc,i,g,Go.newVar,newRow];exact .nil
end
section
variable {X:Cx P}{q:List (Nat×TI)}{T:aw}{d:Bool}{v1:aj}{bf:Option (Nat×Nat)}{xs:List UInt8}{k:Nat}
def oZ{P:aO}{b o:Nat}{t:aw}{k:Nat×Nat}:∀(vs:List aj)(i:Nat)(a:Array aj)(w:aA)(es:Array Event),w.heap[b]?=aa (.cells a t k)->k.2<=o+i->o+i+vs.length<=a.size->(∀v∈vs,v.oneCell'=ab) ->
  ∀e∈(storeCells ⟨b,o,af⟩ vs i).events P w es,e∈es∨∃j,i<=j/\j<i+vs.length/\e=GM b (o+j)
 |[],_,_,_,_,_,_,_,_=>λe h=>.inl (by simpa[storeCells]using h)
 |v::rest,i,a,w,es,m,p,z,n=>λe h=>by
  have hi:o+i<a.size:=by grind
  have c:w.cell? ⟨b,o+i,af⟩=aa a[o+i]:=by simp[aW,m,hi]
  have f:w.frozen? ⟨b,o+i,af⟩=ae:=by obtain⟨lo,r⟩:=k;simp only[World.frozen?,m,rB,cd];grind
  have g:(store (⟨b,o+i,af⟩:Addr) v).run P w=.ok () (w.setRow b (a.setIfInBounds (o+i) v)):=by grind[run_store,setCell_eq_setRow]
  have l:(store (⟨b,o+i,af⟩:Addr) v).events P w es=es.push (GM b (o+i)):=by rw[events_store P w es _ v _ (n v (by simp)),c];simp only[f,gO,bS];rfl
  simp only[storeCells,aP,dr,g,l,aU]at h;rcases oZ rest (i+1) (a.setIfInBounds (o+i) v) _ _ (setRow_heap _ _ _ _ _ _ m) (by omega) (by grind) (λu A=>n u (by grind)) e h with s|⟨j,x,y,rfl⟩
  .grind
  grind
def vq.at{L:Loc}{b g cap:Nat}{ch:Nat->Option Obj}(r:vq P σ s l T E d v1 (aa (g,cap)) xs k L b ch):
  g≠b/\xs.length<=cap/\0<cap/\cap<=9223372036854775807/\k<=xs.length/\(∃a,(qE xs++a).length=cap/\ch g=aa (.cells (qE xs++a).toArray E (0,k)))/\(∀c,(ch c).isSome=ab↔c=b∨c=g)/\g∈L.bs:=by
 obtain⟨i,e,_,_,a1,a2,a3,a4,a5,a6,f⟩:=r.bb;have:i=b:=by rw[r.v]at e;grind
 subst this;obtain⟨a,a6,h⟩:=a6;exact⟨a1,a2,a3,a4,a5,⟨a,a6,h⟩,f,(r.bs g).2 (by grind)⟩
def ID{L:Loc}(h:s.β[l]?=aa L):s.β.set l L=s.β:=by apply gQ;grind
def vq.iJ{L:Loc}{b g cap:Nat}{ch:Nat->Option Obj}(hh:aD σ s)(hl:σ[l]?=aa (.cq (BB T E d v1 (aa (g,cap)) xs k)))(r:vq P σ s l T E d v1 (aa (g,cap)) xs k L b ch){xs':List UInt8}{fz':Nat}{zs':List aj}{w':aA}(f:(qE xs'++zs').length=cap)(p:xs'.length<=cap)(j:fz'<=xs'.length)(m:w'.heap.size=s.w.heap.size)(h:∀a,a≠g->w'.heap[a]?=s.w.heap[a]?)(B:w'.heap[g]?=aa (.cells (qE xs'++zs').toArray E (0,fz')))(ho:w'.os=s.w.os)(i:w'.tape=s.w.tape)(t:w'.output=s.w.output):
  aD (σ.set l (.cq (BB T E d v1 (aa (g,cap)) xs' fz'))) {s with w:=w'}/\Step σ s (σ.set l (.cq (BB T E d v1 (aa (g,cap)) xs' fz'))) {s with w:=w'}:=by
 obtain⟨a1,a2,a3,a4,a5,⟨A,a6,z⟩,y,n⟩:=r.at;obtain⟨o,u⟩:=hh.iJ (l:=l) (H':=BB T E d v1 (aa (g,cap)) xs' fz') (L':=L) (w':=w') hl r.β rfl (by omega)
  (λa c C=>h a (by grind)) (λa c=>.inl c)
  ⟨λa=>if a=g then aa (.cells (qE xs'++zs').toArray E (0,fz'))else ch a,⟨b,r.v,r.cell,(show(if b=g then _ else ch b)=_ from(a9 λe=>a1 e.symm).trans r.ch),a1,p,a3,a4,j,⟨zs',f,by simp⟩,λa=>by
   grind⟩,λa x c=>by
   by_cases e:a=g
   .grind
   .simp only[e,bS]at c;rw[h a e];exact r.heap _ _ c,λa=>by
   rw[r.bs a]
   grind⟩ ho i t
 rw[ID r.β]at o u;grind
def bE.MO{J:aw}(ho:o.op=.call {callee:=.builtin .append,args:=#[x,y],argTypes:=#[t,J]}){ie:TypeInfo}(Y:P.underlying t=aa (.slice E))(F:P.underlying J=aa .string)(A:P.info? E=aa ie)(I:ie.size=1){g cap:Nat}(hl:σ[l]?=aa (.cq (BB T E d v1 (aa (g,cap)) xs k)))(hx:η x=.e (.one (.v (oV (aa (g,cap)) n))))(hn:xs.length=n){str:List UInt8}(hy:η y=.e (.one (.c (.str str))))(V:n+str.length<=cap):
  bE P o η σ (.e (.one (.v (oV (aa (g,cap)) (n+str.length))))) (σ.set l (.cq (BB T E d v1 (aa (g,cap)) (xs++str) k))):=by
 intro s ρ hh hr;subst hn;obtain⟨L,b,ch,r⟩:=BB.row (P:=P) hh hl;obtain⟨a1,a2,a3,a4,a5,⟨a,a6,a7⟩,a8,u⟩:=r.at;have m:=hr x;rw[hx]at m;have m:=Rd.fu m;have H:=hr y;rw[hy]at H;have H:=fI H;generalize C:ρ y=vy at H;cases H with
 |@str sb _ U W =>
 have B:sb.size=str.length:=by rw[<-U,iY];rfl
 have K:=r.heap _ _ a7;have S:(qE xs++a).toArray.size=cap:=by grind
 have p:=Lib.run_append_room_stringF (P:=P) s.w t J o.type E ie Y F A I g xs.length cap _ _ K a5 sb (by omega) (by grind);have D:((qE xs++a).toArray.toList.take xs.length++Lib.strCells sb++(qE xs++a).toArray.toList.drop (xs.length+sb.size))=qE (xs++str)++a.drop str.length:=by
  have e1:(qE xs++a).take xs.length=qE xs:=by grind[uY]
  have e2:(qE xs++a).drop (xs.length+sb.size)=a.drop str.length:=by rw[List.drop_append,uY,List.drop_eq_nil_of_le (by grind),B];simp
  have e3:Lib.strCells sb=qE str:=by simp[Lib.strCells,qE,U]
  rw[List.toList_toArray,e1,e2,e3,MK]
 rw[D,B]at p;have hlz:a.length=cap-xs.length:=by grind[uY]
 have f:(qE (xs++str)++a.drop str.length).length=cap:=by grind[uY]
 have z:(s.w.setRow g (qE (xs++str)++a.drop str.length).toArray).heap[g]?=aa (.cells (qE (xs++str)++a.drop str.length).toArray E (0,k)):=setRow_heap s.w g _ _ E _ K;obtain⟨t1,O⟩:=r.iJ (fz':=k) (w':=s.w.setRow g (qE (xs++str)++a.drop str.length).toArray) hh hl f (by grind) (by grind) (setRow_size _ _ _) (λb' N=>setRow_other s.w g b' _ N) z rfl rfl rfl;refine⟨.value (.slice (aa ⟨g,0,af⟩) (xs.length+str.length) cap),_,?_,Rd.val rfl,t1,O,?_⟩
 .rw[de ho,m,C];simp only[bT,cV];have G:(Builtin.append_ #[t,J] o.type #[oV (aa (g,cap)) xs.length,.string sb]).run P s.w=_:=p;rw[G];rfl
 .rw[de ho,m,C];refine er λe Z=>?_;have hf:=Lib.run_firstCells_string (P:=P) s.w 1 sb;have R:=run_storeCells_atF P g xs.length E (0,k) (Lib.strCells sb) 0 _ s.w K (by grind) (by grind) (Lib.strCells_oneCell sb);have i:xs.length+sb.size<=cap:=by omega
  have Q:(Builtin.firstCells 1 sb.size (.string sb)).events P s.w #[]=#[]:=rfl;simp[oV,Builtin.append_,run_underlying Y,run_underlying F,sizeOf,typeInfo,A,I,Builtin.lenOf,i,hf,Q,dr,R]at Z;rcases oZ (Lib.strCells sb) 0 _ s.w _ K (by grind) (by grind) (Lib.strCells_oneCell sb) e Z with h|⟨j,h1,h2,rfl⟩
  .grind
  .exact k6 (bL r.β) u (r.M _ u _)
def bE.IE{n:aw}(ho:o.op=.call {callee:=.builtin .append,args:=#[x,y],argTypes:=#[t,n]}){ie:TypeInfo}(m:P.underlying t=aa (.slice E))(b:P.underlying n=aa .string)(f:P.info? E=aa ie)(r:η x=.e (.one (.v (oV af 0))))(z:η y=.e (.one (.c (.str [])))):bE P o η σ (.e (.one (.v (oV af 0)))) σ:=by
 refine .quiet λs u hh hr=>?_;have g:=hr x;rw[r]at g;have g:=Rd.fu g;have h:=hr y;rw[z]at h;have h:=fI h;generalize i:u y=vy at h;cases h with
 |@str sb _ A p =>
 have a:sb.size=0:=by
  have:sb.data.toList.length=0:=by grind
  rw[iY]at this;exact this
 have j:=Lib.run_firstCells_string (P:=P) s.w ie.size sb;rw[a]at j;have l:(Builtin.firstCells ie.size 0 (.string sb)).events P s.w #[]=#[]:=rfl;refine⟨.slice af 0 0,?_,Rd.val rfl,?_⟩
 .rw[de ho,g,i];simp[oV,Builtin.append_,run_underlying m,run_underlying b,sizeOf,typeInfo,f,Builtin.lenOf,a,j]
 .rw[de ho,g,i];simp[oV,Builtin.append_,run_underlying m,run_underlying b,sizeOf,typeInfo,f,Builtin.lenOf,a,j,l]
def Ta{f:aK}{fn:Func}{ps:Array aw}(ht:P.underlying t=aa (.slice E))(W:P.funcs[f]?=aa fn)(B:(fn.name== "runtime.NumGoroutine")=ae)(Y:fn.body.isNone=ab)(N:Extern.findNext fn=af)(J:Extern.find fn=aa (Extern.BytealgMakeNoZero.makeNoZero ps #[t]))(ho:o.op=.call {callee:=.value fo,args:=#[x],argTypes:=jP})(U:η fo=.e (.one (.c (.fn (.func f) [] []))))(hx:η x=.e (.one (.c (.int .i64 n))))(h0:0<n)(ZU:n<=140737488355328)(Z:σ[l]?=aa (.cq (BB T E d v1 af xs k))):
  ∀s A,aD σ s->(∀y,dm σ s (A y) (η y))->∃(j:{p:Nat×Nat // n<=p.2}) (s':St) (v:aj),(ak A o).run P s.w=.ok (.value v) s'.w/\dm (σ.set l (.cq (BB T E d v1 (aa j.1) [] 0))) s' v (.e (.one (.v (oV (aa j.1) n)))) /\
   aD (σ.set l (.cq (BB T E d v1 (aa j.1) [] 0))) s'/\Step σ s (σ.set l (.cq (BB T E d v1 (aa j.1) [] 0))) s'/\eB s ((ak A o).events P s.w #[]):=by
 intro s A O hr;obtain⟨L,b,ch,r⟩:=BB.row (P:=P) O Z;have D:A fo=.func (.func f) #[] #[]:=by
  have g:=hr fo;rw[U]at g;have g:=fI g;generalize A fo=v at g;cases g with
  |fn fs cs a b f1 f2 c1 c2 d1 d2 =>
   grind
 have F:A x=.int .i64 n:=by have g:=hr x;rw[hx]at g;have g:=fI g;generalize A x=v at g;cases g;rfl
 obtain⟨cs,g,R,K⟩:=Lib.run_makeNoZero (P:=P) s.w ps t E ht n (by omega);have K:=K (by simp only[maxLen];omega);have C:(callFunc f #[.int .i64 n]).run P s.w=.ok (.value (.slice (aa ⟨s.w.heap.size,0,af⟩) n cs.size)) (s.w.drew.drew.alloc (.cells cs E)):=by rw[run_callFunc_extern W B Y N J,g];rfl
 let w':aA:=s.w.drew.drew.alloc (.cells cs E);have MP:w'.heap[s.w.heap.size]?=aa (.cells cs E (0,0)):=dG s.w.drew.drew _;have MQ:w'.heap.size=s.w.heap.size+1:=by show(s.w.drew.drew.heap.push _).size=_;simp
 obtain⟨z,q1,q2,q3,q4⟩:=r.bb;have M:z=b:=by rw[r.v]at q1;grind
 subst M;have H:z<s.w.heap.size:=O.lt L (bL r.β) z r.mem;have G:s.w.heap.size≠z:=by omega
 obtain⟨t1,t2⟩:=O.iJ (l:=l) (H':=BB T E d v1 (aa (s.w.heap.size,cs.size)) [] 0) (L':=⟨L.v,[z,s.w.heap.size]⟩) (w':=w') Z r.β rfl (by omega)
  (λu i N=>cO s.w.drew.drew _ i) (λu i=>by
   simp at i;rcases i with rfl|rfl
   .exact .inl r.mem
   grind)
  ⟨λu=>if u=z then aa (.cells #[if d then L.v else .pointer af,v1] T (0,0))else if u=s.w.heap.size then aa (.cells cs E (0,0))else af,⟨z,r.v,r.cell,by simp,G,by simp,by omega,by simp only[maxLen]at K;omega,by simp,⟨cs.toList,by simp[qE],by simp[G,qE]⟩,λu=>by
   grind⟩,λu o' i=>by
   by_cases e:u=z
   .subst e;simp only[bY]at i;have:w'.heap[u]?=s.w.heap[u]?:=cO s.w.drew.drew _ H;rw[this,<-i];exact r.heap _ _ r.ch
   grind,λu=>by grind⟩ rfl rfl rfl
 refine⟨⟨(s.w.heap.size,cs.size),R⟩,_,_,?_,Rd.val rfl,t1,t2,?_⟩
 .simp[ak,ho,resolve,Deferred.ofValue,invoke,D,F,C,w',oV]
 .intro ev V;simp only[ak,ho,resolve,Deferred.ofValue,invoke,D,F]at V;have I:ev∈(callFunc f #[.int .i64 n]).events P s.w #[]:=by grind
  have S:fn.name≠ "runtime.NumGoroutine":=by grind
  have Q:fn.body=af:=by simpa using Y
  have key:∀es:Array Event,∀e∈(Extern.BytealgMakeNoZero.makeNoZero ps #[t] #[.int .i64 n]).events P s.w es,e∈es∨∃m,e=⟨.mark m,ae,ab⟩/\Go.Conc.Neutral m:=by
   intro es e J;change e∈Sem.events P (underlying _ >>= _) _ _ at J;have g:¬(n:Int)<0:=by omega
   have R:¬(281474976710656:Int)<(n:Int):=by omega
   have Pd:e∈(askRoom (grownCap s.w n 0 E)).events P s.w.drew es:=by simpa[run_underlying ht,g,R,Question.forced,newRow,grownCap]using J
   grind[Go.Conc.events_askRoom]
  have:ev∈(Extern.BytealgMakeNoZero.makeNoZero ps #[t] #[.int .i64 n]).events P s.w ((#[]:Array Event).push ⟨.mark (.extern f),ae,ab⟩):=by have e:callFunc f #[.int .i64 n]=callFunc f #[.int .i64 n]:=rfl;simpa[callFunc,W,S,Q,N,J,g]using I
  rcases key _ _ this with h|⟨m,rfl,hm⟩
  .simp at h;subst h;exact .inr ⟨f,rfl⟩
  .exact .inl hm
def Tb{B D:aw}(ho:o.op=.call {callee:=.builtin .unsafeString,args:=#[x,y],argTypes:=#[B,D]})(hp:P.underlying B=aa (.pointer E))(C:P.cellsOf E=1){g cap:Nat}(R:σ[l]?=aa (.cq (BB T E d v1 (aa (g,cap)) xs k)))(hx:η x=.e (.one (.v (.pointer (aa ⟨g,0,af⟩)))))(hy:η y=.e (.one (.c (.int .i64 xs.length)))):
  bE P o η σ (.e (.one (.c (.str xs)))) (σ.set l (.cq (BB T E d v1 (aa (g,cap)) xs xs.length))):=by
 intro s J Z hr;obtain⟨L,b,ch,r⟩:=BB.row (P:=P) Z R;obtain⟨a1,a2,a3,a4,a5,⟨N,a6,a7⟩,a8,Q⟩:=r.at;have u:=hr x;rw[hx]at u;have u:=Rd.fu u;have p:J y=.int .i64 xs.length:=by have H:=hr y;rw[hy]at H;have H:=fI H;generalize J y=v at H;cases H;rfl
 have hg:=r.heap _ _ a7;have t:ak J o=(do pure (.value (<-Builtin.unsafeString_ #[B,D] o.type #[J x,J y]))):=by simp[ak,ho,resolve,invoke,builtin]
 have hlen:(qE xs++N).toArray.size=cap:=by grind
 by_cases h0:xs=[]
 .subst h0;have i:=Lib.run_unsafeString_none (P:=P) s.w B D o.type (aa ⟨g,0,af⟩);obtain⟨O,W⟩:=r.iJ (xs':=[]) (fz':=0) (zs':=N) (w':=s.w) Z R a6 a2 (by simp) rfl (λ_ _=>rfl) (by grind) rfl rfl rfl;refine⟨.value (.string .empty),_,?_,Rd.str rfl (by simp),O,W,?_⟩
  .rw[t,u,p];simp only[bT,cV];have:(Builtin.unsafeString_ #[B,D] o.type #[.pointer (aa ⟨g,0,af⟩),.int .i64 ([]:List UInt8).length]).run P s.w=_:=i;rw[this];rfl
  .rw[t,u,p];refine er ?_;change eB s (Sem.events P (asInt (.int .i64 0) >>= _) _ _);simp[asInt,asIntOf,IntKind.max];exact .nil
 .have n:∀j x,xs[j]?=aa x->s.w.cell? ((⟨g,0,af⟩:Addr).add j)=aa (.int .u8 x.toNat):=by
   intro j x M;rw[dr];simp only[aW,hg,bA];have sS:j<xs.length:=(b8.1 M).1;have:(qE xs)[j]?=aa (.int .u8 x.toNat):=by simp[qE,M]
   grind
  have z:s.w.shape? g=aa (E,cap):=by simp only[World.shape?,hg];grind
  have i:=Lib.run_unsafeString_row (P:=P) s.w B D o.type E hp C g cap z xs h0 a2 (by omega) n;have f:xs.length≠0:=by grind
  have ZV:(s.w.freeze ⟨g,0,af⟩ xs.length).heap[g]?=aa (.cells (qE xs++N).toArray E (0,xs.length)):=by simp only[World.freeze,f,bS,zw,bY,hg,mI];grind
  obtain⟨O,W⟩:=r.iJ (xs':=xs) (fz':=xs.length) (zs':=N) (w':=s.w.freeze ⟨g,0,af⟩ xs.length) Z R a6 a2 (ba _) (by simp[World.freeze,f]) (λb' ov=>by
   simp only[World.freeze,f,bS,zw]
   grind) ZV (by simp[World.freeze,f]) (by simp[World.freeze,f]) (by simp[World.freeze,f])
  refine⟨.value (.string ⟨xs.toArray⟩),_,?_,Rd.str (by simp) (by omega),O,W,?_⟩
  .rw[t,u,p];simp only[bT,cV,i];rfl
  .rw[t,u,p];refine er λe A=>?_;have F:¬(xs.length:Int)<0:=by omega
   have ZW:¬(9223372036854775807:Int)<(xs.length:Int):=by omega
   have m:=Lib.liesAt_bytes (P:=P) C (cap / P.cellsOf E) xs.length (by grind);have I:IntKind.i64.max=9223372036854775807:=rfl;have U:=Lib.run_loadBytes (P:=P) s.w xs ⟨g,0,af⟩ .empty n;have Iy:∀(K:List UInt8) (a:Nat) (acc:ByteArray) (es:Array Event),(∀j x,K[j]?=aa x->s.w.cell? ⟨g,a+j,af⟩=aa (.int .u8 x.toNat))->∀e∈(loadBytes ⟨g,a,af⟩ acc K.length).events P s.w es,e∈es∨∃j,e=zD g j:=by
    intro K;induction K with
    |nil=>intro a acc es _ e A;exact .inl (by simpa[loadBytes]using A)
    |cons y K ih =>
     intro a acc es C e A;have G:=C 0 y rfl;simp only[ia]at G;have S:(load ⟨g,a,af⟩).run P s.w=.ok (.int .u8 y.toNat) s.w:=by grind[run_load]
     simp only[fQ,loadBytes,aP,S,aU,zG G,dr]at A;rcases ih (a+1) _ _ (λj x M=>by have:=C (j+1) x (by grind);grind) e A with h|h
     .grind
     grind
   have V:(variablesAt ⟨g,0,af⟩ E xs.length).run P s.w=.ok ab s.w:=by simp[variablesAt,z,m]
   have ZX:∀es,(variablesAt ⟨g,0,af⟩ E xs.length).events P s.w es=es:=λes=>by simp[variablesAt,z,m]
   have Y:e∈(loadBytes ⟨g,0,af⟩ .empty xs.length).events P s.w #[]:=by change e∈Sem.events P (asInt (.int .i64 (xs.length:Int)) >>= _) _ _ at A;simpa[asInt,asIntOf,I,F,ZW,f,elemOf,run_underlying hp,V,ZX,U]using A
   rcases Iy xs 0 .empty #[] (λj x M=>by grind[dr]) e Y with h|⟨j,rfl⟩
   .grind
   .exact oX (bL r.β) Q
end
section
variable {X:Cx P}{p:List (Nat×TI)}{T:aw}{g:Bool}{v1:aj}{bf:Option (Nat×Nat)}{xs:List UInt8}{i:Nat}
def bE.exact{r:aj}{d:D}(c:η x=.e (.one (.v v)))(h:∀(a:aC->aj) w,a x=v->(ak a o).run P w=.ok (.value r) w/\(ak a o).events P w #[]=#[])(f:∀σ s,dm σ s r d):bE P o η σ d σ:=by refine .quiet λs a hh hr=>?_;have b:=hr x;rw[c]at b;have b:=Rd.fu b;obtain⟨h1,h2⟩:=h a s.w b;grind
def bE.ux(h:o.op=.call {callee:=.builtin .len,args:=#[x],argTypes:=jP})(b:jP[0]?=aa t)(j:P.underlying t=aa (.slice E)){a:Option Addr}{c:Nat}(f:η x=.e (.one (.v (.slice a n c))))(k:n<=9223372036854775807):bE P o η σ (.e (.one (.c (.int .i64 n)))) σ :=
  .exact f (λl w d=>by constructor<;>simp[ak,h,resolve,invoke,builtin,Builtin.len_,d,run_underlying j,goInt,b]) (λ_ _=>Rd.int (by simp only[bx];omega))
def bE.MR(h:o.op=.call {callee:=.builtin .cap,args:=#[x],argTypes:=jP})(b:jP[0]?=aa t)(j:P.underlying t=aa (.slice E)){a:Option Addr}{c:Nat}(f:η x=.e (.one (.v (.slice a n c))))(k:c<=9223372036854775807):bE P o η σ (.e (.one (.c (.int .i64 c)))) σ :=
  .exact f (λl w d=>by constructor<;>simp[ak,h,resolve,invoke,builtin,Builtin.cap_,d,run_underlying j,goInt,b]) (λ_ _=>Rd.int (by simp only[bx];omega))
def bE.Tc(h:o.op=.call {callee:=.builtin .unsafeSliceData,args:=#[x],argTypes:=jP}){c:Nat}(b:η x=.e (.one (.v (.slice af n c)))):bE P o η σ (.e (.one (.v (.pointer af)))) σ :=
  .exact b (λd w a=>by
    have e:Builtin.unsafeSliceData_ jP o.type #[.slice af n c]=pure (.pointer af):=rfl
    constructor<;>simp[ak,h,resolve,invoke,builtin,a,e]) (λ_ _=>Rd.val rfl)
def bE.Td(h:o.op=.call {callee:=.builtin .unsafeSliceData,args:=#[x],argTypes:=jP}){a:Addr}{c:Nat}(f:η x=.e (.one (.v (.slice (aa a) n c))))(b:c≠0):bE P o η σ (.e (.one (.v (.pointer (aa a))))) σ :=
  .exact f (λj w d=>by
    obtain⟨m,rfl⟩:=Nat.exists_eq_succ_of_ne_zero b;have e:Builtin.unsafeSliceData_ jP o.type #[.slice (aa a) n (m+1)]=pure (.pointer (aa a)):=rfl
    constructor<;>simp[ak,h,resolve,invoke,builtin,d,e]) (λ_ _=>Rd.val rfl)
def bE.Te(h:o.op=.slice t x af (aa y) af)(q:P.underlying t=aa (.slice E)){ie:TypeInfo}(hi:P.info? E=aa ie){a:Addr}{c:Nat}(A:η x=.e (.one (.v (.slice (aa a) n c))))(B:η y=.e (.one (.c (.int .i64 k))))(z:k<=n)(r:n<=c)(l:c≠0)(u:a.add 0=a):bE P o η σ (.e (.one (.v (.slice (aa a) k c)))) σ:=by
  refine .quiet λs m hh hr=>?_;have b:=hr x;rw[A]at b;have b:=Rd.fu b;have d:m y=.int .i64 k:=by have h1:=hr y;rw[B]at h1;have h1:=fI h1;generalize m y=v at h1;cases h1;rfl
  have hl:((af:Option aj)=af/\(af:Option Int)=af)∨∃k j,(af:Option aj)=aa (.int k j)/\(af:Option Int)=aa j:=.inl ⟨rfl,rfl⟩;have hh:(aa (Value.int .i64 k)=af/\(aa (k:Int))=af)∨∃k' j,aa (Value.int .i64 k)=aa (.int k' j)/\(aa (k:Int))=aa j:=.inr ⟨_,_,rfl,rfl⟩;have ho:au (gA n af (aa (k:Int))):=by simp[gA,z]
  obtain⟨hb,_,_⟩:=nQ (P:=P) (isS:=ab) r hl hh ho s.w;have f:=qc (P:=P) (isS:=ab) r hl hh ho s.w;simp only[cD,bM]at hb;refine⟨.slice (aa a) k c,?_,Rd.val rfl,?_⟩
  · simp[ak,h,b,d,Instr.sliceAt,run_underlying q,Instr.slice,hb,sizeOf,typeInfo,hi,l,u]
  · simp[ak,h,b,d,Instr.sliceAt,run_underlying q,Instr.slice,hb,f,sizeOf,typeInfo,hi,l]
def bE.copyV{j:aw}(h:o.op=.call {callee:=.builtin .copy,args:=#[x,y],argTypes:=#[t,j]})(k:P.underlying t=aa (.slice E)){ie:TypeInfo}(hi:P.info? E=aa ie){a:Addr}{c:Nat}(f:η x=.e (.one (.v (.slice (aa a) 0 c))))(l:η y=.e (.one (.v (.slice af 0 0)))):bE P o η σ (.e (.one (.c (.int .i64 0)))) σ:=by
  refine .quiet λs m hh hr=>?_;have b:=hr x;rw[f]at b;have b:=Rd.fu b;have d:=hr y;rw[l]at d;have d:=Rd.fu d;refine⟨.int .i64 0,?_,Rd.int (by simp[bx]),?_⟩<;>
  simp[ak,h,resolve,invoke,builtin,Builtin.copy_,b,d,run_underlying k,sizeOf,typeInfo,hi,Builtin.lenOf,Builtin.firstCells,storeCells,goInt]
def bE.Tf{k j:aw}(ho:o.op=.call {callee:=.builtin .unsafeString,args:=#[x,y],argTypes:=#[k,j]})(l:η x=.e (.one (.v (.pointer af))))(m:η y=.e (.one (.c (.int .i64 ((0:Nat):Int))))):bE P o η σ (.e (.one (.c (.str [])))) σ:=by
  refine .nP λs h hh hr=>?_;have a:=hr x;rw[l]at a;have a:=Rd.fu a;have f:h y=.int .i64 0:=by have h1:=hr y;rw[m]at h1;have h1:=fI h1;generalize h y=v at h1;cases h1;rfl
  have d:ak h o=(do pure (.value (<-Builtin.unsafeString_ #[k,j] o.type #[h x,h y]))):=by simp[ak,ho,resolve,invoke,builtin]
  have b:=Lib.run_unsafeString_none (P:=P) s.w k j o.type af;refine⟨.string .empty,?_,Rd.str rfl (by simp),?_⟩
  · rw[d,a,f]
    simp only[bT,cV,b];rfl
  · rw[d,a,f]
    refine er ?_;change eB s (Sem.events P (asInt (.int .i64 0) >>= _) _ _);simp[asInt,asIntOf,IntKind.max];exact .nil
def bE.ZY(m:σ[l]?=aa (.cq (BB T E g v1 bf xs i))){c dst:aw}(h:o.op=.convert c dst x)(t:P.underlying c=aa (.pointer T))(q:P.underlying dst=aa .unsafePointer){j:TypeInfo}(hj:P.info? T=aa j)(f:j.size≠0)(u:η x=.e (.one (.ptr l 0))):bE P o η σ (.e (.one (.ptr l 0))) σ:=by
  refine .quiet λs v hh hr=>?_;obtain⟨L,b,ch,r⟩:=BB.row (P:=P) hh m;have d:=hr x;rw[u]at d;have n:=r.ptr d;have k:s.w.shape? b=aa (T,2):=by simp[World.shape?,r.heap _ _ r.ch]
  have a:=Lib.run_to_unsafe (P:=P) s.w ⟨b,0,af⟩ t q hj f k (by simp);refine⟨v x,by simp[ak,h,n,a],d,?_⟩;have:(convert c dst (.pointer (aa ⟨b,0,af⟩))).events P s.w #[]=#[]:=by simp[convert,run_underlying t,run_underlying q,Conv.unsafePointer,Conv.seenAt,viewAt,cellsIn,k,sizeOf,typeInfo,hj,f]
  simp[ak,h,n,a,this]
def bE.Tg(m:σ[l]?=aa (.cq (BB T E g v1 bf xs i))){d dst:aw}(h:o.op=.convert d dst x)(u:P.underlying d=aa .unsafePointer)(t:P.underlying dst=aa (.pointer T)){j:TypeInfo}(hj:P.info? T=aa j)(n:j.size≠0)(a:liesAt P P.depth T (2 / P.cellsOf T) 0 T 1=ab)(v:η x=.e (.one (.ptr l 0))):bE P o η σ (.e (.one (.ptr l 0))) σ:=by
  refine .quiet λs y hh hr=>?_;obtain⟨L,b,ch,r⟩:=BB.row (P:=P) hh m;have f:=hr x;rw[v]at f;have q:=r.ptr f;have k:s.w.shape? b=aa (T,2):=by simp[World.shape?,r.heap _ _ r.ch]
  have c:=Lib.run_from_unsafe (P:=P) s.w ⟨b,0,af⟩ u t hj k a;refine⟨y x,by simp[ak,h,q,c],f,?_⟩;have:(convert d dst (.pointer (aa ⟨b,0,af⟩))).events P s.w #[]=#[]:=by simp[convert,run_underlying u,run_underlying t,Conv.unsafePointer,Conv.seenAt,viewAt,variablesAt,k,sizeOf,typeInfo,hj,n,a]
  simp[ak,h,q,c,this]
def bE.Th{f:aK}{fn:Func}(r:P.funcs[f]?=aa fn)(j:(fn.name== "runtime.NumGoroutine")=ae)(hb:fn.body.isNone=ab)(u:Extern.findNext fn=af)(t:Extern.find fn=aa Extern.AbiNoEscape.same)(ho:o.op=.call {callee:=.value fo,args:=#[x],argTypes:=jP})(n:η fo=.e (.one (.c (.fn (.func f) [] [])))){d:D}(B:η x=d):bE P o η σ d σ:=by
  refine .nP λs l hh hr=>?_;have m:l fo=.func (.func f) #[] #[]:=by
    have h1:=hr fo;rw[n]at h1;have h1:=fI h1;generalize l fo=v at h1;cases h1 with
    | fn fs cs a b z y c1 c2 d1 d2 =>
      grind
  have k:(callFunc f #[l x]).run P s.w=.ok (.value (l x)) s.w:=by rw[run_callFunc_extern r j hb u t];rfl
  have q:=lF (P:=P) r j hb u t #[l x] (λ_ _=>rfl) s.w #[];refine⟨l x,?_,by grind,λA h=>?_⟩
  · simp[ak,ho,resolve,Deferred.ofValue,invoke,m,k]
  · simp[ak,ho,resolve,Deferred.ofValue,invoke,m,q]at h
    subst h;exact .inr ⟨_,rfl⟩
end
def tf{α k:Type}{f:α->k}:∀{l:List α},(l.map f).Nodup->∀{a b:α},a∈l->b∈l->f a=f b->a=b
 |[],_,_,_,h,_,_=>by grind
 |x::r,g,a,b,i,j,e=>by
  simp only[jA,List.nodup_cons]at g;rcases dC.1 i with d|d<;>rcases dC.1 j with c|c
  .grind
  .grind
  .grind
  .exact tf g.2 d c e
def j3{B:bm}{r:List bm}(h:B≠.qT)(k:mY r=ab):mY (B::r)=ab:=by cases B<;>first|exact k|grind
section
variable {X:Cx P}
def AK.iv{Q a:Post}(h:∀e φ σ,Q e φ σ->a e φ σ):∀{K:List It}{e:Exit}{φ:Fr}{σ:List bm},AK X N Q K e φ σ->AK X N a K e φ σ
 |[],e,φ,σ,q=>h e φ σ q
 |.code c::K,.normal,φ,σ,q=>AW.mono q λ_ _ _ q=>AK.iv h q
 |.code c::K,.exit _,φ,σ,q=>AK.iv (K:=K) h q
 |.code c::K,.ret,φ,σ,q=>AK.iv (K:=K) h q
 |.code c::K,.panic _,φ,σ,q=>AK.iv (K:=K) h q
 |.code c::K,.goto _,φ,σ,q=>AK.iv (K:=K) h q
 |.code c::K,.outgrown,φ,σ,q=>AK.iv (K:=K) h q
 |.blk id::K,.exit Ir,φ,σ,q=>by
  simp only[AK]at q⊢;split
  .rename_i e;rw[br e]at q;exact AK.iv (K:=K) h q
  .rename_i e;rw[a9 e]at q;exact AK.iv (K:=K) h q
 |.blk id::K,.normal,φ,σ,q=>AK.iv (K:=K) h q
 |.blk id::K,.ret,φ,σ,q=>AK.iv (K:=K) h q
 |.blk id::K,.panic _,φ,σ,q=>AK.iv (K:=K) h q
 |.blk id::K,.goto _,φ,σ,q=>AK.iv (K:=K) h q
 |.blk id::K,.outgrown,φ,σ,q=>AK.iv (K:=K) h q
 |.ops all rest::K,.normal,φ,σ,q=>jm.mono q λ_ _ q=>AK.iv h q
 |.ops all rest::K,.exit _,φ,σ,q=>AK.iv (K:=K) h q
 |.ops all rest::K,.ret,φ,σ,q=>AK.iv (K:=K) h q
 |.ops all rest::K,.panic _,φ,σ,q=>AK.iv (K:=K) h q
 |.ops all rest::K,.goto _,φ,σ,q=>AK.iv (K:=K) h q
 |.ops all rest::K,.outgrown,φ,σ,q=>AK.iv (K:=K) h q
def AK.Jz{id:Nat}{A:Fr->List bm->Prop}{b c a:List It}(h1:kz id b=af)(h2:kz id c=aa a)(k:AK X N Qf a .normal φ σ):
  AK X N (FV A (AK X N Qf c)) (.code (.exit id)::b) .normal φ σ :=
 AK.iv (λe φ' σ' q=>by cases e<;>exact q) (AK.leave (X:=X) (N:=N) (Qr:=Qf) (A:=A) (φ:=φ) (σ:=σ) h1 h2 k)
end
section
variable {X:Cx P}
def AK.lO{fn:Func}{h:Nat}{σ':ι->List bm}(i:ι)(ks:List Nat){cs:List A}{t:Tmp}{b:TI}(r:fn.results.toList=[.cell t ty])(hi:bH T ty=aa b)(m:b.agg=ab)(k:look φ t=.e (.one (.ptr l 0)))(hl:eD l σ=aa (.cells E cs))(a:av cs.length b.size=ab)(d:g9 l ks=ae)(c:Ds (.e (.agg cs)) (iK ks (res i))=aa ps)(o:au ps)(f:vA ks.length (res i)=ab)(p:jZ ks σ=aa (σ' i))(g:kO (σ' i)=ab)(q:dY ks=ab)(n:∀j,j<h->ks[j]?=aa j):
  AK X N (λe φ σ1=>∃j,JN T fn h (res j) (σ' j) e φ σ1) (.code .ret::K) .normal φ σ :=
 AK.ret ⟨i,.inl rfl,ks,l,E,cs,t,ty,b,ps,af,nofun,r,hi,m,b7 a,k,c7 hl,B7 d,c,o,f,p,g,q,n⟩
def AK.PC{fn:Func}{k:Nat}{σ':ι->List bm}(i:ι)(ks:List Nat){cs:List A}{t u:Tmp}{b:TI}{x:E1}(v:fn.results.toList=[.cell t ty,.tmp u])(hi:bH T ty=aa b)(n:b.agg=ab)(m:look φ t=.e (.one (.ptr l 0)))(p:look φ u=.e x)(hl:eD l σ=aa (.cells E cs))(a:av cs.length b.size=ab)(d:g9 l ks=ae)(c:Ds (.fz [.agg cs,x]) (iK ks (res i))=aa ps)(q:au ps)(f:vA ks.length (res i)=ab)(r:jZ ks σ=aa (σ' i))(g:kO (σ' i)=ab)(s:dY ks=ab)(o:∀j,j<k->ks[j]?=aa j):
  AK X N (λe φ σ1=>∃j,JN T fn k (res j) (σ' j) e φ σ1) (.code .ret::K) .normal φ σ :=
 AK.ret ⟨i,.inl rfl,ks,l,E,cs,t,ty,b,ps,aa (u,x),λ_ h=>by cases h;exact p,v,hi,n,b7 a,m,c7 hl,B7 d,c,q,f,r,g,s,o⟩
def Ev.wB(g:dg P T){f:aK}{fn:Func}{args:List D}{res:D}(d:P.funcs[f]?=aa fn)(b:(fn.name== "runtime.NumGoroutine")=ae)(hb:fn.body=aa c)(a:bz args.length fn.ntmps=ab)(h:Fits args σ->AK X fn.ntmps (λe φ σ1=>∃_:Unit,JN T fn σ.length res σ' e φ σ1) [.code c] .normal (jh 0 args) σ):Ev X f args σ res σ' :=
 (dO.oz (ι:=Unit) (σ':=λ_=>σ') (res:=λ_=>res) g d b hb a h).GP
end
section
variable {X:Cx P}
def AK.TY{x:ι->D}{σ':ι->List bm}(h:qj X N all o φ σ x σ')(d:fE N o.dst=ab)(k:∀i,AK X N Qf (.ops all rest::K) .normal (kp o.dst (x i) φ) (σ' i)):AK X N Qf (.ops all (o::rest)::K) .normal φ σ:=by
  intro s a f hh b kk cs S idx hb iI hQ;cases idx with
  | nil=>exact iI.elim
  | cons j idx =>
  refine h s a f hh b kk cs S j idx hb iI.1 λi v s' h1 h2 h3=>?_;refine k i s' _ ?_ h2 b kk cs S idx hb iI.2 λc σ2 s2 a2 q e g st=>hQ c σ2 s2 a2 q e g (h3.trans st);cases l:o.dst with
  | none=>exact f.mono h3 hh.len
  | some t=>exact(f.mono h3 hh.len).put (gE d t l) h1
def qj.qn[X.im]{f:aK}(Iy:dO X f cu [] res σ1){Fw:List D}(hgd:BR all φ o=ab)(ho:o.op=.call {callee:=.value fo,args:=xs,argTypes:=jP})(hf:en (bO φ fo)=aa (f,cap))(hl:jF σ (xs.toList.map (bO φ)++fD cap) Fw)(T:uv Fw (gG [] cu)=aa ps)(hps:au ps)(hin:lZ 0 cu=ab)(Y:∀j,MT (res j)=ab)(iz:∀j,Br (σ1 j)=ab):qj X N all o φ σ res (λj=>σ++σ1 j):=by
  intro s a W hh b kx cs S i idx hb hi hQ;have YJ:=c8 W fo;unfold en at hf;split at hf
  case h_2=>cases hf
  case h_1 f' Iw he =>
    cases hf;rw[he]at YJ;have G:=fI YJ;generalize y:a.eval fo=fv at G;cases G with
    | fn fs lY hlf W9 f1 f2 h1 h2 r1 r2 =>
      have Xa:fs=[]:=jr hlf;subst Xa;have V:cn σ s lY (fD cap):=lB (λj c hj=>⟨f2 j,h2 j (by grind),r2 j c hj⟩) W9;have I:cn σ s (xs.toList.map a.eval++lY) (xs.toList.map (bO φ)++fD cap):=(nL (c8 W) xs.toList).append V;generalize SG:xs.toList.map a.eval++lY=vs at I;obtain⟨⟨fn,Ny,Jt,U⟩,Z⟩:=Iy;have vM:∀w,(ak a.eval o).run P w=.ok (.enter f vs.toArray) w:=λw=>by grind[gK]
      have Xb:∀w,(ak a.eval o).events P w #[]=#[]:=λw=>(gK ho Ny Jt U y w).2;refine .next rfl λm W2=>?_;have hr:=X.ij W2;have e:=hh.rely hr;have f1':=W.rely hr hh;have K:cn σ m vs (xs.toList.map (bO φ)++fD cap):=I.mono hr.stepW.ext hh.len;obtain⟨B,M',hBL,m1,m2,m3,m4,m5⟩:=hl m vs e K;let sc:St:={m with β:=[],M:=M',own:=λb=>m.own b∨∃L∈m.β,b∈L.bs}
      have hhc:aD [] sc:=by
        refine⟨m3,rfl,by simp,by grind,by grind,λb hb=>⟨?_,by grind⟩⟩;rcases hb with hb|⟨L',p,hb⟩
        · exact(e.own b hb).1
        · exact e.lt L' p b hb
      have Xc:eO m sc:=by refine⟨rfl,m1,λb hb o=>m2 b (λF=>by grind) o,m3,λb hb=>?_⟩;grind
      have C:cn [] sc vs cu:=by have a3:=rL T hps m5;exact(cn.sub (ks:=[]) (σ:=σ) (σ':=[]) (s:={m with M:=M'}) (β':=[]) rfl rfl a3 hin).mono (σ:=[]) (s:={m with β:=[],M:=M'}) (σ':=[]) (s':=sc) ⟨λ_ _ _ h=>h,λl B L F hL=>by grind⟩ rfl
      refine⟨_,m,_,oT hi (Jp hgd _ _ _ f1') hb (vM m.w),⟨⟨σ,σ,e,e,.refl _ _⟩,eB.seen (by rw[Xb];exact .nil)⟩,.ghost Xc (Z sc vs C hhc S _ λj fr v s2 QU lX Dq oE=>?_)⟩;refine pZ (cs:=cs) (c:=b.aT a (.inRegion all.toArray (i::idx)::kx)) Dq QU λt O=>?_;have q:=Dq.rely O;have n:=oE.trans O.stepW;have J:=lX.mono O.stepW.ext Dq.len
      classical
      let E:Mem:=λb o=>if B b then m.M b o else t.M b o;have r:∀b,(m.own b∨∃L∈m.β,b∈L.bs)->t.own b:=λb hb=>by rw[n.own];exact hb
      have YK:mL t {t with M:=E}:=by
        refine⟨rfl,rfl,rfl,λb o v y=>?_,λb o v y=>?_⟩
        · grind
        grind
      refine .forget Cx.im.ok YK ?_;have YL:∀b o v,E b o=aa v->t.M b o=aa v:=YK.less;let s5:St:={t with M:=E,β:=m.β++t.β,own:=m.own}
      have YM:∀b o v,m.M b o=aa v->E b o=aa v:=λb o v y=>by
        by_cases d:B b
        · grind
        · simp only[E,d,bS];exact n.mem b o v (m1 b o v y)
      have YN:∀b,b<m.w.heap.size->∀o,E b o=m.M b o:=λb hb o=>by
        by_cases d:B b
        · grind
        · simp only[E,d,bS]
          rw[n.iO b hb (by grind) o];grind
      have R:t.β.length=(σ1 j).length:=q.len;have ex:Ext σ m (σ++σ1 j) s5:=by
        refine⟨YM,λl B L F hL=>⟨B,L,?_,?_,.refl _ _⟩⟩
        · grind
        grind
      have Q:m.w.heap.size<=t.w.heap.size:=n.size;have u:∀(l:Nat) (L':Loc),(m.β++t.β)[l]?=aa L'->(l<m.β.length/\m.β[l]?=aa L')∨(m.β.length<=l/\t.β[l-m.β.length]?=aa L'):=λl L' h=>by grind
      have hh5:aD (σ++σ1 j) s5:=by
        refine⟨λb o v y=>q.mem b o v (YL b o v y),by simp[s5,e.len,R],?_,?_,?_,?_⟩
        · intro l B L' F p
          rcases u l L' p with⟨sS,h1⟩|⟨SN,h1⟩
          · rw[js (by rw[<-e.len];exact sS)]at F
            exact(e.box l B L' F h1).carry ex e.len λg d=>⟨n.keep g (.inr ⟨L',bL h1,d⟩),YN g (e.lt L' (bL h1) g d)⟩
          · rw[fA (by rw[<-e.len];exact SN),<-e.len]at F
            have hbx:=q.box _ B L' F h1;rcases Bt (iz j) B (bL F)with⟨H,rfl⟩|rfl
            · obtain⟨ch,c1,c2,c3,c4⟩:=hbx
              refine⟨ch,c1,c2,c3,λg d o=>?_⟩;grind
            · trivial
        · intro l l' L1 L2 hL1 hL2 g A z
          rcases u l L1 hL1 with⟨sS,h1⟩|⟨SN,h1⟩<;>rcases u l' L2 hL2 with⟨abf,h2⟩|⟨abg,h2⟩
          · exact e.eZ l l' L1 L2 h1 h2 g A z
          · exact absurd z ((q.own g (r g (.inr ⟨L1,bL h1,A⟩))).2 L2 (bL h2))
          · exact absurd A ((q.own g (r g (.inr ⟨L2,bL h2,z⟩))).2 L1 (bL h1))
          · have:=q.eZ _ _ L1 L2 h1 h2 g A z;omega
        · intro L' p g d
          rcases eJ.1 p with h|h
          · exact cB (e.lt L' h g d) Q
          · exact q.lt L' h g d
        · intro g d
          refine⟨cB (e.own g d).1 Q,λL' p=>?_⟩;rcases eJ.1 p with h|h
          · exact(e.own g d).2 L' h
          · exact(q.own g (r g (.inl d))).2 L' h
      have hg5:eO {t with M:=E} s5:=by refine⟨rfl,λ_ _ _ h=>h,λ_ _ _=>rfl,λb o v y=>q.mem b o v (YL b o v y),λg d=>?_⟩;grind
      have st5:cR σ m (σ++σ1 j) s5:=by
        refine⟨Q,λg d=>n.keep g (.inl d),YM,λg d _ o=>YN g d o,λL' p g d=>?_,ex.box,n.os,n.tape,n.output,rfl⟩;rcases eJ.1 p with h|h
        · grind
        · rcases n.uW L' h g d with h1|⟨L0,h1,_⟩
          · grind
          grind
      refine .ghost hg5 ?_;have x:=jg (b:=b) (a:=a) (k:=kx) all.toArray i idx v;rw[hi]at x;simp only[mH]at x;rw[x];exact hQ j v s5 (MU (Y j) J) hh5 (hr.stepW.trans st5)
def AK.qn[X.im]{ι:Type}{fo:aC}{xs:Array aC}{jP:Array aw}{f:aK}{cap:List C}{cu:List D}{res:ι->D}{σ1:ι->List bm}(e:dO X f cu [] res σ1){c:List D}(i:BR all φ o=ab)(ho:o.op=.call {callee:=.value fo,args:=xs,argTypes:=jP})(l:en (bO φ fo)=aa (f,cap))(hl:jF σ (xs.toList.map (bO φ)++fD cap) c){ps:List Prop}(a:uv c (gG [] cu)=aa ps)(h:au ps)(g:lZ 0 cu=ab)(b:∀j,MT (res j)=ab)(d:∀j,Br (σ1 j)=ab)(k:fE N o.dst=ab)(kk:∀j,AK X N Qf (.ops all rest::K) .normal (kp o.dst (res j) φ) (σ++σ1 j)):AK X N Qf (.ops all (o::rest)::K) .normal φ σ:=.TY (qj.qn e i ho l hl a h g b d) k kk
def AK.Jy[X.im]{f:aK}(g:dO X f cu [] res σ1)(m p:Nat){u:aj}(l:BR all φ o=ab)(ho:o.op=.call {callee:=.value fo,args:=xs,argTypes:=jP})(r:en (bO φ fo)=aa (f,cap))(s:(xs.toList.map (bO φ)++fD cap)[p]?=aa (.e (.one (.v u))))(hl:im σ m u k n es)(a:uv ((xs.toList.map (bO φ)++fD cap).set p (.e (.one (.c (.sl ae k n es))))) (gG [] cu)=aa ps)(i:au ps)(h:lZ 0 cu=ab)(b:∀j,MT (res j)=ab)(d:∀j,Br (σ1 j)=ab)(q:fE N o.dst=ab)(kk:∀j,AK X N Qf (.ops all rest::K) .normal (kp o.dst (res j) φ) (σ++σ1 j)):AK X N Qf (.ops all (o::rest)::K) .normal φ σ :=
  AK.qn g l ho r ((jF.refl _ _).step p m s hl) a i h b d q kk
end
section
variable {X:Cx P}
def qj.QW{x:ι->D}{σ':ι->List bm}(p:o.guard=af)(h:jR P N o φ σ x σ'):qj X N all o φ σ x σ':=by intro s a f hh b k cs S i rest hb hi hK;refine Af hb hi (dx p) λq d=>?_;have c:=hh.rely d;obtain⟨j,n,s',v,h1,h2,m,e,g,l⟩:=h q a (f.rely d hh) c;exact⟨n,s',v,h1,h2,⟨⟨σ,σ' j,c,e,g⟩,l⟩,hK j v s' m e (d.stepW.trans (g.ow c))⟩
def qj.By{f:aK}(p:dO X f cu σs res σ1)(ks:List Nat)(x:o.guard=af)(ho:o.op=.call {callee:=.value fo,args:=xs,argTypes:=jP})(r:en (bO φ fo)=aa (f,cap))(h:∀s vs,cn σ s vs (xs.toList.map (bO φ)++fD cap)->cn σ s vs (gG ks cu))(u:lZ ks.length cu=ab)(v:jZ ks σ=aa σs)(C:cK σs=ab)(z:∀j,cK (σ1 j)=ab)(B:dY ks=ab)(t:∀j,bz ks.length (σ1 j).length=ab):
  qj X N all o φ σ (λj=>iK (ks++lG σ.length ((σ1 j).length-ks.length)) (res j)) (λj=>ef ks (σ1 j) σ):=by
 intro s a n hh b kk cs S i rest hb hi hK;have m:=c8 n fo;unfold en at r;split at r
 case h_2=>cases r
 case h_1 f' Iw he =>
  cases r;rw[he]at m;have g:=fI m;generalize A:a.eval fo=fv at g;cases g with
  |fn fs lY hl Dr f1 f2 h1 h2 r1 r2 =>
   have y:fs=[]:=jr hl;subst y;have k:cn σ s lY (fD cap):=lB (λj c hj=>⟨f2 j,h2 j (by grind),r2 j c hj⟩) Dr;have q:cn σ s (xs.toList.map a.eval++lY) (gG ks cu):=h s _ ((nL (c8 n) xs.toList).append k);obtain⟨fn,l,e,d⟩:=p.1;exact sW hb hi (dx x) hh (λw=>(gK ho l e d A w).1) (λw=>(gK ho l e d A w).2) p q u v C z B (λj=>dM (t j)) hK
def qj.zO{f:aK}(c:dO X f cu σs res σ1)(ks:List Nat)(i:o.guard=af)(ho:o.op=.call {callee:=.value fo,args:=xs,argTypes:=jP})(k:en (bO φ fo)=aa (f,cap))(a:ox (xs.toList.map (bO φ)++fD cap)=gG ks cu)(d:lZ ks.length cu=ab)(g:jZ ks σ=aa σs)(l:cK σs=ab)(b:∀j,cK (σ1 j)=ab)(m:dY ks=ab)(e:∀j,bz ks.length (σ1 j).length=ab):
  qj X N all o φ σ (λj=>iK (ks++lG σ.length ((σ1 j).length-ks.length)) (res j)) (λj=>ef ks (σ1 j) σ):=.By c ks i ho k (λ_ _ h=>a▸rR h) d g l b m e
def qj.nT{f:aK}(c:dO X f cu σs res σ1)(ks:List Nat)(k:o.guard=af)(ho:o.op=.call {callee:=.value fo,args:=xs,argTypes:=jP})(l:en (bO φ fo)=aa (f,cap))(a:uv (xs.toList.map (bO φ)++fD cap) (gG ks cu)=aa ps)(e:au ps)(d:lZ ks.length cu=ab)(i:jZ ks σ=aa σs)(m:cK σs=ab)(b:∀j,cK (σ1 j)=ab)(n:dY ks=ab)(g:∀j,bz ks.length (σ1 j).length=ab):
  qj X N all o φ σ (λj=>iK (ks++lG σ.length ((σ1 j).length-ks.length)) (res j)) (λj=>ef ks (σ1 j) σ):=.By c ks k ho l (λ_ _ h=>rL a e h) d i m b n g
def jR.fresh(h:lC P o x y E ie){W m:Nat}{tx:Bool}{es':Nat->List C}(Z:ie.size=k)(L:bO φ x=.e (.one (.c (.sl ab W 0 es))))(hy:bO φ y=.e (.one (.c (.sl tx k m es'))))(hm:0<m)(hb:m*ie.bytes<=140737488355328)(hgn:∀i,i<m->∀c∈es' i,uy c=ab):
  jR P N o φ σ (ι:={q:uz×List aj // iq k m es' q.2}) (λq=>.e (.one (.v (sT q.1.1 m)))) (λq=>σ++[.cq (iR E k q.1.1 m q.1.2)]):=by
 intro s ρ V hh;obtain⟨t,t2,i,i2,ho,hi,hd,G,J⟩:=h.op;have h1:=c8 V x;rw[L]at h1;have n:=Rd.uU (k:=W) (k':=ie.size) (.inr rfl) (fI h1);have h2:=c8 V y;rw[hy]at h2;have h2:=fI h2;obtain⟨a,cap,vs,U,Y,MI,ht,hF,SQ⟩:=n.flat;have K:cap=0:=ht rfl;subst K;rw[U]at n;have F:Rd s.M (ρ.eval y) (.sl tx ie.size m es'):=by grind
 obtain⟨d,R,g,f,I,O,z,r⟩:=ik (P:=P) (ty:=o.type) hi hd G J h.elem hh n F (by omega) (by grind) h.bytes;have Iy:=iP (P:=P) (ty:=o.type) hi hd G J h.elem hh n F (by omega) (by grind) h.bytes;have e0:cT 0 es es'=es':=by funext i;simp[cT]
 rw[Z,bA,e0]at f;rw[Z]at z;rw[bA]at I r;have D:iq k m es' d:=⟨f.len,f.width,λi hi j c hj=>by
  obtain⟨u,Q,T⟩:=f.rd i hi j c hj
  grind[qd]⟩
 have A:∀x∈d,cZ x=ab:=λx L=>by
  obtain⟨p,hp,rfl⟩:=dH L;have hk:0<k:=by grind
  have Pc:=f.len;have hi:p / k<m:=pO (by grind);have S:p / k*k+p % k=p:=pU p k;have hj:p % k<(es' (p / k)).length:=by rw[f.width _ hi];exact iA _ hk
  obtain⟨u,Q,T⟩:=D.at' _ hi _ _ (bg hj);rw[S,bg hp]at Q;cases Q;exact(T s.M).cell
 let w':aA:=s.w.drew.alloc (.cells (d++R).toArray E);have hB:eK (σ++[.cq (iR E k (.row s.w.heap.size g) m d)]) {s with w:=w',β:=s.β++[⟨.nilFunc,[s.w.heap.size]⟩]} (.cq (iR E k (.row s.w.heap.size g) m d)) ⟨.nilFunc,[s.w.heap.size]⟩:=by
  refine⟨λB=>if B=s.w.heap.size then aa (.cells (d++R).toArray E (0,0))else af,⟨rfl,A,f.len,I,O,R,z,rfl⟩,λB o l=>?_,λB=>?_,λB l o=>?_⟩
  .by_cases e:B=s.w.heap.size
   .subst e;simp only[bY]at l;cases l;exact dG s.w.drew _
   grind
  .by_cases e:B=s.w.heap.size<;>simp[e]
  .simp at l;subst l;cases hm:s.M s.w.heap.size o with
   |none=>rfl
   |some v=>have:=hh.block hm;omega
 have MQ:w'.heap.size=s.w.heap.size+1:=by show(s.w.drew.heap.push _).size=_;simp
 have H:aD σ {s with w:=w'}/\Step σ s σ {s with w:=w'} :=
  hh.grow (by omega) (λb hb=>cO s.w.drew _ hb) (λb hb o=>rfl) (λb hb o v hm=>by have:=hh.block hm;omega) rfl rfl rfl
 obtain⟨g1,g2⟩:=H.1.gz H.2 rfl hh hB (λb hb=>by grind)
 refine⟨⟨(.row s.w.heap.size g,d),D⟩,.value (.slice (aa ⟨s.w.heap.size,0,af⟩) m g),_,_,?_,.inl rfl,Rd.val rfl,g1,g2,?_⟩
 .rw[de ho,U];simp[r];rfl
 grind[de,er]
def AK.fresh{x y:aC}{E:aw}{ie:TI}(h:lC P o x y E ie){d k m:Nat}{tx:Bool}{es es':Nat->List C}(g:ie.size=k)(f:bO φ x=.e (.one (.c (.sl ab d 0 es))))(l:bO φ y=.e (.one (.c (.sl tx k m es'))))(hm:0<m)(hb:m*ie.bytes<=140737488355328)(a:∀i,i<m->∀c∈es' i,uy c=ab)(j:o.guard=af)(b:fE N o.dst=ab)(kk:∀q:{q:uz×List aj // iq k m es' q.2},AK X N Qf (.ops all rest::K) .normal (kp o.dst (.e (.one (.v (sT q.1.1 m)))) φ) (σ++[.cq (iR E k q.1.1 m q.1.2)])):AK X N Qf (.ops all (o::rest)::K) .normal φ σ :=
 AK.hand _ _ j b (jR.fresh h g f l hm hb a) kk
def AK.spare(E:aw)(k:Nat)(kk:AK X N Qf (.code c::K) .normal φ (σ++[.cq (iR E k (.nil af) 0 [])])):AK X N Qf (.code c::K) .normal φ σ:=by refine AK.ghost (λs a b hh=>?_) kk;obtain⟨d,g2⟩:=hh.gz (B:=.cq (iR E k (.nil af) 0 [])) (L:=⟨.nilFunc,[]⟩) (.refl _ _) rfl hh ⟨λ_=>af,⟨rfl,by simp,by simp,rfl,rfl⟩,by simp,by simp,by simp⟩ (by simp);exact⟨{s with β:=s.β++[⟨.nilFunc,[]⟩]},rfl,⟨b.size,b.defers.imp λ_ h1=>h1.mono g2.ext,λu=>(b.slot u).mono g2.ext hh.len⟩,d,g2⟩
end
def vC(l k n:Nat)(es:Nat->List C):A->A×List Prop
 |.bp l' (.sl g k' o m)=>match av l' l with
  |true=>match av k' k with
   |true=>(.c (.sl ae k m (sX o es)),[g=n,o+m<=n])
   |false=>(.bp l' (.sl g k' o m),[])
  |false=>(.bp l' (.sl g k' o m),[])
 |a=>(a,[])
def nV(l k n:Nat)(es:Nat->List C):List A->List A×List Prop
 |[]=>([],[])
 |a::r=>match vC l k n es a with
  |(a',p)=>match nV l k n es r with
   |(r',q)=>(a'::r',j0 p q)
def DM(l k n:Nat)(es:Nat->List C):E1->E1×List Prop
 |.one a=>match vC l k n es a with|(a',p)=>(.one a',p)
 |.agg cs=>match nV l k n es cs with|(b,p)=>(.agg b,p)
def DN(l k n:Nat)(es:Nat->List C):D->D×List Prop
 |.e x=>match DM l k n es x with|(a,p)=>(.e a,p)
 |d=>(d,[])
def vD(l k n:Nat)(es:Nat->List C):Fr->Fr×List Prop
 |[]=>([],[])
 |(t,d)::r=>match DN l k n es d with
  |(a,p)=>match vD l k n es r with
   |(r',q)=>((t,a)::r',j0 p q)
def gB(l k n:Nat)(es:Nat->List C):Nat->List bm->List bm×List Prop
 |_,[]=>([],[])
 |i,b::r=>match gB l k n es (i+1) r with
  |(r',q)=>match av i l with
   |true=>(.dead::r',q)
   |false=>match b with
    |.cells E cs=>match nV l k n es cs with|(a,p)=>(.cells E a::r',j0 p q)
    |b=>(b::r',q)
section
variable {s2:St}{E:Nat}
structure iV(σ:List bm)(s:St)(l k n:Nat)(es:Nat->List C)(σ':List bm)(s2:St):Prop where
 keep:∀v a,gb σ s v a->gb σ' s2 v a
 IP:∀v k' o m,gb σ s v (.bp l (.sl n k' o m))->k'=k->o+m<=n->Rd s2.M v (.sl ae k m (sX o es))
def iV.a(h:iV σ s l k n es σ' s2){v:aj}{a:A}(b:au (vC l k n es a).2)(r:gb σ s v a):gb σ' s2 v (vC l k n es a).1:=by
 unfold vC at b⊢;split
 .rename_i l' g k' o m;split
  .rename_i e1;split
   .rename_i e2;simp only[e1,e2]at b;have e1:=b7 e1;have e2:=b7 e2;subst e1;obtain⟨rfl,h2⟩:g=n/\o+m<=n:=b;exact h.IP v _ _ _ r e2 h2
   .exact h.keep v _ r
  .exact h.keep v _ r
 .exact h.keep v _ r
def iV.ls(h:iV σ s l k n es σ' s2):∀{vs:List aj}{cs:List A},au (nV l k n es cs).2->eb σ s vs cs->eb σ' s2 vs (nV l k n es cs).1
 |[],[],_,_=>trivial
 |[],_::_,_,r=>r.elim
 |_::_,[],_,r=>r.elim
 |v::vs,c::cs,b,r=>by simp only[nV]at b⊢;rw[au.cat]at b;exact⟨h.a b.1 r.1,h.ls b.2 r.2⟩
def iV.e(h:iV σ s l k n es σ' s2){x:E1}(b:au (DM l k n es x).2)(r:nD σ s v x):nD σ' s2 v (DM l k n es x).1:=by
 cases x with
 |one a=>exact h.a b r
 |agg cs=>obtain⟨vs,d,c⟩:=r;exact⟨vs,d,h.ls b c⟩
def iV.d(h:iV σ s l k n es σ' s2)(hl:s.β.length=σ.length)(b:Ext σ s σ' s2){v:aj}{d:D}(a:au (DN l k n es d).2)(r:dm σ s v d):dm σ' s2 v (DN l k n es d).1:=by
 cases d with
 |e x=>exact h.e a r
 |fz xs=>exact r.mono b hl
 |any=>trivial
def iV.f(h:iV σ s l k n es σ' s2)(hl:s.β.length=σ.length)(c:Ext σ s σ' s2):∀{φ:Fr}{t:Nat}{v:aj},au (vD l k n es φ).2->dm σ s v (look φ t)->dm σ' s2 v (look (vD l k n es φ).1 t)
 |[],_,_,_,_=>trivial
 |(u,d)::r,t,v,b,a=>by
  simp only[vD]at b⊢;rw[au.cat]at b;simp only[look]at a⊢;cases hb:av u t with
  |true=>rw[hb]at a;exact h.d hl c b.1 a
  |false=>rw[hb]at a;exact h.f hl c b.2 a
theorem qY:∀{σ:List bm}{i j:Nat},(gB l k n es i σ).1[j]?=match σ[j]? with
  |none=>af
  |some b=>aa (match av (i+j) l with|true=>.dead|false=>match b with|.cells E cs=>.cells E (nV l k n es cs).1|b=>b)
 |[],i,j=>by simp[gB]
 |b::r,i,0=>by simp only[gB,ia,ju];grind
 |b::r,i,j+1=>by
  have a:=qY (σ:=r) (i:=i+1) (j:=j);have e:i+1+j=i+(j+1):=by omega
  rw[e]at a;simp only[gB,nF];grind
def vE:∀{σ:List bm}{i j:Nat}{E:aw}{cs:List A},au (gB l k n es i σ).2->σ[j]?=aa (.cells E cs)->i+j≠l->au (nV l k n es cs).2
 |[],i,j,_,_,_,a,_=>by grind
 |b::r,i,0,E,cs,c,a,d=>by simp at a;subst a;simp only[gB]at c;grind[Nat.eq_of_beq_eq_true,au.cat]
 |b::r,i,j+1,E,cs,c,a,d=>by simp at a;refine vE (σ:=r) (i:=i+1) (j:=j) ?_ a (by omega);simp only[gB]at c;grind[au.cat]
theorem qZ:∀{σ:List bm}{i:Nat},(gB l k n es i σ).1.length=σ.length
 |[],_=>rfl
 |b::r,i=>by simp only[gB];have a:=qZ (σ:=r) (i:=i+1);grind
def aD.rT(hh:aD σ s)(J:σ[l]?=aa (.buf E k n es))(hq:au (gB l k n es 0 σ).2):
  ∃s2:St,s2.w=s.w/\aD (gB l k n es 0 σ).1 s2/\Step σ s (gB l k n es 0 σ).1 s2/\iV σ s l k n es (gB l k n es 0 σ).1 s2:=by
 have I:l<σ.length:=(b8.1 J).1;have R:s.β[l]?=aa (s.β[l]'(by rw[hh.len];exact I)):=bg _;generalize s.β[l]'(by grind)=L at R;have O:=hh.box _ _ L J R;obtain⟨M',m1,m2,m3,m4⟩:∃M':Mem,(∀b o v,s.M b o=aa v->M' b o=aa v)/\(∀b,b∉L.bs->∀o,M' b o=s.M b o)/\(∀b o v,M' b o=aa v->s.w.cell? ⟨b,o,af⟩=aa v) /\
   (∀v k' o m,gb σ s v (.bp l (.sl n k' o m))->k'=k->o+m<=n->Rd M' v (.sl ae k m (sX o es))):=by
  rcases O with⟨rfl,rfl⟩|⟨b,c0,vs,zs,rfl,hw,Mx,Yf,MI,Z,hM⟩
  .refine⟨s.M,λ_ _ _ h=>h,λ_ _ _=>rfl,hh.mem,λv k' o m r e z=>?_⟩;obtain⟨lv,⟨a,a0,cap,c0,y,h1,h2,D,F,Q⟩,_,V⟩:=r;grind[Rd.il]
  .let M':Mem:=λq o=>if q=b then vs[o]? else s.M q o;have Y:∀q o v,s.M q o=aa v->M' q o=aa v:=λq o v y=>by grind
   refine⟨M',Y,λq ov o=>?_,λq o v y=>?_,λv k' o m r e z=>?_⟩
   .grind
   .by_cases e:q=b
    .subst e;simp only[M',bY]at y;simp only[aW,hw];grind
    .simp only[M',e,bS]at y;exact hh.mem q o v y
   .subst e;obtain⟨lv,⟨a,a0,cap,c1,y,h1,h2,D,F,Q⟩,_,V⟩:=r;obtain⟨L',f,K⟩:=(V _ _ _ _ J).2 rfl;rw[R]at f;cases f;rw[F]at K;cases K;rw[y];have g:∀i,i<m->∀j c,(sX o es i)[j]?=aa c->∃u,vs[(o+i)*k'+j]?=aa u/\Rd s.M u c:=λi hi j c hj=>by rw[u4]at hj;exact Z.rd (o+i) (by omega) j c hj
    refine .sl b (o*k') (λi j=>(vs[(o+i)*k'+j]?).getD ah) h1 (by omega) (by simp) (λi hi=>by rw[u4];exact Z.width _ (by omega)) (λhm=>?_) (λi hi j c hj=>?_) (λi hi j c hj=>?_)
    .grind
    .grind
    .obtain⟨u,u1,u2⟩:=g i hi j c hj;rw[u1];exact u2.mono Y
 obtain⟨C,q2⟩:=hh.ig (M':=M') (w':=s.w) (B':=.dead) (L':=⟨L.v,[]⟩) J R ar (ba _) (λ_ _ _=>rfl) (λb _ hb o=>m2 b hb o) m1 m3 (by simp) rfl rfl rfl ar;let s2:St:=⟨s.β.set l ⟨L.v,[]⟩,M',s.w,s.own⟩
 have g:∀i B,σ[i]?=aa B->i≠l->(gB l k n es 0 σ).1[i]?=aa (match B with|.cells E cs=>.cells E (nV l k n es cs).1|b=>b):=λi B hi Bf=>by grind[qY,Nat.eq_of_beq_eq_true]
 have G:(gB l k n es 0 σ).1[l]?=aa .dead:=by
  rw[qY,J];have:av (0+l) l=ab:=by rw[bA];exact jB l
  grind
 have vF:Step (σ.set l .dead) s2 (gB l k n es 0 σ).1 s2:=by
  refine⟨ba _,λ_ _ _=>rfl,λ_ _ _ h=>h,λ_ _ _ _=>rfl,λL' f b hb=>.inr ⟨L',f,hb⟩,λi B L' hi f=>?_,rfl,rfl,rfl,rfl⟩;by_cases e:i=l
  .subst e;rw[fO I]at hi;cases hi;exact⟨.dead,L',G,f,rfl⟩
  .rw[kJ (λh=>e h.symm)]at hi;refine⟨_,L',g i B hi e,f,?_⟩;cases B<;>first|exact ic.refl _ _|rfl
 have st:=q2.trans vF;have W:iV σ s l k n es (gB l k n es 0 σ).1 s2:=⟨λv a r=>r.mono st.ext hh.len,λv k' o m r e z=>m4 v k' o m r e z⟩
 refine⟨s2,rfl,⟨C.mem,by rw[qZ,<-hh.len];grind,λi B L' hi f=>?_,C.eZ,C.lt,C.own⟩,st,W⟩;by_cases e:i=l
 .subst e;rw[G]at hi;cases hi;trivial
 .have A:i<σ.length:=by grind[qZ]
  have x:=bg A;have S:s.β[i]?=aa L':=by grind
  have U:=hh.box i _ L' x S;have p:=C.box i _ L' (by rw[kJ (λh=>e h.symm)];exact x) f;have d:=g i _ x e;rw[hi]at d;have d:=kV d;generalize hBe:σ[i]=B0 at *;cases B0 with
  |cells E0 cs =>
   subst d;obtain⟨b,vs,h1,h2,D,Q⟩:=U;obtain⟨q,Wc,H,Wd,_,T⟩:=p;rw[h1]at H;cases H;exact⟨b,vs,h1,h2,W.ls (vE hq x (by omega)) D,T⟩
  |vec=>subst d;exact p
  |cq=>subst d;exact p
  |dead=>subst d;trivial
  |loop N φ r =>
   subst d;obtain⟨l1,tmps,fn,df,h1,h2,D,Q,h5⟩:=p;exact⟨l1,tmps,fn,df,h1,h2,D,λt=>(Q t).mono vF.ext C.len,h5⟩
  |qT=>subst d;exact p
  |buf=>subst d;exact p
end
section
variable {X:Cx P}{φ':Fr}
def AK.rT(l:Nat){E k n:Nat}{es:Nat->List C}{ps qs:List Prop}(hl:eD l σ=aa (.buf E k n es))(i:vD l k n es φ=(φ',ps))(e:gB l k n es 0 σ=(σ',qs))(j:au ps)(m:au qs)(kk:AK X N Qf (.code c::K) .normal φ' σ'):AK X N Qf (.code c::K) .normal φ σ:=by refine AK.ghost (λs a d hh=>?_) kk;obtain⟨s2,h1,h2,b,g⟩:=hh.rT (c7 hl) (by grind);rw[e]at h2 b g;refine⟨s2,h1,⟨d.size,d.defers.imp λ_ h=>h.mono b.ext,λt=>?_⟩,h2,b⟩;have:=g.f hh.len b.ext (φ:=φ) (t:=t) (by grind) (d.slot t);grind
end
def fH(a:Nat->Option Obj):Mem:=λb o=>match a b with
 |some (.cells cs _ _)=>cs[o]?
 |_=>af
def PM(K:Mem->Prop):aj->(Nat->Option Obj)->Prop:=λu a=>u=.nilFunc/\(∀b o,a b=aa o->∃cs E,o=.cells cs E (0,0))/\K (fH a)
section
variable {X:Cx P}{d:List It}
def AK.merge(i j:Nat){H1 H2:aj->(Nat->Option Obj)->Prop}(R:i≠j)(hi:σ[i]?=aa (.cq H1))(hj:σ[j]?=aa (.cq H2))(h1:∀v ch,H1 v ch->v=.nilFunc)(h:∀v f v2 k,H1 v f->H2 v2 k->(∀b,(f b).isSome=ab->(k b).isSome=ab->False)->H .nilFunc λb=>(f b).or (k b))(kk:AK X N Qf (.code c::d) .normal φ ((σ.set i (.cq H)).set j .dead)):AK X N Qf (.code c::d) .normal φ σ:=by
 refine AK.ghost (λs a M hh=>?_) kk;have W:i<σ.length:=(b8.1 hi).1;have V:j<σ.length:=(b8.1 hj).1;have G:i<s.β.length:=by rw[hh.len];grind
 have I:j<s.β.length:=by rw[hh.len];grind
 obtain⟨y,n⟩:∃L,s.β[i]?=aa L:=⟨_,bg G⟩;obtain⟨p,m⟩:∃L,s.β[j]?=aa L:=⟨_,bg I⟩;have Y:=hh.box i _ y hi n;have bj:=hh.box j _ p hj m;have vi:y.v=.nilFunc:=by obtain⟨ch,hH,_⟩:=Y;grind
 let s':St:={s with β:=(s.β.set i ⟨.nilFunc,y.bs++p.bs⟩).set j ⟨p.v,[]⟩}
 have E:∀l,((σ.set i (.cq H)).set j .dead)[l]?=if l=j then aa .dead else if l=i then aa (.cq H)else σ[l]?:=λl=>by grind
 have C:∀l,s'.β[l]?=if l=j then aa ⟨p.v,[]⟩else if l=i then aa ⟨.nilFunc,y.bs++p.bs⟩else s.β[l]?:=λl=>by grind
 have mi:=bL n;have mj:=bL m;have O:∀L∈s'.β,∀b∈L.bs,∃z∈s.β,b∈z.bs:=λL g b hb=>by grind
 have ex:Ext σ s ((σ.set i (.cq H)).set j .dead) s':=by
  refine⟨λ_ _ _ h=>h,λl B L r g=>?_⟩;rw[E,C];by_cases e:l=j
  .subst e;rw[hj]at r;cases r;rw[m]at g;cases g;exact⟨.dead,⟨p.v,[]⟩,by simp,by simp,rfl⟩
  .by_cases F:l=i
   .subst F;rw[hi]at r;cases r;rw[n]at g;cases g;exact⟨.cq H,⟨.nilFunc,y.bs++p.bs⟩,by simp[e],by simp[e],vi.symm⟩
   .exact⟨B,L,by grind,by grind,.refl _ _⟩
 have st:Step σ s ((σ.set i (.cq H)).set j .dead) s' :=
  ⟨ba _,λ_ _ _=>rfl,λ_ _ _ h=>h,λ_ _ _ _=>rfl,λL h b hb=>.inr (O L h b hb),ex.box,rfl,rfl,rfl,rfl⟩
 obtain⟨f,a1,a2,a3,a4⟩:=Y;obtain⟨k,Z,b2,b3,b4⟩:=bj;have S:∀b,(f b).isSome=ab->(k b).isSome=ab->False:=λb J q2=>R (hh.eZ i j y p n m b ((a3 b).2 J) ((b3 b).2 q2));refine⟨s',rfl,⟨M.size,M.defers.imp λ_ h1=>h1.mono ex,λu=>(M.slot u).mono ex hh.len⟩,⟨hh.mem,by simp[s',hh.len],?_,?_,λL g b hb=>?_,λb hb=>⟨(hh.own b hb).1,λL g Q=>?_⟩⟩,st⟩
 .intro l B L r g;rw[E]at r;rw[C]at g;split at r
  .cases r;trivial
  .rename_i e;rw[a9 e]at g;split at r
   .rename_i F;rw[br F]at g;cases r;cases g;refine⟨λb=>(f b).or (k b),h _ f _ k a1 Z S,λb o hb=>?_,λb=>?_,λb hb o=>?_⟩
    .cases h1:f b with
     |some x=>grind
     |none=>grind
    .grind
    grind
   .rename_i F;rw[a9 F]at g;exact(hh.box l B L r g).carry ex hh.len λb hb=>⟨rfl,λ_=>rfl⟩
 .intro l l' L1 L2 J q2 b hb ov;rw[C]at J q2;have key:∀l L,(if l=j then aa (⟨p.v,[]⟩:Loc)else if l=i then aa ⟨.nilFunc,y.bs++p.bs⟩else s.β[l]?)=aa L->b∈L.bs->(l=i/\(b∈y.bs∨b∈p.bs))∨(l≠i/\l≠j/\∃z,s.β[l]?=aa z/\b∈z.bs):=λl L q hb=>by
   split at q
   .grind
   .split at q
    .grind
    grind
  rcases key l L1 J hb with⟨e1,w⟩|⟨n1,K,L3,w,A⟩<;>rcases key l' L2 q2 ov with⟨e2,t⟩|⟨n2,T,L4,t,D⟩
  .grind
  .rcases w with w|w
   .exact absurd (hh.eZ _ _ _ _ n t b w D).symm n2
   .exact absurd (hh.eZ _ _ _ _ m t b w D).symm T
  .rcases t with t|t
   .exact absurd (hh.eZ _ _ _ _ n w b t A).symm n1
   .exact absurd (hh.eZ _ _ _ _ m w b t A).symm K
  .exact hh.eZ _ _ _ _ w t b A D
 .obtain⟨z,U,h1⟩:=O L g b hb;exact hh.lt z U b h1
 .obtain⟨z,U,h1⟩:=O L g b Q;exact(hh.own b hb).2 z U h1
def wz(M M':Mem):Prop:=∀b o v,M b o=aa v->M' b o=aa v
def PM.add{K q:Mem->Prop}{bf:uz}{xs:List aj}(s:∀M M',wz M M'->K M->(∀b cap,bf=.row b cap->∀j v,xs[j]?=aa v->M' b j=aa v)->q M'):
  ∀v c r f,PM K v c->iR E k bf n xs r f->(∀b,(c b).isSome=ab->(f b).isSome=ab->False)->PM q .nilFunc λb=>(c b).or (f b):=by
 rintro v c r f ⟨_,h2,l⟩ t z;have g:wz (fH c) (fH λb=>(c b).or (f b)):=λb o v i=>by
  cases h:c b with
  |none=>simp[fH,h]at i
  |some x=>simpa[fH,h]using i
 cases bf with
 |nil a =>
  obtain⟨_,_,_,_,rfl⟩:=t;exact⟨rfl,λb o hb=>h2 b o (by grind),s _ _ g l λb cap e=>by cases e⟩
 |row b cap =>
  obtain⟨_,q2,q3,q4,w,A,y,rfl⟩:=t;refine⟨rfl,λm o hb=>?_,s _ _ g l λm p e j v hj=>?_⟩
  .cases h:c m with
   |some x=>grind
   |none =>
    grind
  .cases e;have u:c b=af:=by
    cases h:c b with
    |none=>rfl
    |some x=>grind
   have hl:j<xs.length:=(b8.1 hj).1;simp only[fH,u,Option.none_or,bY];grind
def PM.start{xs:List aj}{a:Option Addr}{K:Mem->Prop}(c:∀M,K M):∀v ch,iR E k (.nil a) n xs v ch->PM K v ch:=by rintro v ch ⟨h1,_,_,_,rfl⟩;exact⟨h1,λb o hb=>by grind,c _⟩
def PM.Fx{c:Nat}{K:Mem->Prop}{u:aj}(hl:σ[c]?=aa (.cq (PM K)))(q:∀M,K M->Rd M u (.sl ae k n es)):im σ c u k n es:=by
 intro s hh;have e:c<s.β.length:=by rw[hh.len];grind
 have f:=bg e;generalize s.β[c]=L at f;obtain⟨ch,⟨h1,h2,j⟩,l,m,i⟩:=hh.box c _ L hl f;have g:∀b o v,fH ch b o=aa v->b∈L.bs/\s.w.cell? ⟨b,o,af⟩=aa v:=λb o v a=>by
  cases h:ch b with
  |none=>simp[fH,h]at a
  |some x =>
   obtain⟨cs,E,rfl⟩:=h2 b x h;have p:=l b _ h;simp only[fH,h]at a;exact⟨(m b).2 (by simp[h]),by simpa[aW,p]using a⟩
 refine⟨L,λb o=>(s.M b o).or (fH ch b o),f,λb o v a=>by grind,λb hb o=>?_,λb o v a=>?_,i,(q _ j).mono λb o v a=>?_⟩
 .cases h:fH ch b o with
  |none=>simp[h]
  |some v=>grind
 .cases h:s.M b o with
  |some v'=>simp only[h,Option.some_or]at a;cases a;exact hh.mem b o v h
  |none=>grind
 grind
def iR.T3{bf:uz}{xs:List aj}(hl:σ[l]?=aa (.cq (iR E k bf n xs)))(g:0<n)(s:St)(hh:aD σ s):∃b cap,bf=.row b cap/\n<=cap/\cap<=9223372036854775807:=by
 have c:l<s.β.length:=by rw[hh.len];grind
 obtain⟨ch,e,_⟩:=hh.box l _ _ hl (bg c);cases bf with
 |nil a=>obtain⟨_,_,_,f,_⟩:=e;omega
 |row b cap=>obtain⟨_,_,_,f,h,_⟩:=e;grind
end
section
variable {X:Cx P}
def dO.Bh{f:aK}{args:List D}{a b:C}{ok:Bool}{es:ι->Nat->List C}{K:ι->Mem->Prop}(es':Nat->List C)(h:dO X f args [] (λ_=>.fz [.agg [.bp 0 (.sl n k 0 n),.c a,.c b],.one (.c (.bool ok))]) (λi=>[.buf E k n (es i),.cq (PM (K i))]))(hK:∀i M M',wz M M'->K i M->K i M')(u:∀i M,K i M->∀j,j<n->(es' j).length=k/\∀(p:Nat) (c:C),(es' j)[p]?=aa c->∃N,(es i j)[p]?=aa N/\∀v M0,Rd M0 v N->Rd M v c):
  dO (ι:=aj) X f args [] (λv=>.fz [.agg [.c (.val v),.c a,.c b],.one (.c (.bool ok))]) (λv=>[.dead,.cq (PM λM=>Rd M v (.sl ae k n es'))]):=by
 refine⟨h.1,λs vs hr hh S cs hS=>h.2 s vs hr hh S cs λi fr v s' hl lX jq st=>?_⟩;have hlen:s'.β.length=2:=jq.len;obtain⟨t,L1,R⟩:∃t L1,s'.β=[t,L1]:=by
  match hq:s'.β with
  |[A,B]=>grind
  |[]=>grind
  |[_]=>grind
  |_::_::_::_=>grind
 have T:s'.β[0]?=aa t:=by grind
 have g1:s'.β[1]?=aa L1:=by grind
 obtain⟨ch,⟨p1,p2,p3⟩,p4,p5,p6⟩:=jq.box 1 _ L1 rfl g1;have b0:=jq.box 0 _ t rfl T;obtain⟨ws,rfl,hw⟩:=lX
 match ws,hw with
 |[w0,w1],⟨F,G,_⟩ =>
 obtain⟨us,rfl,I⟩:=F
 match us,I with
 |[u0,u1,u2],⟨H,Y,Z,_⟩ =>
 obtain⟨lv,⟨a',a0,cap,N,rfl,k1,k2,k3,k4,k5⟩,_,hu⟩:=H;obtain⟨_,hu⟩:=hu E k n (es i) rfl;obtain⟨L0',e0,e1⟩:=hu rfl;rw[T]at e0;cases e0;rw[k4]at e1;have abo:∀x,x∈t.bs->x∈L1.bs->False:=λx h1 h2=>absurd (jq.eZ 0 1 t L1 T g1 x h1 h2) (by decide);obtain⟨m,q1,q2,q3,q4⟩:∃m:Nat->Option Obj,(∀x o,m x=aa o->s'.w.heap[x]?=aa o/\∃cs E,o=.cells cs E (0,0))/\(∀x,x∈t.bs↔(m x).isSome=ab)/\(∀x∈t.bs,∀o,s'.M x o=af) /\
   (∀d,(∀x,(m x).isSome=ab->d x=m x)->K i (fH d)->Rd (fH d) (.slice a' n cap) (.sl ae k n es')):=by
  rcases b0 with⟨rfl,rfl⟩|⟨bb,c1,xs,zs,rfl,z1,z2,z3,z4,z5,z6⟩
  .exact⟨λ_=>af,by simp,by simp,by simp,λd _ _=>.sl 0 0 (λ_ _=>ah) k1 (by omega) (λh=>by cases h) (λi hi=>by omega) (λh=>by omega) (λi hi=>by omega) λi hi=>by omega⟩
  .cases e1;refine⟨λx=>if x=bb then aa (.cells (xs++zs).toArray E (0,0))else af,λx o g=>?_,λx=>by by_cases e:x=bb<;>simp[e],λx g o=>?_,λd hc J=>?_⟩
   .grind
   .grind
   .have Q:d bb=aa (.cells (xs++zs).toArray E (0,0)):=by grind
    refine .sl bb 0 (λi' j'=>xs.getD (i'*k+j') ah) k1 (by omega) (λh=>by cases h) (λj hj=>(u i _ J j hj).1) (λh=>?_) (λj hj p c V=>?_) λj hj p c V=>?_
    .grind
    .obtain⟨c2,h1,h2⟩:=(u i _ J j hj).2 p c V;obtain⟨v,v1,v2⟩:=z5.rd j hj p c2 h1;have sS:=(b8.1 v1).1;simp only[fH,Q,hX,bA];grind
    .obtain⟨c2,h1,h2⟩:=(u i _ J j hj).2 p c V;obtain⟨v,v1,v2⟩:=z5.rd j hj p c2 h1;grind
 let d:Nat->Option Obj:=λx=>(ch x).or (m x);have W:∀x,(m x).isSome=ab->d x=m x:=λx g=>by
  have:ch x=af:=by
   cases h:ch x with
   |none=>rfl
   |some y=>grind
  grind
 have O:wz (fH ch) (fH d):=λx o v hv=>by
  cases h:ch x with
  |none=>simp[fH,h]at hv
  |some y=>simpa[fH,h,d]using hv
 let s2:St:={s' with β:=[⟨t.v,[]⟩,⟨.nilFunc,L1.bs++t.bs⟩]}
 have r:∀L∈s2.β,∀x∈L.bs,∃L'∈s'.β,x∈L'.bs:=λL q x g=>by rw[R];simp only[s2,dC,nK,or_false]at q;grind
 have hG:eO s' s2:=⟨rfl,λ_ _ _ h=>h,λ_ _ _=>rfl,jq.mem,λx g=>g.imp id λ⟨L,q,g⟩=>r L q x g⟩
 refine .ghost hG (hS (.slice a' n cap) fr _ s2 (hl.mono λ_ _ _ h=>h) ⟨_,rfl,⟨_,rfl,Rd.val rfl,Y,Z,ar⟩,G,ar⟩ ⟨jq.mem,rfl,λl B L z q=>?_,λl l' A B h1 h2 x g Ps=>?_,λL q x g=>?_,λx g=>⟨(jq.own x g).1,λL q U=>?_⟩⟩
  ⟨st.size,st.keep,st.mem,λx g hn o=>st.iO x g hn o,λL q x g=>?_,λl B L z=>by grind,st.os,st.tape,st.output,st.own⟩)
 .match l,z,q with
  |0,z,q=>cases z;trivial
  |1,z,q =>
   cases z;cases q;refine⟨d,⟨rfl,λx o g=>?_,q4 d W (hK i _ _ O p3)⟩,λx o g=>?_,λx=>?_,λx g o=>?_⟩
   .cases h:ch x with
    |some y=>simp only[d,h,Option.some_or]at g;exact p2 x o (h.trans g)
    |none=>simp only[d,h,Option.none_or]at g;exact(q1 x o g).2
   .cases h:ch x with
    |some y=>grind
    |none=>grind
   .grind
   grind
  |l+2,z,q=>grind
 .match l,l',h1,h2 with
  |0,0,_,_=>rfl
  |1,1,_,_=>rfl
  |0,1,h1,_=>grind
  |1,0,_,h2=>grind
  |l+2,_,h1,_=>grind
  |_,l+2,_,h2=>grind
 .obtain⟨L',h1,h2⟩:=r L q x g;exact jq.lt L' h1 x h2
 .obtain⟨L',h1,h2⟩:=r L q x U;exact(jq.own x g).2 L' h1 h2
 .obtain⟨L',h1,h2⟩:=r L q x g;exact st.uW L' h1 x h2
end
section
variable {X:Cx P}{c:Type}{x:c->Nat->D}{S:c->(Nat->Bool)->List bm}{Inv:c->(Nat->Bool)->Prop}
def hI(X:Cx P)(N:Nat)(all:List aB)(φ:Fr){c:Type}(x:c->Nat->D)(S:c->(Nat->Bool)->List bm)(Inv:c->(Nat->Bool)->Prop)(i:Nat)(o:aB):Prop :=
 ∀b (D:Nat->Bool),Inv b D->(∀j,fT all i j=ab->D j=ab)->(∀j,(j=i∨fT all j i=ab)->D j=ae)->qj X N all o (j8 all φ (x b) i) (S b D) (λq:{a:c // (∀j,D j=ab->x a j=x b j)/\Inv a (eu i D)}=>x q.1 i) (λq=>S q.1 (eu i D))
def Jb{P:aO}(X:Cx P)(N:Nat)(all:List aB)(φ:Fr){c:Type}(x:c->Nat->D)(S:c->(Nat->Bool)->List bm)(Inv:c->(Nat->Bool)->Prop):List aB->Nat->Prop
 |[],_=>True
 |o::r,i=>hI X N all φ x S Inv i o/\Jb X N all φ x S Inv r (i+1)
theorem Jb.get{all:List aB}:∀{l:List aB}{k:Nat},Jb X N all φ x S Inv l k->∀i o,l[i]?=aa o->hI X N all φ x S Inv (k+i) o
 |[],_,_,i,o,h=>by grind
 |p::r,k,h,0,o,ho=>by simp at ho;subst ho;exact h.1
 |p::r,k,h,i+1,o,ho=>by have:=Jb.get h.2 i o (by grind);grind
def AK.QO{id:Nat}(p:P.follows Departure.mixedOrders=ab)(x:c->Nat->D)(S:c->(Nat->Bool)->List bm)(Inv:c->(Nat->Bool)->Prop)(d:c)(m:Inv d λ_=>ae)(n:S d (λ_=>ae)=σ)(e:m6 ops.toList=ab)(b:tV ops.toList 0=ab)(f:pe N ops.toList=ab)(one:Jb X N ops.toList φ x S Inv ops.toList 0)(k:∀a D,Inv a D->(∀i,i<ops.toList.length->D i=ab)->AK X N Qf K .normal (Nn ops.toList φ (x a)) (S a D)):AK X N Qf (.code (.region id ops ab)::K) .normal φ σ:=by
 have:=AW.reg (X:=X) (N:=N) (φ:=φ) (σ:=σ) p (all:=ops.toList) ops.toList.length x S Inv d m n e b f (ba _)
  (λi h1 h2=>absurd h2 (ma.2 h1)) (λa D _ _ i h1 h2=>absurd h2 (ma.2 h1))
  (λa D i o l ho _ j h g=>by have h1:=one.get i o ho;rw[bA]at h1;exact h1 a D l (vV g i o ho h) (FL g j))
  (Q:=AK X N Qf K) (λa D l q=>by rw[rF];exact .nil (k a D l q)) id
 rw[qR]at this;exact this
theorem hI.of(h:∀d (D:Nat->Bool),Inv d D->(∀j,fT all i j=ab->D j=ab)->(∀j,(j=i∨fT all j i=ab)->D j=ae)->Inv d (eu i D)/\OA X N all o (j8 all φ (x d) i) (S d D) (x d i) (S d (eu i D))):hI X N all φ x S Inv i o:=by intro d D g h1 h2 s a f hh b k cs SS idx rest hb hi hK;obtain⟨e,q2⟩:=h d D g h1 h2;exact q2 s a f hh b k cs SS idx rest hb hi λv s' r1 r2 r3=>hK ⟨d,λ_ _=>rfl,e⟩ v s' r1 r2 r3
def hI.ofI(h:∀e (D:Nat->Bool),Inv e D->(∀j,fT all i j=ab->D j=ab)->(∀j,(j=i∨fT all j i=ab)->D j=ae) ->
  ∃(ι:Type) (y:ι->Go.AM.D) (σ':ι->List bm),qj X N all o (j8 all φ (x e) i) (S e D) y σ'/\∀j,∃d,((∀q,D q=ab->x d q=x e q)/\Inv d (eu i D))/\y j=x d i/\σ' j=S d (eu i D)):hI X N all φ x S Inv i o:=by intro e D l h1 h2 s a f hh b k cs SS idx rest hb hi hK;obtain⟨ι,y,σ',g,q2⟩:=h e D l h1 h2;refine g s a f hh b k cs SS idx rest hb hi λj v s' r1 r2 r3=>?_;obtain⟨d,m,p2,p3⟩:=q2 j;rw[p2]at r1;rw[p3]at r1 r2 r3;exact hK ⟨d,m⟩ v s' r1 r2 r3
end
section
variable {X:Cx P}{x:Option ι->Nat->D}{s:Option ι->Bool->Bool->Bool->List bm}{m f e d:Nat}
abbrev SO(s:Option ι->Bool->Bool->Bool->List bm)(f e d:Nat):Option ι->(Nat->Bool)->List bm:=λa D=>s a (D f) (D e) (D d)
abbrev vW(ι:Type)(m:Nat):Option ι->(Nat->Bool)->Prop:=λa D=>a.isSome=D m
def hI.quiet(hm:av m i=ae)(h1:av f i=ae)(h2:av e i=ae)(j:av d i=ae)(h:∀g a b c,OA X N all o (j8 all φ (x g) i) (s g a b c) (x g i) (s g a b c)):
  hI X N all φ x (SO s f e d) (vW ι m) i o:=by grind[hI.of,ra]
def hI.QP(hm:av m i=ae)(h1:av f i=ae)(h2:av e i=ae)(l:av d i=ae)(p:fT all i m=ab)(h:∀j a b c,OA X N all o (j8 all φ (x (aa j)) i) (s (aa j) a b c) (x (aa j) i) (s (aa j) a b c)):
  hI X N all φ x (SO s f e d) (vW ι m) i o:=by
 refine hI.of λg D q n _=>⟨?_,?_⟩
 .grind [ra]
 .show OA X N all o _ (s g (D f) (D e) (D d)) _ (s g (eu i D f) (eu i D e) (eu i D d));rw[ra h1,ra h2,ra l];have k:=n m p;cases g with
  |none=>grind
  |some j=>exact h _ _ _ _
def hI.qo(k:dg P T)(hC:bG X CT)(ho:au obs)(h:∀g a b c,vJ T CT [] all (j8 all φ (x g) i) (s g a b c) o=aa (x g i,af,obs):=by intro g a b c;cases g<;>cases a<;>cases b<;>cases c<;>rfl)(hm:av m i=ae:=by rfl)(h1:av f i=ae:=by rfl)(h2:av e i=ae:=by rfl)(j:av d i=ae:=by rfl):hI X N all φ x (SO s f e d) (vW ι m) i o:=.quiet hm h1 h2 j λg a b c=>OA.eval k hC (h g a b c) ho
def hI.qe(k:dg P T)(hC:bG X CT)(h:∀g a b c,vJ T CT [] all (j8 all φ (x g) i) (s g a b c) o=aa (x g i,af,[]):=by intro g a b c;cases g<;>cases a<;>cases b<;>cases c<;>rfl)(hm:av m i=ae:=by rfl)(h1:av f i=ae:=by rfl)(h2:av e i=ae:=by rfl)(j:av d i=ae:=by rfl):hI X N all φ x (SO s f e d) (vW ι m) i o:=.qo (obs:=[]) k hC ar h hm h1 h2 j
def hI.qs(k:dg P T)(hC:bG X CT)(h:∀j a b c,vJ T CT [] all (j8 all φ (x (aa j)) i) (s (aa j) a b c) o=aa (x (aa j) i,af,[]):=by intro j a b c;cases a<;>cases b<;>cases c<;>rfl)(hm:av m i=ae:=by rfl)(h1:av f i=ae:=by rfl)(h2:av e i=ae:=by rfl)(l:av d i=ae:=by rfl)(g:fT all i m=ab:=by rfl):hI X N all φ x (SO s f e d) (vW ι m) i o:=.QP hm h1 h2 l g λj a b c=>OA.dw k hC (h j a b c)
def hI.WE(hm:av m e=ae)(h1:av f e=ae)(g:av d e=ae)(c:fT all d e=ab)(h:∀b a,OA X N all o (j8 all φ (x b) e) (s b a ae ae) (x b e) (s b a ab ae)):hI X N all φ x (SO s f e d) (vW ι m) e o:=by grind[hI.of,ra,BK]
def hI.WG(hm:av m d=ae)(h1:av f d=ae)(h2:av e d=ae)(g:fT all d m=ab)(k:fT all d f=ab)(n:fT all d e=ab)(h:∀j,OA X N all o (j8 all φ (x (aa j)) d) (s (aa j) ab ab ae) (x (aa j) d) (s (aa j) ab ab ab)):hI X N all φ x (SO s f e d) (vW ι m) d o:=by
 refine hI.of λc D l b i=>?_;have a:=b m g;cases c with
 |none=>grind
 |some j =>
  grind[ra,BK]
end
section
variable {X:Cx P}{d:List It}
def dO.T4{f:aK}{args:List D}{H:ι->aj->(Nat->Option Obj)->Prop}(h:dO X f args [] res (λi=>[.dead,.cq (H i)]))(y:∀i v ch,H i v ch->v=.nilFunc)(F:∀i,iK [] (res i)=res i)(j:∀i,vA 0 (res i)=ab)(x:lZ 0 args=ab)(p:gG [] args=args):
  dO X f args [.cq (iR E k (.nil af) 0 [])] res (λi=>[.cq (H i)]):=by
 refine⟨h.1,λs vs hr hh S cs hS=>?_⟩;have u:s.β.length=1:=hh.len;obtain⟨e,z⟩:∃e,s.β=[e]:=by
  match N:s.β with
  |[A]=>grind
  |[]=>grind
  |_::_::_=>grind
 have w:s.β[0]?=aa e:=by grind
 obtain⟨I,c1,c2,c3,c4⟩:=hh.box 0 _ e rfl w;obtain⟨O,_,_,_,rfl⟩:=c1;have J:∀b,b∉e.bs:=λb hb=>by grind
 let g:St:={s with β:=[]}
 have K:eO s g:=⟨rfl,λ_ _ _ h=>h,λ_ _ _=>rfl,hh.mem,λb hb=>hb.imp id λ⟨L,a,_⟩=>by grind⟩
 have m:aD [] g:=⟨hh.mem,rfl,by simp,by grind,by grind,λb hb=>⟨(hh.own b hb).1,by grind⟩⟩
 have c:cn [] g vs args:=by rw[<-p]at hr;exact cn.sub (ks:=[]) (σ:=[.cq (iR E k (.nil af) 0 [])]) (σ':=[]) (s:=s) (β':=[]) rfl rfl hr x
 refine .ghost K (h.2 g vs c m S cs λi fr v s' hl lX jq st=>?_);have r:s'.β.length=2:=jq.len;obtain⟨A,B,t⟩:∃A B,s'.β=[A,B]:=by
  match N:s'.β with
  |[A,B]=>grind
  |[]=>grind
  |[_]=>grind
  |_::_::_::_=>grind
 have M:s'.β[1]?=aa B:=by grind
 obtain⟨ch,d1,d2,d3,d4⟩:=jq.box 1 _ B rfl M;have G:=y i _ _ d1;let s2:St:={s' with β:=[B]}
 have hm:∀L∈s2.β,L∈s'.β:=λL a=>by grind
 have q:eO s' s2:=⟨rfl,λ_ _ _ h=>h,λ_ _ _=>rfl,jq.mem,λb hb=>hb.imp id λ⟨L,a,hb⟩=>⟨L,hm L a,hb⟩⟩
 have n:dm [.cq (H i)] s2 v (res i):=by rw[<-F i]at lX;have:=dm.sub (ks:=[]) (σ:=[.dead,.cq (H i)]) (σ':=[]) (s:=s') (β':=[]) rfl rfl lX (j i);exact this.mono (σ:=[]) (s:={s' with β:=[]}) (σ':=[.cq (H i)]) (s':=s2) ⟨λ_ _ _ h=>h,λl B L G=>by grind⟩ rfl
 refine .ghost q (hS i fr v s2 (hl.mono λ_ _ _ h=>h) n ⟨jq.mem,rfl,λl C L hC a=>?_,λl l' C D h1 h2 b hb ov=>?_,λL a b hb=>jq.lt L (hm L a) b hb,λb hb=>⟨(jq.own b hb).1,λL a=>(jq.own b hb).2 L (hm L a)⟩⟩
  ⟨st.size,st.keep,st.mem,λb hb _ o=>st.iO b hb (by grind) o,λL a b hb=>?_,λl C L hC a=>?_,st.os,st.tape,st.output,st.own⟩)
 .match l,hC,a with
  |0,hC,a=>cases hC;cases a;exact⟨ch,d1,d2,d3,d4⟩
  |l+1,hC,_=>grind
 .match l,l',h1,h2 with
  |0,0,_,_=>rfl
  |l+1,_,h1,_=>grind
  |_,l+1,_,h2=>grind
 .rcases st.uW L (hm L a) b hb with h1|⟨L1,h1,_⟩
  .grind
  grind
 .match l,hC,a with
  |0,hC,a =>
   cases hC;rw[w]at a;cases a;exact⟨_,B,rfl,rfl,by show B.v=e.v;grind⟩
  |l+1,hC,_=>grind
def AK.NG(l i j:Nat){K:Mem->Prop}{E0:aw}{cs:List A}{Q cl:C}(Vz:l≠i)(hl:eD l σ=aa (.cq (PM K)))(hi:eD i σ=aa (.cells E0 cs))(hj:eD j cs=aa (.c Q))(Y:∀M M',K M->wz M M'->∀v,Rd M' v Q->Rd M' v cl)(kk:AK X N Qf (.code c::d) .normal φ ((σ.set l (.cq (iR E k (.nil af) 0 []))).set i (.cells E0 (cs.set j (.c cl))))):AK X N Qf (.code c::d) .normal φ σ:=by
 refine AK.ghost (λs a I hh=>?_) kk;have hl:=c7 hl;have hi:=c7 hi;have hJ:=c7 hj;have z:l<s.β.length:=by rw[hh.len];grind
 have J:=bg z;generalize s.β[l]=L at J;obtain⟨ch,⟨h1,h2,S⟩,U,W,R⟩:=hh.box l _ L hl J;let M':Mem:=λb o=>(s.M b o).or (fH ch b o);have r:∀b o v,fH ch b o=aa v->b∈L.bs/\s.w.cell? ⟨b,o,af⟩=aa v:=λb o v f=>by
  cases h:ch b with
  |none=>simp[fH,h]at f
  |some x =>
   obtain⟨cs,E,rfl⟩:=h2 b x h;have hw:=U b _ h;simp only[fH,h]at f;exact⟨(W b).2 (by simp[h]),by simpa[aW,hw]using f⟩
 have m1:∀b o v,s.M b o=aa v->M' b o=aa v:=λb o v f=>by grind
 have m2:∀b,b∉L.bs->∀o,M' b o=s.M b o:=λb hb o=>by
  cases h:fH ch b o with
  |none=>grind
  |some v=>grind
 have m3:∀b o v,M' b o=aa v->s.w.cell? ⟨b,o,af⟩=aa v:=λb o v f=>by
  cases h:s.M b o with
  |some v'=>simp only[M',h,Option.some_or]at f;cases f;exact hh.mem b o v h
  |none=>grind
 have m4:=Y _ M' S λb o v f=>by have:=R b (r b o v f).1 o;simp[M',this,f]
 obtain⟨n,q2⟩:=hh.ig (M':=M') (w':=s.w) (B':=.cq (iR E k (.nil af) 0 [])) (L':=⟨.nilFunc,[]⟩) hl J h1.symm (ba _) (λ_ _ _=>rfl) (λb _ hb o=>m2 b hb o) m1 m3 (by simp) rfl rfl rfl
  ⟨λ_=>af,⟨rfl,by simp,by simp,rfl,rfl⟩,by simp,by simp,by simp⟩
 have q:(σ.set l (.cq (iR E k (.nil af) 0 [])))[i]?=aa (.cells E0 cs):=by grind
 generalize YQ:(⟨s.β.set l ⟨.nilFunc,[]⟩,M',s.w,s.own⟩:St)=s1 at n q2;have F:i<s1.β.length:=by rw[n.len];grind
 have g:=bg F;generalize s1.β[i]=L2 at g;obtain⟨b,vs,O,m,y,hM⟩:=n.box i _ L2 q g;obtain⟨u,hu,V⟩:=y.get hJ;have D:s1.M=M':=by grind
 have H:s1.β.set i L2=s1.β:=by apply gQ;grind
 obtain⟨T,Z⟩:=n.ig (M':=s1.M) (w':=s1.w) (B':=.cells E0 (cs.set j (.c cl))) (L':=L2) q g rfl (ba _) (λ_ _ _=>rfl) (λ_ _ _ _=>rfl) (λ_ _ _ h=>h) n.mem (λb hb=>⟨.inl hb,n.lt L2 (bL g) b hb⟩) rfl rfl rfl (by
   rw[H];have ex:Ext (σ.set l (.cq (iR E k (.nil af) 0 []))) s1 ((σ.set l (.cq (iR E k (.nil af) 0 []))).set i (.cells E0 (cs.set j (.c cl)))) s1:=by
    refine⟨λ_ _ _ h=>h,λp B L t G=>?_⟩;by_cases e:i=p
    .subst e;rw[q]at t;cases t;exact⟨_,L,fO (by grind),G,rfl⟩
    .exact⟨B,L,by grind,G,.refl _ _⟩
   refine⟨b,vs,O,m,eb.set (y.mono ex n.len) hu ?_,hM⟩;show Rd s1.M u cl;rw[D];exact m4 u (D▸V))
 have st:=q2.trans Z;exact⟨_,by grind,⟨I.size,I.defers.imp λ_ h1=>h1.mono st.ext,λu=>(I.slot u).mono st.ext hh.len⟩,T,st⟩
def AK.tq(l i j:Nat){K:Mem->Prop}{E0:aw}{cs:List A}{cl:C}(a:l≠i)(hl:eD l σ=aa (.cq (PM K)))(hi:eD i σ=aa (.cells E0 cs))(hj:eD j cs=aa (.c (.val v)))(b:∀M,K M->Rd M v cl)(kk:AK X N Qf (.code c::d) .normal φ ((σ.set l (.cq (iR E k (.nil af) 0 []))).set i (.cells E0 (cs.set j (.c cl))))):AK X N Qf (.code c::d) .normal φ σ :=
 AK.NG l i j a hl hi hj (λ_ _ h le _ r=>by rw[Rd.fu r];exact(b _ h).mono le) kk
end
section
variable {X:Cx P}{n:List It}
def AK.T5(l i j:Nat){E0:aw}{W:Nat}{cs:List A}{H:Nat->List C}(k1:Nat)(D2:Nat->List C)(Vz:l≠i)(hl:eD l σ=aa (.cq (iR E k (.nil af) 0 [])))(hi:eD i σ=aa (.cells E0 cs))(hj:eD j cs=aa (.c (.sl ab W 0 H)))(kk:∀v,AK X N Qf (.code c::n) .normal φ ((σ.set l (.cq (PM λM=>Rd M v (.sl ae k1 0 D2)))).set i (.cells E0 (cs.set j (.c (.val v)))))):AK X N Qf (.code c::n) .normal φ σ:=by
 refine AW.DH (ι:=aj) (φ':=λ_=>φ) (σ':=λv=>(σ.set l (.cq (PM λM=>Rd M v (.sl ae k1 0 D2)))).set i (.cells E0 (cs.set j (.c (.val v))))) (λs a R hh=>?_) kk;have hl:=c7 hl;have hi:=c7 hi;have hJ:=c7 hj;have o:i<s.β.length:=by rw[hh.len];grind
 have z:=bg o;generalize s.β[i]=Li at z;obtain⟨b0,vs0,hLb,O,K,_⟩:=hh.box i _ Li hi z;obtain⟨v,Qg,U⟩:=K.get hJ;obtain⟨a0,cap,vs1,rfl,n1,n2,_,_,_⟩:=(show Rd s.M v (.sl ab W 0 H)from U).flat;have hK:∀M:Mem,Rd M (.slice a0 0 cap) (.sl ae k1 0 D2):=λM=>.sl 0 0 (λ_ _=>ah) n1 n2 (λh=>by cases h) (λi hi=>by omega) (λh=>by omega) (λi hi=>by omega) λi hi=>by omega
 have G:l<s.β.length:=by rw[hh.len];grind
 have Q:=bg G;generalize s.β[l]=L at Q;obtain⟨ch,hs,h4,h5,Z⟩:=hh.box l _ L hl Q;obtain⟨y,q2⟩:=hh.ig (M':=s.M) (w':=s.w) (B':=.cq (PM λM=>Rd M (.slice a0 0 cap) (.sl ae k1 0 D2))) (L':=L) hl Q rfl (ba _) (λ_ _ _=>rfl) (λ_ _ _ _=>rfl) (λ_ _ _ h=>h) hh.mem (λb hb=>⟨.inl hb,hh.lt L (bL Q) b hb⟩) rfl rfl rfl
  ⟨ch,PM.start hK _ _ hs,h4,h5,Z⟩
 have r:(σ.set l (.cq (PM λM=>Rd M (.slice a0 0 cap) (.sl ae k1 0 D2))))[i]?=aa (.cells E0 cs):=by grind
 generalize YQ:(⟨s.β.set l L,s.M,s.w,s.own⟩:St)=s1 at y q2;have Y:i<s1.β.length:=by grind
 have t:s1.β[i]?=aa Li:=by grind
 obtain⟨b,vs,T,q,S,hM⟩:=y.box i _ Li r t;have J:s1.β.set i Li=s1.β:=by apply gQ;grind
 have V:vs[j]?=aa (.slice a0 0 cap):=by grind
 obtain⟨t1,t2⟩:=y.ig (M':=s1.M) (w':=s1.w) (B':=.cells E0 (cs.set j (.c (.val (.slice a0 0 cap))))) (L':=Li) r t rfl (ba _) (λ_ _ _=>rfl) (λ_ _ _ _=>rfl) (λ_ _ _ h=>h) y.mem (λb hb=>⟨.inl hb,y.lt Li (bL t) b hb⟩) rfl rfl rfl (by
   rw[J];have ex:Ext (σ.set l (.cq (PM λM=>Rd M (.slice a0 0 cap) (.sl ae k1 0 D2)))) s1 ((σ.set l (.cq (PM λM=>Rd M (.slice a0 0 cap) (.sl ae k1 0 D2)))).set i (.cells E0 (cs.set j (.c (.val (.slice a0 0 cap)))))) s1:=by
    refine⟨λ_ _ _ h=>h,λp B L F I=>?_⟩;by_cases e:i=p
    .subst e;rw[r]at F;cases F;exact⟨_,L,fO (by grind),I,rfl⟩
    .exact⟨B,L,by grind,I,.refl _ _⟩
   exact⟨b,vs,T,q,eb.set (S.mono ex y.len) V (Rd.val rfl),hM⟩)
 have st:=q2.trans t2;exact⟨.slice a0 0 cap,_,by grind,⟨R.size,R.defers.imp λ_ h1=>h1.mono st.ext,λu=>(R.slot u).mono st.ext hh.len⟩,t1,st⟩
end
section
variable {X:Cx P}{x:Option ι->Nat->D}{s:Option ι->Bool->Bool->Bool->List bm}{m f g d:Nat}
def hI.pre(hm:av m f=ae)(h2:av g f=ae)(q:av d f=ae)(l:fT all m f=ab)(c:fT all d f=ab)(h:∀b,OA X N all o (j8 all φ (x af) f) (s af ae b ae) (x af f) (s af ab b ae)):hI X N all φ x (SO s f g d) (vW ι m) f o:=by
 refine hI.of λk D t r a=>?_;have e:=a m (.inr l);have p:=a d (.inr c);have i:=a f (.inl rfl);cases k with
 |some j=>grind
 |none=>grind[ra,BK]
def hI.Xi(h1:av f m=ae)(h2:av g m=ae)(v:av d m=ae)(k:fT all m f=ab)(e:fT all d m=ab)(r:∀j q,q=m∨fT all q m=ab∨x (aa j) q=x af q)(h:∀b,qj X N all o (j8 all φ (x af) m) (s af ab b ae) (λj=>x (aa j) m) (λj=>s (aa j) ab b ae)):hI X N all φ x (SO s f g d) (vW ι m) m o:=by
 refine hI.ofI λc D w l a=>?_;have i:=a m (.inl rfl);have p:=l f k;have u:=a d (.inr e);have t:c=af:=by
  cases c with
  |none=>rfl
  |some j=>grind
 grind[BK,ra]
def hI.last(hm:av m d=ae)(h1:av f d=ae)(h2:av g d=ae)(a:fT all d m=ab)(b:fT all d f=ab)(c:fT all d g=ab)(h:∀j,OA X N all o (j8 all φ (x (aa j)) d) (s (aa j) ab ab ae) (x (aa j) d) (s (aa j) ab ab ab)):hI X N all φ x (SO s f g d) (vW ι m) d o:=.WG hm h1 h2 a b c h
end
theorem Rd.Hd{t:Bool}(h:Rd M v (.sl t k n es)):∃a cap b off,v=.slice a n cap/\n<=cap/\cap<=9223372036854775807/\(0<n->a=aa ⟨b,off,af⟩)/\(∀i,i<n->(es i).length=k)/\∀i,i<n->∀j c,(es i)[j]?=aa c->∃u,M b (off+i*k+j)=aa u/\Rd M u c:=by
 cases h with
 |@sl a _ cap _ _ _ b off f e hb ht hk ha hm hr=>exact⟨a,cap,b,off,rfl,e,hb,ha,hk,λi hi j c hj=>⟨_,hm i hi j c hj,hr i hi j c hj⟩⟩
def Rd.T6{a:Option Addr}{cap:Nat}(h1:n<=cap)(h2:cap<=9223372036854775807)(f:0<n->a=aa ⟨b,off,af⟩)(e:∀i,i<n->(es i).length=k)(g:∀i,i<n->∀j c,(es i)[j]?=aa c->∃u,M b (off+i*k+j)=aa u/\Rd M u c):Rd M (.slice a n cap) (.sl ae k n es):=by
 refine .sl b off (λi j=>(M b (off+i*k+j)).getD ah) h1 h2 (λh=>by cases h) e f (λi hi j c hj=>?_) λi hi j c hj=>?_
 .grind
 grind
section
variable {X:Cx P}{d:List It}
def AK.T7{b:List It}(φ':ι->Fr)(σ':ι->List bm)(h:(∀(i:ι)(a:Fr)(ps:List Prop),qC a (φ' i)=aa ps->au ps->AK X N Qf (.code c::b) .normal a (σ' i))->AK X N Qf K .normal φ σ)(k:∀i,AK X N Qf (.code c::b) .normal (φ' i) (σ' i)):AK X N Qf K .normal φ σ :=
 h λi _ _ h1 h2=>AW.le (k i) (dj h1 h2)
def jF.agg{ds:List D}(p q x:Nat){cs:List A}{u:aj}(F:ds[p]?=aa (.e (.agg cs)))(J:cs[q]?=aa (.c (.val u)))(hl:im σ x u k n es):jF σ ds (ds.set p (.e (.agg (cs.set q (.c (.sl ae k n es)))))):=by
 intro s vs hh hr;obtain⟨L,o,i,w,E,I,H,z⟩:=hl s hh;refine⟨λb=>b∈L.bs,o,λb hb=>⟨L,bL i,hb⟩,w,E,I,H,?_⟩;have e1:Ext σ s σ {s with M:=o}:=⟨w,λl B L G i=>⟨B,L,G,i,.refl _ _⟩⟩
 have t:=hr.mono e1 hh.len;obtain⟨C,m⟩:=cn.get t;have f:p<vs.length:=by grind
 have a:=m p;rw[F,bg f]at a;obtain⟨y,r,g⟩:=a;obtain⟨v,h,j⟩:=g.get J;rw[Rd.fu (show Rd o v (.val u)from j)]at h;refine cn.setAt t (bg f) ⟨y,r,eb.set g h z⟩
theorem PM.of{K:Mem->Prop}{p:Prop}(hl:σ[l]?=aa (.cq (PM K)))(h:∀M,K M->p)(s:St)(hh:aD σ s):p:=by
 have a:l<s.β.length:=by rw[hh.len];grind
 obtain⟨ch,⟨_,_,b⟩,_⟩:=hh.box l _ _ hl (bg a);grind
def jR.Q9(F:dg P T)(l:Nat){K:Mem->Prop}{i:TI}(h:o.op=.load t x)(hi:bH T t=aa i)(J:∀v,mM i [.c (.val v)]=aa (.one (.c (.val v))))(R:bO φ x=.e (.one (.v (.pointer (aa ⟨b,off,af⟩)))))(hl:σ[l]?=aa (.cq (PM K)))(U:∀M,K M->∃w,M b off=aa w/\cZ w=ab):jR P N o φ σ (λw:aj=>.e (.one (.v w))) (λw=>σ.set l (.cq (PM λM=>K M/\M b off=aa w))):=by
 intro s a Q hh;have r:=c8 Q x;rw[R]at r;have r:=Rd.fu r;have k:l<s.β.length:=by rw[hh.len];grind
 have u:=bg k;generalize s.β[l]=L at u;obtain⟨ch,⟨h1,h2,D⟩,G,H,W⟩:=hh.box l _ L hl u;obtain⟨w,A,S⟩:=U _ D;obtain⟨cs,E,B,C⟩:∃cs E,ch b=aa (.cells cs E (0,0))/\cs[off]?=aa w:=by
  cases e:ch b with
  |none=>simp[fH,e]at A
  |some x =>
   obtain⟨cs,E,rfl⟩:=h2 b x e;exact⟨cs,E,rfl,by simpa[fH,e]using A⟩
 have y:b∈L.bs:=(H b).2 (by grind);have m:=G b _ B;obtain⟨O,V⟩:=hh.iJ (l:=l) (H':=PM λM=>K M/\M b off=aa w) (L':=L) (w':=s.w) hl u rfl (ba _) (λ_ _ _=>rfl) (λ_ hb=>.inl hb) ⟨ch,⟨h1,h2,D,A⟩,G,H⟩ rfl rfl rfl;have f:∀(j:Nat) (v:aj),[w][j]?=aa v->s.w.cell? ⟨b,off+j,af⟩=aa v:=by
  intro j v hj
  match j,hj with
  |0,hj=>cases hj;simp[aW,m,C]
 obtain⟨v,g,z⟩:=ml (s:=⟨s.β.set l L,s.M,s.w,s.own⟩) (σ:=σ.set l (.cq (PM λM=>K M/\M b off=aa w))) (P:=P) (F t i hi) (b:=b) (off:=off) (vs:=[w]) (cs:=[.c (.val w)]) f ⟨Rd.val S,ar⟩ (J w);have g:(loadVar t ⟨b,off,af⟩).run P s.w=.ok v s.w:=g;have e1:ak a.eval o=(do pure (.value (<-loadVar t ⟨b,off,af⟩))):=by simp[ak,h,r,Instr.loadAt,Instr.sureAddr]
 refine⟨w,.value v,_,v,by rw[e1];simp[g],.inl rfl,z,O,V,λI q=>?_⟩;rw[e1]at q;have p:I∈(loadVar t ⟨b,off,af⟩).events P s.w #[]:=by simpa[g]using q
 obtain⟨j,hj,rfl⟩:=ja (F t i hi) (n:=1) (λj hj=>⟨w,f j w (by grind)⟩) (by have:=o7 (J w);grind) I p;exact oX (bL u) y
def Mem.up(M:Mem)(b o:Nat)(u:aj):Mem:=λa c=>if a=b/\c=o then aa u else M a c
def jR.F2(Y:dg P T)(l:Nat){K:Mem->Prop}{c:C}{i:TI}(h:o.op=.store t x y)(hi:bH T t=aa i)(YQ:i.size=1)(hx:bO φ x=.e (.one (.v (.pointer (aa ⟨b,off,af⟩)))))(hy:bO φ y=.e (.one (.c c)))(hg:uy c=ab)(hl:σ[l]?=aa (.cq (PM K)))(hK:∀M,K M->∃w,M b off=aa w):jR P N o φ σ (ι:={u:aj // ∀M,Rd M u c}) (λ_=>.any) (λu=>σ.set l (.cq (PM λM'=>∃M,K M/\M'=M.up b off u.1))):=by
 intro s a W hh;have A:=c8 W x;rw[hx]at A;have A:=Rd.fu A;have g:=lq (show kN (bO φ y)=aa [.c c] by rw[hy];rfl) (c8 W y);generalize F:(a.eval y).cells.toList=vs at g;obtain⟨u,rfl⟩:∃u,vs=[u]:=by
  match vs,g with
  |[u],_=>grind
  |_::_::_,h=>exact h.2.elim
 have hu:Rd s.M u c:=g.1;have U:∀M,Rd M u c:=λM=>qd hg hu;have G:l<s.β.length:=by rw[hh.len];grind
 have S:=bg G;generalize s.β[l]=L at S;obtain⟨ch,⟨h1,h2,V⟩,h4,h5,h6⟩:=hh.box l _ L hl S;obtain⟨w,Z⟩:=hK _ V;obtain⟨cs,E,R,TR⟩:∃cs E,ch b=aa (.cells cs E (0,0))/\cs[off]?=aa w:=by
  cases e:ch b with
  |none=>simp[fH,e]at Z
  |some x =>
   obtain⟨cs,E,rfl⟩:=h2 b x e;exact⟨cs,E,rfl,by simpa[fH,e]using Z⟩
 have B:b∈L.bs:=(h5 b).2 (by grind);have k:=h4 b _ R;have q:off<cs.size:=by grind
 have z:=run_storeCells_at P b off E [u] 0 cs s.w k (show off+0+1<=cs.size from q) g.cell;simp only[ia,ey]at z;have Q:=setRow_heap s.w b cs (cs.toList.take off++[u]++cs.toList.drop (off+1)).toArray E (0,0) k;generalize J:(cs.toList.take off++[u]++cs.toList.drop (off+1)).toArray=VM at z Q;have D:∀j,VM[j]?=if j=off then aa u else cs[j]?:=λj=>by rw[<-J];grind
 have H:∀f O,fH (λf=>if f=b then aa (.cells VM E (0,0))else ch f) f O=(fH ch).up b off u f O:=λf O=>by
  by_cases e:f=b
  .subst e;simp only[fH,bY,Mem.up,aF,R,D]
  .simp only[fH,a9 e,Mem.up,e,false_and,bS]
 obtain⟨t1,t2⟩:=hh.iJ (l:=l) (H':=PM λM'=>∃M,K M/\M'=M.up b off u) (L':=L) (w':=s.w.setRow b VM) hl S rfl (by simp)
  (λf n hn=>setRow_other s.w b f _ (λe=>hn (by grind))) (λf n=>.inl n)
  ⟨λf=>if f=b then aa (.cells VM E (0,0))else ch f,⟨h1,λf o n=>by
   grind,_,V,funext λf=>funext λO=>H f O⟩,λf o n=>by
   grind[setRow_other],λf=>by grind⟩ rfl rfl rfl
 have I:(a.eval y).cells.size=i.size:=by grind
 have e1:ak a.eval o=(do storeVar t ⟨b,off,af⟩ (a.eval y);pure .skip):=by simp[ak,h,A,Instr.storeAt,Instr.sureAddr]
 refine⟨⟨u,U⟩,.skip,_,ah,?_,.inr ⟨rfl,rfl⟩,ar,t1,t2,?_⟩
 .simp[ak,h,A,Instr.storeAt,Instr.sureAddr,storeVar,(Y t i hi).run_sizeOf,I,F,z]
 .intro ev m;rw[e1]at m;have p:ev∈(storeCells ⟨b,off,af⟩ (a.eval y).cells.toList).events P s.w #[]:=by
   simp only[storeVar,aP,(Y t i hi).run_sizeOf,I,aU,events_sizeOf,cU,fe,bS,bT,cm,Sem.events_pure]at m;generalize(storeCells ⟨b,off,af⟩ (a.eval y).cells.toList).run P s.w=r at m;cases r with
   |ok v w'=>simpa using m
   |halt x w'=>simpa using m
  rw[F]at p;rcases ek [u] 0 cs s.w #[] k (show off+0+1<=cs.size from q) g.cell ev p with MM|⟨j,_,_,rfl⟩
  .grind
  .exact k6 (bL S) B (h6 b B _)
end
section
variable {X:Cx P}
section
variable {x:Nat->D}{s2:Bool->Bool->List bm}{d c:Nat}
abbrev wA(s2:Bool->Bool->List bm)(d c:Nat):(Nat->Bool)->List bm:=λD=>s2 (D d) (D c)
def eG.q2(h1:av d i=ae)(h2:av c i=ae)(h:∀a b,OA X N all o (j8 all φ x i) (s2 a b) (x i) (s2 a b)):eG X N all φ x (wA s2 d c) i o:=by
 intro D _ _;have e1:eu i D d=D d:=by simp only[eu,h1]
 have e2:eu i D c=D c:=by simp only[eu,h2]
 grind
def eG.SV(e:dg P T)(hC:bG X CT)(h:∀a b,vJ T CT [] all (j8 all φ x i) (s2 a b) o=aa (x i,af,obs):=by intro a b;cases a<;>cases b<;>rfl)(h1:av d i=ae:=by rfl)(h2:av c i=ae:=by rfl)(ho:au obs:=by simp only[au,aE];omega):eG X N all φ x (wA s2 d c) i o:=.q2 h1 h2 λa b=>OA.eval e hC (h a b) ho
def eG.B4(e:dg P T)(hC:bG X CT)(h:∀a b,vJ T CT [] all (j8 all φ x i) (s2 a b) o=aa (x i,af,[]):=by intro a b;cases a<;>cases b<;>rfl)(h1:av d i=ae:=by rfl)(h2:av c i=ae:=by rfl):eG X N all φ x (wA s2 d c) i o:=.SV (obs:=[]) e hC h h1 h2 ar
def eG.sA(h2:av c d=ae)(b:fT all c d=ab)(h:OA X N all o (j8 all φ x d) (s2 ae ae) (x d) (s2 ab ae)):eG X N all φ x (wA s2 d c) d o:=by
 intro D _ a;have e1:eu d D d=ab:=by simp only[eu,jB]
 have e2:eu d D c=D c:=by simp only[eu,h2]
 grind
def eG.sB(h1:av d c=ae)(a:fT all c d=ab)(h:OA X N all o (j8 all φ x c) (s2 ab ae) (x c) (s2 ab ab)):eG X N all φ x (wA s2 d c) c o:=by
 intro D e b;have e1:eu c D d=D d:=by simp only[eu,h1]
 have e2:eu c D c=ab:=by simp only[eu,jB]
 grind
end
end
section
open Go.Conc
def fW(s:St):Prop:=∀b o v,s.M b o=aa v->s.w.cell? ⟨b,o,af⟩=aa v
def kq(c:Nat->Prop):Go.Loc->Prop
  | .cell a=>c a.block
  | .obj r=>c r
  | _=>False
structure Clear(c:Nat->Prop)(s:St):Prop where
  own:∀b,c b->¬s.own b
  β:∀b,c b->∀L∈s.β,b∉L.bs
  M:∀b,c b->∀o,s.M b o=af
  lt:∀b,c b->b<s.w.heap.size
section
variable {c:Nat->Prop}
def Clear.step(h:Clear c s)(st:Step σ s σ' s'):Clear c s':=by
  refine⟨λb hb=>by rw[st.own];exact h.own b hb,λb hb L e a=>?_,λb hb o=>by rw[st.iO b (h.lt b hb) (h.β b hb)];exact h.M b hb o,λb hb=>cB (h.lt b hb) st.size⟩;rcases st.uW L e b a with h1|⟨f,d,h1⟩
  · exact absurd (h.lt b hb) (ma.2 h1)
  · exact h.β b hb f d h1
theorem Clear.ghost(h:Clear c s)(k:eO s s'):Clear c s':=by
  have d:∀b,c b->¬(s'.own b∨∃L∈s'.β,b∈L.bs):=λb hb e=>by
    rcases k.blk b e with e|⟨L,a,e⟩
    · exact h.own b hb e
    · exact h.β b hb L a e
  exact⟨λb hb e=>d b hb (.inl e),λb hb L a e=>d b hb (.inr ⟨L,a,e⟩),λb hb o=>by rw[k.iO b (h.β b hb)];exact h.M b hb o,λb hb=>by rw[k.w];exact h.lt b hb⟩
def Clear.forget(h:Clear c s)(k:mL s s'):Clear c s':=by
  refine⟨λb hb=>by rw[k.own];exact h.own b hb,λb hb=>by rw[k.β];exact h.β b hb,λb hb o=>?_,λb hb=>by rw[k.w];exact h.lt b hb⟩;cases e:s'.M b o with
  | none=>rfl
  | some v=>rw[<-k.less b o v e,h.M b hb o]
def Clear.at(h:Clear c s)(d:Nat):Clear c {s with w:=s.w.at d}:=⟨h.own,h.β,h.M,h.lt⟩
def fW.at(h:fW s)(d:Nat):fW {s with w:=s.w.at d}:=h
theorem fW.ghost(k:eO s s'):fW s':=λb o v a=>by rw[k.w];exact k.cell b o v a
def fW.forget(h:fW s)(k:mL s s'):fW s':=λb o v a=>by rw[k.w];exact h b o v (k.less b o v a)
def fW.lt(h:fW s){o:Nat}(a:s.M b o=aa v):b<s.w.heap.size:=by
  have:=h b o v a;rcases cG b s.w.heap.size with h1|h1
  · exact h1
  · simp[aW,zt h1]at this
def b6.at(h:fW s)(d:Nat):b6 s {s with w:=s.w.at d}:=⟨rfl,rfl,rfl,ba _,λ_ _=>rfl,h,rfl,rfl,rfl⟩
def Qj{e:Event}(l:aD σ s)(k:Clear c s)(h:oG s e){B:Nat}(o:s.w.heap.size<=B):EvL (kq c) B e:=by
  obtain⟨n,wr,q⟩:=e;cases n with
  | cell a =>
    obtain⟨i,j,b⟩:=h;simp only at i j b;subst i;have key:¬c a.block/\a.block<s.w.heap.size:=by
      rcases b with b|⟨⟨L,g,b⟩,_⟩|⟨_,v,b⟩
      · exact b.elim
      · exact⟨λx=>k.β _ x L g b,l.lt L g _ b⟩
      · refine⟨λx=>?_,fW.lt l.mem b⟩
        rw[k.M _ x]at b;cases b
    exact evL_cell a wr key.1 (cB key.2 o)
  | obj r =>
    obtain⟨i,j⟩:=h;simp only at i j;subst i;obtain⟨L,g,b⟩:=j.resolve_left id;refine⟨λx d p=>?_,by simp,by simp,?_⟩
    · simp[aG,bl]at d
      subst d;exact absurd b (k.β _ p L g)
    · simp[aG,MemAct.low,Loc.low]
      exact cB (l.lt L g _ b) o
  | mark m =>
    simp only[oG]at h;rcases h with rfl|⟨f,rfl⟩
    · exact⟨λx d=>by simp[aG,bl]at d,by simp,by simp,by simp[aG,MemAct.low]⟩
    · exact⟨λx d=>by simp[aG,bl]at d,by simp,by simp,by simp[aG,MemAct.low]⟩
  | _=>exact h.elim
end
def mU(t:Trace):Prop:=∀a,NoRelease a t
def mU.app{t:Trace}(h:mU t){g:Nat}{fn:aK}{pos:String}{es:Array Event}(b:∀e∈es,∀a,e.loc≠.mark (.release a)):mU (t++MemOp.ofEvents g fn pos es) :=
  λa=>(h a).app λop iz hx=>by grind[Go.Conc.mem_ofEvents,Go.ConcR.loc_of_ofEvent]
def DG{e:Event}(d:oG s e)(a:Addr):e.loc≠.mark (.release a):=by intro b;obtain⟨loc,wr,g⟩:=e;simp only at b;subst b;rcases d with h|⟨f,h⟩<;>cases h
def vp{e:Event}(d:e.mute=ab)(a:Addr):e.loc≠.mark (.release a):=by intro b;obtain⟨loc,wr,f⟩:=e;simp only at b;subst b;simp[Event.mute]at d
def Be(P:aO)(g:aq)(s:St)(T:aq->St->Prop):Prop :=
  ∀(c:Nat->Prop) (gs:Array aq) (sl:Option (Nat×Nat)) (t:Trace) (q:Nat->Nat),fW s->gs[0]?=aa g->Leavers P t gs q->Past (kq c) s.w.heap.size t->Clear c s->mU t ->
    ∃(N:Nat) (b:Nat->Prop) (a:Array aq) (g':aq) (s':St) (e:Option (Nat×Nat)) (d:Trace) (q':Nat->Nat),
      runNT P N (crowd gs s.w sl) t=(.next (crowd a s'.w e),d)/\fW s'/\a[0]?=aa g'/\Leavers P d a q'/\Past (kq b) s'.w.heap.size d/\Clear b s'/\mU d/\T g' s'
def Cx.beside(P:aO):Cx P:={main:=ab,rely:=λs s'=>b6 s s'/\∃d,s'={s with w:=s.w.at d},vo:=Be P,ij:=λh=>h.1,Bn:=True}
instance (P:aO):(Cx.beside P).im:=⟨ar⟩
theorem runNT_add{P:aO}:∀(N M:Nat) {m b:Machine} {t a:Trace},runNT P N m t=(.next b,a)->runNT P (N+M) m t=runNT P M b a
  | 0,M,m,b,t,a,h=>by simp[runNT]at h;grind
  | N+1,M,m,b,t,a,h=>by
    rw[show N+1+M=(N+M)+1 by omega];simp only[runNT]at h⊢;cases d:stepT P m with
    | mk r ops =>
      rw[d]at h;cases r with
      | next m1=>exact runNT_add N M h
      | ended o w=>grind
def Be.trans{T:aq->St->Prop}(h:Be P g s T)(k:∀g' s',T g' s'->Be P g' s' S):Be P g s S:=by intro c gs sl t q hm h0 hL hP hc hn;obtain⟨N,d,b,g',s',i,n,q',h1,h2,o,p,r,l,f,v⟩:=h c gs sl t q hm h0 hL hP hc hn;obtain⟨M,j,a,g2,s2,e,u,q2,k1,m⟩:=k g' s' v d b i n q' h2 o p r l f;exact⟨N+M,j,a,g2,s2,e,u,q2,by grind[runNT_add],m⟩
def Be.slip{T:aq->St->Prop}(Y:g.status=.running)(one:∀(c:Nat->Prop) (gs:Array aq) (d:Nat) (sl:Option (Nat×Nat)) (t:Trace) (q:Nat->Nat),fW s->gs[0]?=aa g->Leavers P t gs q->Past (kq c) s.w.heap.size t->Clear c s->mU t ->
      ∃(h:Array aq) (F:aq) (p:St) (ops:Array MemOp),runT P (crowd gs (s.w.at d) sl) 0=(.next (crowd h p.w sl),ops)/\fW p/\h[0]?=aa F/\Leavers P (t++ops) h q/\Past (kq c) p.w.heap.size (t++ops)/\Clear c p/\mU (t++ops)/\T F p):Be P g s T:=by
  intro c gs sl t q;have key:∀(n:Nat) (gs:Array aq) (d:Nat) (sl:Option (Nat×Nat)) (t:Trace) (q:Nat->Nat),Go.ConcN.sumTo gs.size q<=n->fW s->gs[0]?=aa g->Leavers P t gs q->Past (kq c) s.w.heap.size t->Clear c s->mU t ->
      ∃(N:Nat) (m:Nat->Prop) (l:Array aq) (g':aq) (s':St) (b:Option (Nat×Nat)) (A:Trace) (q':Nat->Nat),
        runNT P N (crowd gs (s.w.at d) sl) t=(.next (crowd l s'.w b),A)/\fW s'/\l[0]?=aa g'/\Leavers P A l q'/\Past (kq m) s'.w.heap.size A/\Clear m s'/\mU A/\T g' s':=by
    intro n;induction n with
    | zero=>?_
    | succ n H=>?_
    all_goals
      intro gs d sl t q hn hm h0 hL hP hc Fs;have I:∀g∈gs,awake g:=by
        intro x Q;obtain⟨i,hi,rfl⟩:=Array.mem_iff_getElem.1 Q;rcases nG i with rfl|f
        · grind[awake_of]
        · exact awake_of ((hL.old i _ f (fN hi)).status.elim .inl λx=>.inr (.inr x))
      obtain⟨i,x,d2,b,hi,O,u⟩:=crowd_pick (P:=P) (w:=s.w.at d) (sl:=sl) I ⟨0,g,h0,Y⟩;rw[show(s.w.at d).at d2=s.w.at d2 from rfl]at u;rcases nG i with rfl|f
      · obtain⟨h,F,p,ops,k1,J,Z,W,R⟩:=one c gs d2 b t q hm h0 hL hP hc Fs
        exact⟨1,c,h,F,p,b,t++ops,q,by simp only[runNT,u,k1],J,Z,W,R⟩
      · have G:=hL.old i x f hi
        have L:(i==0)=ae:=by grind
        have K:i<gs.size:=(fb.1 hi).1;cases r:q i with
        | zero=>rw[r]at G;rw[G.1]at O;cases O
        | succ k =>
          rw[r]at G;rcases G with⟨hf,_⟩|⟨_,g',es,B,D,S⟩
          · grind
          have M:Go.ConcN.sumTo gs.size (Go.ConcN.upd q i k)+(k+1)=Go.ConcN.sumTo gs.size q+k:=by have:=Go.ConcN.sumTo_upd q k id K;simpa[r]using this
          first
          | (exfalso;omega)
          | (have v:=runT_crowd_go (P:=P) (sl:=b) (i:=i) hi (by rw[L];exact D (s.w.at d2))
             have U:((gs.map (woken P x g' (s.w.at d2))).setIfInBounds i g').size=gs.size:=by simp
             obtain⟨N,m,l,g2,s',C,A,q',k1,J⟩:=H ((gs.map (woken P x g' (s.w.at d2))).setIfInBounds i g') d2 b (t++MemOp.ofEvents i x.frame.fn x.frame.place es) (Go.ConcN.upd q i k) (by grind) hm
              (by grind[woken_run])
              ⟨λj y hj hy=>by
                by_cases o:i=j
                · grind[Go.ConcN.upd_same,Deaf_own]
                · rw[nE o,Array.getElem?_map]at hy
                  obtain⟨z,V,rfl⟩:=pL.1 hy;have E:=hL.old j z hj V;rw[woken_quitsD E,Go.ConcN.upd_ne q k (Ne.symm o),Deaf_other t o _ (λop iz=>by grind[Go.Conc.mem_ofEvents])];exact E,λj hj=>by
                rw[Deaf_other t (g':=i) (by grind) _ (λop iz=>by grind[Go.Conc.mem_ofEvents])]
                exact hL.above j (by grind)⟩
              (hP.mute (by omega) B) hc (Fs.app λe X a=>vp (B e X) a)
             exact⟨N+1,m,l,g2,s',C,A,q',by simp only[runNT,u,v];exact k1,J⟩)
  intro hm h0 hL hP hc Fs;have:=key _ gs s.w.drawn sl t q (ba _) hm h0 hL hP hc Fs
  rwa [show s.w.at s.w.drawn=s.w from rfl]at this
def _root_.Go.Conc.Leavers.own{g':aq}{t:Trace}{q:Nat->Nat}(b:Leavers P t gs q){ops:Array MemOp}(ho:∀op∈ops,op.g=0)(f:0<gs.size):Leavers P (t++ops) ((gs.map (woken P g g' w)).setIfInBounds 0 g') q :=
  ⟨λj y hj hy=>by
    have a:0≠j:=by omega
    rw[nE a,Array.getElem?_map]at hy;obtain⟨z,e,rfl⟩:=pL.1 hy;have d:=b.old j z hj e;rw[woken_quitsD d,Deaf_other t (by omega) _ (λop iz=>ho op iz)];exact d,λj hj=>by
    rw[Deaf_other t (g':=0) (by grind) _ (λop iz=>ho op iz)]
    exact b.above j (by grind)⟩
def fy.beside{P:aO}{S:aq->St->Prop}{g:aq}{s:St}(h:fy (Cx.beside P) S g s):Be P g s S:=by
  induction h with
  | stop h=>intro c gs sl t q hm h0 hL hP hc hn;exact⟨0,c,gs,_,_,sl,t,q,rfl,hm,h0,hL,hP,hc,hn,h⟩
  | ghost hg _ f =>
    intro c gs sl t q hm h0 hL hP hc hn;have:=f c gs sl t q (.ghost hg) h0 hL (by rw[hg.w];exact hP) (hc.ghost hg) hn
    rwa [hg.w]at this
  | forget _ hg _ f =>
    intro c gs sl t q hm h0 hL hP hc hn;have:=f c gs sl t q (hm.forget hg) h0 hL (by rw[hg.w];exact hP) (hc.forget hg) hn
    rwa [hg.w]at this
  | vo hj _ f=>exact Be.trans hj f
  | @step g s r ns ne hr h1 h2 _ f =>
    refine Be.trans (Be.slip (T:=λg' s'=>∃l,(Cx.beside P).rely s l/\g'=r l/\s'=ns l) hr λc gs d sl t q hm h0 hL hP hc Fs=>?_) λg' s' ⟨l,k1,p,u⟩=>by subst p u;exact f l k1
    have b:(Cx.beside P).rely s {s with w:=s.w.at d}:=⟨b6.at hm d,d,rfl⟩;obtain⟨⟨σ,σ',hh,n,st⟩,j⟩:=h2 _ b;have m:0<gs.size:=(fb.1 h0).1;have k:Clear c {s with w:=s.w.at d}:=hc.at d;exact⟨_,_,ns {s with w:=s.w.at d},_,runT_crowd_go (P:=P) (sl:=sl) (i:=0) h0 (show aH P (0==0) g (s.w.at d)=_ from h1 _ b),n.mem,by grind,
      hL.own (λop iz=>by grind[Go.Conc.mem_ofEvents]) m,((hP.mono st.size).own λe o=>Qj hh k (j e o) st.size),k.step st,Fs.app λe o a=>DG (j e o) a,_,b,rfl,rfl⟩
inductive Rk where
 |leaf
 |node (f:St->Rk)
def Rk.lt:Rk->Rk->Prop
 |_,.leaf=>False
 |x,.node f=>∃s,x=f s∨Rk.lt x (f s)
def Rk.acc:∀r:Rk,Acc Rk.lt r
 |.leaf=>⟨_,λ_ h=>h.elim⟩
 |.node f=>⟨_,λ_ ⟨s,e⟩=>e.elim (λe=>e▸Rk.acc (f s)) λh=>(Rk.acc (f s)).inv h⟩
def Rk.nat:Nat->Rk
 |0=>.leaf
 |n+1=>.node λ_=>Rk.nat n
def Rk.DV(n:Nat)(s:St):Rk.lt (Rk.nat n) (Rk.nat (n+1)):=⟨s,.inl rfl⟩
def Vec(j:Nat)(a D:Nat->Rk):Prop:=∃i,i<j/\Rk.lt (a i) (D i)/\∀k,k≠i->a k=D k
def Jd:∀j,WellFounded (Vec j)
 |0=>⟨λ_=>⟨_,λ_ ⟨i,h,_⟩=>absurd h (gR i)⟩⟩
 |j+1=>by
  have k:=Jd j;have key:∀a:Rk,∀D:Nat->Rk,D j=a->Acc (Vec (j+1)) D:=by
   intro a;induction Rk.acc a with
   |intro a _ f =>
    intro D;induction k.apply D with
    |intro D _ d =>
     intro m;refine⟨_,λl h=>?_⟩;obtain⟨i,hi,b,g⟩:=h;rcases cG i j with e|e
     .exact d l ⟨i,e,b,g⟩ (by grind)
     grind
  exact⟨λD=>key _ D rfl⟩
section
def j1(X:Cx P)(E:St->St->Array Event->Prop)(S:aq->St->Prop):Rk->aq->St->Prop
 |.leaf,g,s=>S g s
 |.node f,g,s=>S g s∨(∃s',(eO s s'∨(X.Bn/\mL s s'))/\j1 X E S (f s) g s') ∨
   (g.status=.running/\∀a,X.rely s a->∃g' s' es,aH P X.main g a.w=.go g' s'.w es/\(qS a s' es∨E a s' es)/\j1 X E S (f a) g' s')
variable {X:Cx P}{E:St->St->Array Event->Prop}{c:aq->St->Prop}
def ei(X:Cx P)(E:St->St->Array Event->Prop)(S:aq->St->Prop)(g:aq)(s:St):Prop:=∃r,j1 X E S r g s
theorem ei.ghost(h:eO s s')(k:ei X E S g s'):ei X E S g s:=by obtain⟨r,k⟩:=k;exact⟨.node λ_=>r,.inr (.inl ⟨s',.inl h,k⟩)⟩
def ei.forget(hl:X.Bn)(h:mL s s')(k:ei X E S g s'):ei X E S g s:=by obtain⟨r,k⟩:=k;exact⟨.node λ_=>r,.inr (.inl ⟨s',.inr ⟨hl,h⟩,k⟩)⟩
def ei.step(e:g.status=.running)(h:∀a,X.rely s a->∃g' s' es,aH P X.main g a.w=.go g' s'.w es/\(qS a s' es∨E a s' es)/\ei X E S g' s'):ei X E S g s:=by
 classical
 have hh:∀a,∃r:Rk,X.rely s a->∃g' s' es,aH P X.main g a.w=.go g' s'.w es/\(qS a s' es∨E a s' es)/\j1 X E S r g' s':=by
  intro a;by_cases b:X.rely s a
  .obtain⟨g',s',es,h1,h2,r,d⟩:=h a b;exact⟨r,λ_=>⟨g',s',es,h1,h2,d⟩⟩
  .exact⟨.leaf,λh=>absurd h b⟩
 exact⟨.node λa=>Classical.choose (hh a),.inr (.inr ⟨e,λa b=>Classical.choose_spec (hh a) b⟩)⟩
def ei.bind(h:ei X E S g s)(k:∀g s,S g s->ei X E c g s):ei X E c g s:=by
 obtain⟨r,h⟩:=h;induction r generalizing g s with
 |leaf=>exact k g s h
 |node f a =>
  rcases h with h|⟨s',h1,h2⟩|⟨b,h⟩
  .grind
  .rcases h1 with h1|⟨hl,h1⟩
   .exact .ghost h1 (a _ h2)
   .exact .forget hl h1 (a _ h2)
  .exact .step b λd e=>by grind
def fy.toE(hj:∀g s T,¬X.vo g s T)(h:fy X S g s):ei X E S g s:=by
 induction h with
 |stop h=>exact⟨.leaf,h⟩
 |step ng ns ne hr h1 h2 _ a=>exact .step hr λb d=>⟨_,_,_,h1 b d,.inl (h2 b d),a b d⟩
 |ghost hg _ a=>exact .ghost hg a
 |forget hl hg _ a=>exact .forget hl hg a
 |vo hjj _ _=>grind
def j1.norm(I:St->Prop)(m:∀s s',eO s s'->I s->I s')(l:X.Bn->∀s s',mL s s'->I s->I s'):∀{r:Rk}{g:aq}{s:St},j1 X E S r g s->I s ->
  (∃s',I s'/\S g s')∨(g.status=.running/\∃s',I s'/\∀a,X.rely s' a->∃g' s2 es r',aH P X.main g a.w=.go g' s2.w es/\(qS a s2 es∨E a s2 es)/\j1 X E S r' g' s2/\Rk.lt r' r)
 |.leaf,_,s,h,hi=>.inl ⟨s,hi,h⟩
 |.node f,g,s,h,hi=>by
  rcases h with h|⟨s',h1,h2⟩|⟨q,h⟩
  .grind
  .have i:I s':=h1.elim (λx=>m s s' x hi) λx=>l x.1 s s' x.2 hi;rcases j1.norm I m l h2 i with k|⟨k,s2,n,o⟩
   .grind
   .refine .inr ⟨k,s2,n,λa d=>?_⟩;obtain⟨g',e,es,r',k1,b,j,p⟩:=o a d;exact⟨g',e,es,r',k1,b,j,s,.inr p⟩
  .refine .inr ⟨q,s,hi,λa d=>?_⟩;obtain⟨g',e,es,k1,b,j⟩:=h a d;exact⟨g',e,es,f a,k1,b,j,a,.inl rfl⟩
def ei.goes{R:aA->aA->Prop}{D:aA->aA->Array Event->Prop}{Stop:aq->aA->Prop}(I:St->Prop)(i:∀s a,I s->X.rely s a->I a)(e:∀s a,I s->X.rely s a->R s.w a.w)(m:∀s es,I s->∀w',D s.w w' es->w'=s.w/\(qS s s es∨E s s es))(l:∀s,I s->X.rely s s)(k:∀g s,I s->Stop g s.w->ei X E S g s):
  ∀(n:Nat) (g:aq) (s:St),I s->Goes P X.main R D Stop n g s.w->ei X E S g s
 |0,g,s,hi,h=>k g s hi (h s.w (e s s hi (l s hi)))
 |n+1,g,s,hi,h=>by
  rcases h with h|⟨p,h⟩
  .grind
  .refine .step p λa j=>?_;have h1:=h a.w (e s a hi j);have d:=i s a hi j;cases b:aH P X.main g a.w with
   |go g' w' es =>
    rw[b,goes_go]at h1;obtain⟨o,q⟩:=h1;obtain⟨rfl,f⟩:=m a es d w' o;exact⟨g',a,es,rfl,f,ei.goes I i e m l k n g' a d q⟩
   |_=>rw[b]at h1;exact h1.elim
end
theorem b6.ghost(h:b6 s {s with w:=w})(k:eO s s'):b6 s' {s' with w:=w}:=by
 refine⟨rfl,rfl,rfl,by rw[k.w];exact h.size,λb hb=>by rw[k.w];exact h.keep b (k.blk b hb),λb o v d=>?_,by rw[k.w];exact h.os,by rw[k.w];exact h.tape,by rw[k.w];exact h.output⟩;have f:=k.cell b o v d;by_cases hb:∃L∈s.β,b∈L.bs
 .have:=h.keep b (.inr hb);simp only[aW]at f⊢;grind
 .have:s.M b o=aa v:=by rw[<-k.iO b (λL e a=>hb ⟨L,e,a⟩)];exact d
  exact h.mem b o v this
def b6.forget(h:b6 s {s with w:=w})(k:mL s s'):b6 s' {s' with w:=w} :=
 ⟨rfl,rfl,rfl,by rw[k.w];exact h.size,λb hb=>by rw[k.w];exact h.keep b (by rw[<-k.own,<-k.β];exact hb),λb o v a=>h.mem b o v (k.less b o v a),by rw[k.w];exact h.os,by rw[k.w];exact h.tape,by rw[k.w];exact h.output⟩
def b6.vX(h:fW s):b6 s s:=⟨rfl,rfl,rfl,ba _,λ_ _=>rfl,h,rfl,rfl,rfl⟩
def b6.trans'(h:b6 s {s with w:=w}):b6 {s with w:=w} {s with w:=w}:=b6.vX h.mem
def b6.trans{s a s2:St}(h:b6 s a)(k:b6 a s2):b6 s s2 :=
 ⟨k.β.trans h.β,k.M.trans h.M,k.own.trans h.own,dT h.size k.size,λb hb=>by rw[k.keep b (by rw[h.own,h.β];exact hb),h.keep b hb],λb o v d=>k.mem b o v (by rw[h.M];exact d),k.os.trans h.os,k.tape.trans h.tape,k.output.trans h.output⟩
end
section
open Go.Conc
open Go.ConcN (fork_knows RelBy)
open Go.ConcR (stA smA)
def lI:Go.Loc->Option Nat
 |.cell a=>aa a.block
 |.obj r=>aa r
 |_=>af
def BM{l:Go.Loc}(h:l.isMemory=ab):∃b,lI l=aa b:=by cases l<;>simp[Go.Loc.isMemory]at h<;>exact⟨_,rfl⟩
def GV{x:MemAct}{a:Touch}{B:Nat}(h:x.touch?=aa a)(g:x.low B)(c:lI a.loc=aa b):b<B:=by
 cases x with
 |access e =>
  simp[bl]at h;subst h;simp only at c;obtain⟨loc,wr,i⟩:=e;cases loc<;>simp[lI]at c<;>subst c<;>exact g
 |mark m =>
  cases m<;>simp[bl]at h<;>subst h<;>simp[lI]at c<;>subst c<;>exact g
 |_=>simp[bl]at h
structure Lay where
 Sh:Nat->Prop
 T0:Nat
 Wg:Nat
 C:Nat
 base:Nat
 kc:Nat
def r8(Y:Lay)(d:Nat->Nat)(a:Touch):Prop :=
 (∃ad,a.loc=.cell ad/\ad.block=Y.Wg/\a.kind≠.plain)∨(∃b,lI a.loc=aa b/\d b=0/\b≠Y.Wg/\b≠Y.C/\¬Y.Sh b/\a.kind=.plain)
def qG(Y:Lay)(d:Nat->Nat)(f:Mem)(x:Nat)(a:Touch):Prop :=
 (∃ad,a.loc=.cell ad/\ad.block=Y.Wg/\a.kind=.atomic) ∨
 (a.kind=.plain/\((∃b,lI a.loc=aa b/\d b=Y.base+x)∨(∃o,a.loc=.cell ⟨Y.C,o,af⟩/\Y.kc*x<=o/\o<Y.kc*x+Y.kc)∨(a.write=ae/\∃b o v,a.loc=.cell ⟨b,o,af⟩/\f b o=aa v)))
structure TL(Y:Lay)(d:Nat->Nat)(f:Nat->Mem)(t:Trace)(j B:Nat):Prop where
 base:1<=Y.base
 Io:d Y.Wg=0
 hC:d Y.C=0
 ne:Y.C≠Y.Wg
 Po:¬Y.Sh Y.Wg
 QQ:¬Y.Sh Y.C
 Ip:∀b,Y.Sh b->d b=0
 ms:∀x,x<j->∀b o v,f x b o=aa v->d b=0/\b≠Y.C/\b≠Y.Wg/\¬Y.Sh b
 T0:Y.T0<=t.size
 nr:∀said,¬Race said t
 seen:∀op∈t,op.act.low B
 old:∀i a,i<Y.T0->touchAt t i=aa a->a.loc.isMemory=ab->Knows t 0 i∨(kq Y.Sh a.loc/\a.kind=.atomic)
 QR:∀x,x<j->∀i a,i<Y.T0->touchAt t i=aa a->a.loc.isMemory=ab->Knows t (Y.base+x) i∨(kq Y.Sh a.loc/\a.kind=.atomic)
 GW:∀i a b,i<Y.T0->touchAt t i=aa a->lI a.loc=aa b->d b=0
 new:∀i a,Y.T0<=i->touchAt t i=aa a->a.loc.isMemory=ab->(t.g? i=aa 0/\r8 Y d a)∨(∃x,x<j/\t.g? i=aa (Y.base+x)/\qG Y d (f x) x a)
 mw:∀x,x<j->∀i a,Y.T0<=i->touchAt t i=aa a->t.g? i=aa 0->a.write=ab->∀b o v,a.loc=.cell ⟨b,o,af⟩->f x b o=aa v->Knows t (Y.base+x) i
 over:∀i g,i<Y.T0->t.g? i=aa g->g≠0->t.counts i->∃k,t.g? k=aa 0/\HappensBefore t i k
section
variable {Y:Lay}{d hm':Nat->Nat}{f:Nat->Mem}{t u:Trace}{B B':Nat}
theorem u9{a:Touch}{g:Nat}(h:touchAt t i=aa a)(b:t.g? i=aa g):Knows t g i:=by
 obtain⟨x,c,_⟩:=touch_of h;have:x.g=g:=by simpa[Trace.g?,c]using b
 grind[knows_own]
def TL.low(h:TL Y d f t j B){a:Touch}(e:touchAt t i=aa a)(hb:lI a.loc=aa b):b<B:=by obtain⟨x,g,c⟩:=touch_of e;exact GV c (h.seen x (pM g)) hb
def TL.s9(h:TL Y d f t j B)(hh:∀b,b<B->hm' b=d b)(r:B<=B')(s:Y.Wg<B)(hC:Y.C<B)(p:∀b,Y.Sh b->b<B)(q:∀x,x<j->∀b o v,f x b o=aa v->b<B):TL Y hm' f t j B':=by
 have e:∀i a,touchAt t i=aa a->r8 Y d a->r8 Y hm' a:=λi a c h1=>by
  rcases h1 with h1|⟨b,h1,h2,l⟩
  .exact .inl h1
  .exact .inr ⟨b,h1,by rw[hh b (h.low c h1)];exact h2,l⟩
 have g:∀x i a,touchAt t i=aa a->qG Y d (f x) x a->qG Y hm' (f x) x a:=λx i a c h1=>by
  rcases h1 with h1|⟨m,⟨b,h1,h2⟩|h1⟩
  .exact .inl h1
  .exact .inr ⟨m,.inl ⟨b,h1,by rw[hh b (h.low c h1)];exact h2⟩⟩
  .exact .inr ⟨m,.inr h1⟩
 refine⟨h.base,by rw[hh _ s];exact h.Io,by rw[hh _ hC];exact h.hC,h.ne,h.Po,h.QQ,λb hb=>by rw[hh b (p b hb)];exact h.Ip b hb,λx n b o v k=>by rw[hh b (q x n b o v k)];exact h.ms x n b o v k,
  h.T0,h.nr,λop iz=>MemAct.low_mono r (h.seen op iz),h.old,h.QR,λi a b hi c hb=>by rw[hh b (h.low c hb)];exact h.GW i a b hi c hb,λi a hi c d=>?_,h.mw,h.over⟩
 rcases h.new i a hi c d with⟨h1,h2⟩|⟨x,h1,h2,l⟩
 .grind
 grind
def TL.No(h:TL Y d f t j B):Y.T0<=(t++u).size:=dT h.T0 (by simp)
theorem j9(h:i<t.size):(t++u).g? i=t.g? i:=by simp[Trace.g?,getElem?_append_old h]
def TL.r9(h:TL Y d f t j B)(u:Trace):∀i g,i<Y.T0->(t++u).g? i=aa g->g≠0->(t++u).counts i->∃k,(t++u).g? k=aa 0/\HappensBefore (t++u) i k:=by
 intro i g hi hg Bf hc;have a:=cB hi h.T0;rw[j9 a]at hg;obtain⟨k,c,hb⟩:=h.over i g hi hg Bf ((counts_old a).1 hc);have b:k<t.size:=by unfold Trace.g? at c;grind
 exact⟨k,by grind[j9],hb_app u hb⟩
def BN{c:Nat->Prop}{l:Go.Loc}(h:kq c l)(a:lI l=aa b):c b:=by cases l<;>simp[lI]at a<;>subst a<;>exact h
def TL.apart(h:TL Y d f t j B){x:Nat}(q:x<j){a b:Touch}{said:Bool}(m:r8 Y d b)(n:qG Y d (f x) x a)(hl:a.loc=b.loc)(y:a.kind=.plain∨b.kind=.plain∨(said=ab/\a.kind=.said/\b.kind=.said))(A:b.kind=.plain->b.write=ab->∀l o v,b.loc=.cell ⟨l,o,af⟩->f x l o≠aa v)(r:a.write=ab∨b.write=ab):False:=by
 have w:=h.base;rcases n with⟨ad,e1,e2,e3⟩|⟨D,⟨c,e1,e2⟩|⟨o,e1,_⟩|⟨e1,l,o,v,e2,e3⟩⟩
 .rcases m with⟨k,e,g,i⟩|⟨c,e,g,i,_⟩
  .grind
  .rw[<-hl,e1]at e;simp only[lI,dq]at e;grind
 .rcases m with⟨k,e,g,i⟩|⟨p,e,g,i,_⟩
  .rw[hl,e]at e1;simp only[lI,dq]at e1;rw[<-e1,g,h.Io]at e2;omega
  grind
 .rcases m with⟨k,e,g,i⟩|⟨p,e,g,i,s,_⟩
  .rw[<-hl,e1]at e;cases e;exact h.ne g
  .rw[<-hl,e1]at e;simp only[lI,dq]at e;grind
 .obtain⟨C,z,G,F⟩:=h.ms x q l o v e3;rcases m with⟨k,e,g,i⟩|⟨p,e,g,i,s,_,E⟩
  .grind
  grind
def TL.app0(h:TL Y d f t j B)(G:∀op∈u,op.g=0)(hl:∀op∈u,op.act.low B)(F:∀op∈u,∀a,op.act.touch?=aa a->a.loc.isMemory=ab->r8 Y d a)(N:∀op∈u,∀a,op.act.touch?=aa a->a.kind=.plain->a.write=ab->∀x,x<j->∀b o v,a.loc=.cell ⟨b,o,af⟩->f x b o≠aa v):TL Y d f (t++u) j B:=by
 have k:∀{i:Nat} {a:Touch},touchAt (t++u) i=aa a->(i<t.size/\touchAt t i=aa a)∨(t.size<=i/\(t++u).g? i=aa 0/\∃op∈u,op.act.touch?=aa a):=by
  intro i a e;obtain⟨x,p,A⟩:=touch_of e;rcases getElem?_append_cases p with⟨hi,J⟩|⟨hi,r⟩
  .grind [touchAt_of]
  .exact .inr ⟨hi,by simp[Trace.g?,p,G x r],x,r,A⟩
 refine⟨h.base,h.Io,h.hC,h.ne,h.Po,h.QQ,h.Ip,h.ms,h.No,λsaid=>?_,seen_app h.seen hl,λi a hi e d=>?_,λx p i a hi e d=>?_,λi a b hi e hb=>?_,λi a hi e d=>?_,λx p i a hi e w y b o v n D=>?_,h.r9 u⟩
 .refine noRace_append (h.nr said) G λi a e op iz b hb hc=>?_;have C:b.loc.isMemory=ab:=by rw[<-hc.1];exact hc.2.1
  have E:=F op iz b hb C;rcases cG i Y.T0 with hi|hi
  .rcases h.old i a hi e hc.2.1 with I|⟨M,K⟩
   .exact I
   .exfalso;obtain⟨c,m⟩:=BM hc.2.1;have s:=BN M m;rcases E with⟨ad,e1,e2,e3⟩|⟨H,e1,e2,e3,P,O,L⟩
    .rw[hc.1,e1]at m;simp only[lI,dq]at m;rw[<-m,e2]at s;exact h.Po s
    .rw[hc.1,e1]at m;grind
  .rcases h.new i a hi e hc.2.1 with⟨w,_⟩|⟨x,p,w,z⟩
   .grind [u9]
   .exact(h.apart p E z hc.1 hc.2.2.2 (λh1 h2=>N op iz b hb h1 h2 x p) hc.2.2.1).elim
 .have l:touchAt t i=aa a:=by rw[<-touchAt_old (u:=u) (cB hi h.T0)];exact e
  exact(h.old i a hi l d).imp (·.app u) id
 .have l:touchAt t i=aa a:=by rw[<-touchAt_old (u:=u) (cB hi h.T0)];exact e
  exact(h.QR x p i a hi l d).imp (·.app u) id
 .have l:touchAt t i=aa a:=by rw[<-touchAt_old (u:=u) (cB hi h.T0)];exact e
  exact h.GW i a b hi l hb
 .rcases k e with⟨h1,h2⟩|⟨_,h2,op,iz,q⟩
  .rw[j9 h1];exact h.new i a hi h2 d
  grind
 .rcases k e with⟨h1,h2⟩|⟨_,h2,op,iz,q⟩
  .rw[j9 h1]at w;exact(h.mw x p i a hi h2 w y b o v n D).app u
  .exfalso;rcases F op iz a q (by rw[n];rfl)with⟨ad,e1,e2,e3⟩|⟨H,_,_,_,_,_,L⟩
   .rw[n]at e1;cases e1;exact(h.ms x p b o v D).2.2.1 e2
   grind
def TL.appW(h:TL Y d f t j B){x:Nat}(A:x<j)(X:∀op∈u,op.g=Y.base+x)(hl:∀op∈u,op.act.low B)(ht:∀op∈u,∀a,op.act.touch?=aa a->a.loc.isMemory=ab->qG Y d (f x) x a):TL Y d f (t++u) j B:=by
 have Yx:=h.base;have r:∀{i:Nat} {a:Touch},touchAt (t++u) i=aa a->(i<t.size/\touchAt t i=aa a)∨(t.size<=i/\(t++u).g? i=aa (Y.base+x)/\∃op∈u,op.act.touch?=aa a):=by
  intro i a q;obtain⟨y,z,T⟩:=touch_of q;rcases getElem?_append_cases z with⟨hi,hy'⟩|⟨hi,I⟩
  .grind [touchAt_of]
  .exact .inr ⟨hi,by simp[Trace.g?,z,X y I],y,I,T⟩
 refine⟨h.base,h.Io,h.hC,h.ne,h.Po,h.QQ,h.Ip,h.ms,h.No,λsaid=>?_,seen_app h.seen hl,λi a hi q d=>?_,λy z i a hi q d=>?_,λi a b hi q hb=>?_,λi a hi q d=>?_,λy z i a hi q H F b o v G K=>?_,h.r9 u⟩
 .refine noRace_append (h.nr said) X λi a q op iz b hb hc=>?_;have R:b.loc.isMemory=ab:=by rw[<-hc.1];exact hc.2.1
  have D:=ht op iz b hb R;obtain⟨c,l⟩:=BM hc.2.1;rcases cG i Y.T0 with hi|hi
  .rcases h.QR x A i a hi q hc.2.1 with M|⟨hs,hka⟩
   .exact M
   .exfalso;have n:=BN hs l;rw[hc.1]at l;rcases D with⟨ad,e1,e2,e3⟩|⟨e0,⟨c',e1,e2⟩|⟨o,e1,_⟩|⟨e1,p,o,v,e2,e3⟩⟩
    .rw[e1]at l;simp only[lI,dq]at l;rw[<-l,e2]at n;exact h.Po n
    .rw[e1]at l;simp only[dq]at l;rw[<-l]at n;rw[h.Ip _ n]at e2;omega
    .rw[e1]at l;simp only[lI,dq]at l;rw[<-l]at n;exact h.QQ n
    .rw[e2]at l;simp only[lI,dq]at l;rw[<-l]at n;exact(h.ms x A p o v e3).2.2.2 n
  .rcases h.new i a hi q hc.2.1 with⟨H,J⟩|⟨y,z,H,O⟩
   ·
    by_cases E:a.write=ab/\∃p o v,a.loc=.cell ⟨p,o,af⟩/\f x p o=aa v
    .obtain⟨h1,p,o,v,h2,V⟩:=E;exact h.mw x A i a hi q H h1 p o v h2 V
    .exfalso;refine h.apart (said:=said) A J D hc.1.symm ?_ (λ_ L p o v k K=>E ⟨L,p,o,v,k,K⟩) hc.2.2.1.symm;rcases hc.2.2.2 with M|M|⟨h1,h2,V⟩
     .grind
     .grind
     grind
   .by_cases N:y=x
    .grind [u9]
    .exfalso;obtain⟨k,_,F,Q⟩:=hc;rcases O with⟨ad,e1,e2,e3⟩|⟨e0,⟨c1,e1,e2⟩|⟨o,e1,Z,e1u⟩|⟨e1,p,o,v,e2,e3⟩⟩
     .rcases D with⟨C,e,m,w⟩|⟨f0,⟨c2,e,m⟩|⟨o,e,_⟩|⟨e,p,o,v,m,w⟩⟩
      .grind
      .rw[<-k,e1]at e;simp only[lI,dq]at e;rw[<-e,e2,h.Io]at m;omega
      .rw[<-k,e1]at e;cases e;exact h.ne e2
      .rw[<-k,e1]at m;cases m;exact(h.ms x A p o v w).2.2.1 e2
     .rcases D with⟨C,e,m,w⟩|⟨f0,⟨c2,e,m⟩|⟨o,e,_⟩|⟨e,p,o,v,m,w⟩⟩
      .rw[k,e]at e1;simp only[lI,dq]at e1;rw[<-e1,m,h.Io]at e2;omega
      .grind
      .rw[k,e]at e1;simp only[lI,dq]at e1;rw[<-e1,h.hC]at e2;omega
      .rw[k,m]at e1;simp only[lI,dq]at e1;rw[<-e1,(h.ms x A p o v w).1]at e2;omega
     .rcases D with⟨C,e,m,w⟩|⟨f0,⟨c2,e,m⟩|⟨S,e,U,P⟩|⟨e,p,S,v,m,w⟩⟩
      .rw[<-k,e1]at e;cases e;exact h.ne m
      .rw[<-k,e1]at e;simp only[lI,dq]at e;rw[<-e,h.hC]at m;omega
      .rw[<-k,e1]at e;cases e;rcases Nat.lt_or_gt_of_ne N with h1|h1
       .have:=uP Y.kc (show y+1<=x from h1);grind
       .have:=uP Y.kc (show x+1<=y from h1);grind
      .rw[<-k,e1]at m;cases m;exact(h.ms x A _ _ v w).2.1 rfl
     .rcases D with⟨C,e,m,w⟩|⟨f0,⟨c2,e,m⟩|⟨S,e,U,P⟩|⟨e,b2,S,v',m,w⟩⟩
      .rw[<-k,e2]at e;cases e;exact(h.ms y z p o v e3).2.2.1 m
      .rw[<-k,e2]at e;simp only[lI,dq]at e;rw[<-e,(h.ms y z p o v e3).1]at m;omega
      .rw[<-k,e2]at e;cases e;exact(h.ms y z _ _ v e3).2.1 rfl
      grind
 .have s:touchAt t i=aa a:=by rw[<-touchAt_old (u:=u) (cB hi h.T0)];exact q
  exact(h.old i a hi s d).imp (·.app u) id
 .have s:touchAt t i=aa a:=by rw[<-touchAt_old (u:=u) (cB hi h.T0)];exact q
  exact(h.QR y z i a hi s d).imp (·.app u) id
 .have s:touchAt t i=aa a:=by rw[<-touchAt_old (u:=u) (cB hi h.T0)];exact q
  exact h.GW i a b hi s hb
 .rcases r q with⟨h1,h2⟩|⟨_,h2,op,iz,W⟩
  .rw[j9 h1];exact h.new i a hi h2 d
  grind
 .rcases r q with⟨h1,h2⟩|⟨_,h2,_⟩
  .rw[j9 h1]at H;exact(h.mw y z i a hi h2 H F b o v G K).app u
  grind
def TL.mute(h:TL Y d f t j B){g:Nat}(q:∀op∈u,op.g=g)(hl:∀op∈u,op.act.low B)(r:∀op∈u,op.act.touch?=af):TL Y d f (t++u) j B:=by
 have old:∀{i:Nat} {a:Touch},touchAt (t++u) i=aa a->i<t.size/\touchAt t i=aa a:=by intro i a c;obtain⟨y,s,p⟩:=touch_of c;grind[touchAt_of]
 refine⟨h.base,h.Io,h.hC,h.ne,h.Po,h.QQ,h.Ip,h.ms,h.No,λsaid=>noRace_append (h.nr said) q λi a _ op iz b hb _=>(by grind),seen_app h.seen hl,λi a hi c d=>(h.old i a hi (old c).2 d).imp (·.app u) id,
  λx k i a hi c d=>(h.QR x k i a hi (old c).2 d).imp (·.app u) id,λi a b hi c hb=>h.GW i a b hi (old c).2 hb,λi a hi c d=>?_,λx k i a hi c m l b o v e n=>?_,h.r9 u⟩
 .rw[j9 (old c).1];exact h.new i a hi (old c).2 d
 .rw[j9 (old c).1]at m;exact(h.mw x k i a hi (old c).2 m l b o v e n).app u
def TL.fork(h:TL Y d f t j B){x y:MemOp}(m:x.g=0/\x.act=.go (Y.base+j))(n:y.g=Y.base+j/\y.act=.start)(A:Deaf t 0=0)(D:Deaf t (Y.base+j)=0)(G:∀b o v,f j b o=aa v->d b=0/\b≠Y.C/\b≠Y.Wg/\¬Y.Sh b):TL Y d f (t++#[x,y]) (j+1) B:=by
 have E:∀op∈#[x,y],op.act.touch?=af:=by
  intro op iz;simp only[List.mem_toArray,dC,nK,or_false]at iz;rcases iz with rfl|rfl
  .rw[m.2];rfl
  .rw[n.2];rfl
 have k:∀op∈#[x,y],op.act.low B:=by
  intro op iz;simp only[List.mem_toArray,dC,nK,or_false]at iz;rcases iz with rfl|rfl
  .rw[m.2];trivial
  .rw[n.2];trivial
 have old:∀{i:Nat} {a:Touch},touchAt (t++#[x,y]) i=aa a->i<t.size/\touchAt t i=aa a:=by intro i a c;obtain⟨z,q,F⟩:=touch_of c;grind[touchAt_of]
 have w:∀z,z<j+1->∀b o v,f z b o=aa v->d b=0/\b≠Y.C/\b≠Y.Wg/\¬Y.Sh b:=λz q b o v p=>by
  rcases cG z j with h1|h1
  .exact h.ms z h1 b o v p
  grind
 refine⟨h.base,h.Io,h.hC,h.ne,h.Po,h.QQ,h.Ip,w,h.No,λsaid=>?_,seen_app h.seen k,λi a hi c d=>(h.old i a hi (old c).2 d).imp (·.app _) id,
  λz q i a hi c d=>?_,λi a b hi c hb=>h.GW i a b hi (old c).2 hb,λi a hi c d=>?_,λz q i a hi c s r b o v l p=>?_,h.r9 _⟩
 .have e:t++#[x,y]=(t++#[x])++#[y]:=by grind
  rw[e];refine noRace_append (g:=Y.base+j) (noRace_append (g:=0) (h.nr said) (λop iz=>by grind) (λi a _ op iz b hb _=>?_)) (λop iz=>by grind) (λi a _ op iz b hb _=>?_)
  .grind
  grind
 .rcases cG z j with h1|h1
  .exact(h.QR z h1 i a hi (old c).2 d).imp (·.app _) id
  .obtain rfl:z=j:=by omega
   exact(h.old i a hi (old c).2 d).imp (fork_knows m n A D) id
 .rw[j9 (old c).1];rcases h.new i a hi (old c).2 d with h1|⟨z,h1,h2⟩
  .grind
  grind
 .rw[j9 (old c).1]at s;rcases cG z j with h1|h1
  .exact(h.mw z h1 i a hi (old c).2 s r b o v l p).app _
  .obtain rfl:z=j:=by omega
   exact fork_knows m n A D (u9 (old c).2 s)
def TL.Qs(h:TL Y d f t j B)(M:Deaf t 0=0)(J:NoRelease (stA Y.Wg) t){q:Nat}(O:t.act? q=aa (.mark (.acquire (stA Y.Wg))))(y:t.g? q=aa 0)(A:t.heard q)(N:∀x,x<j->∃r,RelBy (stA Y.Wg) t (Y.base+x) r/\r<q):Past (kq λb=>Y.Sh b∨b=Y.Wg) B t:=by
 have m:∀x,x<j->∀i,t.g? i=aa (Y.base+x)->t.counts i->HappensBefore t i q:=by
  intro x w i v p;obtain⟨r,c,C⟩:=N x w;have e:HappensBefore t r q:=.single (.inr ⟨.marked C (.inr c.act) O (λk _ _=>J k),c.heard,A⟩);have K:i<=r:=Nat.le_of_not_lt λo=>c.after i o v p;rcases cG i r with o|I
  .exact .trans (.single (.inl ⟨o,_,v,c.g⟩)) e
  grind
 have n:∀{l:Go.Loc},kq Y.Sh l->kq (λb=>Y.Sh b∨b=Y.Wg) l:=λ{l} hl=>by cases l<;>first|exact .inl hl|exact hl
 refine⟨h.nr,λi a s d=>?_,λi g v F p=>?_,M,h.seen⟩
 .rcases cG i Y.T0 with hi|hi
  .exact(h.old i a hi s d).imp id λ⟨h1,h2⟩=>⟨n h1,h2⟩
  .rcases h.new i a hi s d with⟨h1,_⟩|⟨x,w,v,G⟩
   .grind [u9]
   .rcases G with⟨ad,e1,e2,e3⟩|⟨P,_⟩
    .exact .inr ⟨by rw[e1];exact .inr e2,e3⟩
    .left;have p:t.counts i:=⟨a,s,d,.inl (by grind)⟩
     obtain⟨z,L,E⟩:=pL.1 y;exact⟨q,z,L,E,.inr (m x w i v p)⟩
 .rcases cG i Y.T0 with hi|hi
  .exact h.over i g hi v F p
  .obtain⟨a,s,d,H⟩:=p;rcases h.new i a hi s d with⟨h1,_⟩|⟨x,w,D,G⟩
   .grind
   .exact⟨q,y,m x w i D ⟨a,s,d,H⟩⟩
def TL.start{Y:Lay}{t:Trace}{B:Nat}{f:Nat->Mem}(e:Past (kq Y.Sh) B t)(n:Y.T0=t.size)(hb:1<=Y.base)(b:Y.C≠Y.Wg)(j:¬Y.Sh Y.Wg)(k:¬Y.Sh Y.C):TL Y (λ_=>0) f t 0 B :=
 ⟨hb,rfl,rfl,b,j,k,λ_ _=>rfl,λx c=>absurd c (gR x),by omega,e.clean,e.seen,λi a _ h d=>e.known i a h d,λx c=>absurd c (gR x),λ_ _ _ _ _ _=>rfl,
  λi a hi h _=>by
   obtain⟨x,c,_⟩:=touch_of h
   grind,λx c=>absurd c (gR x),λi g _ m b l=>e.over i g m b l⟩
end
end
section
open Go.Conc
open Go.ConcN (WD CTag Mode Vc Ssum pend phi cnt WgLive PayAt Has RW DWs WSit RelBy sumTo upd upd_same upd_ne AtR0 get_map_set get_map_set_same norel_of Deaf_still)
open Go.ConcR (KK WgAt stA smA rd wr mk Payload g_of_ofEvents)
def Cx.work(P:aO):Cx P:={main:=ae,rely:=b6,vo:=λ_ _ _=>False,ij:=id,Bn:=True}
def Cx.lead(P:aO)(ty:aw)(Wg:Nat):Cx P:={main:=ab,rely:=λs s'=>b6 s s'/\(WgLive ty Wg s.w->WgLive ty Wg s'.w),vo:=λ_ _ _=>False,ij:=λh=>h.1,Bn:=False}
instance (P:aO):(Cx.work P).im:=⟨ar⟩
def E0:St->St->Array Event->Prop:=λ_ _ _=>False
def Es(Wg:Nat):St->St->Array Event->Prop:=λs s' es=>s'=s/\∃a:Addr,a.block=Wg/\(es=#[mk (.read a)]∨es=#[mk (.write a)])
def Pp:Nat->Go.Loc->Prop:=λ_ _=>False
variable [Payload]
structure TD(C N lo k:Nat)(vs:Nat->aj)(w w':aA):Prop where
 tape:w'.tape=w.tape
 os:w'.os=w.os
 output:w'.output=w.output
 size:w'.heap.size=w.heap.size
 block:∀b,b≠C->w'.heap[b]?=w.heap[b]?
 pay:PayAt C N w'
 out:∀o,(o<lo∨lo+k<=o)->w'.cell? ⟨C,o,af⟩=w.cell? ⟨C,o,af⟩
 new:∀i,i<k->w'.cell? ⟨C,lo+i,af⟩=aa (vs i)
section
variable (P:aO)(ty:aw)(Y:Lay)(N:Nat)(val:Nat->Nat->aj)
def Je(x:Nat)(g:aq)(s:St):Prop :=
 g.status=.running/\∀w1,b6 s {s with w:=w1}->PayAt Y.C N w1->WgLive ty Y.Wg w1 ->
  ∃g' w2 es,aH P ae g w1=.go g' w2 es/\TD Y.C N (Y.kc*x) Y.kc (val x) w1 w2/\(∀e∈es,∃o,e=⟨.cell ⟨Y.C,o,af⟩,ab,ae⟩/\Y.kc*x<=o/\o<Y.kc*x+Y.kc) /\
   ∃m,Goes P ae (RW ty Y.Wg Y.C N 0 (Y.kc*x)) Go.ConcR.DC0 (AtR0 P ty Y.Wg Y.C N 0 (Y.kc*x+1) (val x 0)) m g' w2
end
structure lJ(f:Nat->Nat)(r:Mem)(g:Nat)(s:St):Prop where
 blk:∀b,(s.own b∨∃L∈s.β,b∈L.bs)->f b=g/\b<s.w.heap.size
 M:∀b o v,s.M b o=aa v->(f b=g∨r b o=aa v)/\b<s.w.heap.size
structure jH(Y:Lay)(f:Nat->Nat)(E:Nat->Mem)(j:Nat)(s:St):Prop where
 blk:∀b,(s.own b∨∃L∈s.β,b∈L.bs)->f b=0/\b≠Y.C/\b≠Y.Wg/\¬Y.Sh b/\b<s.w.heap.size
 M:∀b o v,s.M b o=aa v->f b=0/\b≠Y.C/\b≠Y.Wg/\¬Y.Sh b/\b<s.w.heap.size
 ms:∀x,x<j->∀b o v,E x b o=aa v->s.M b o=aa v
structure GX(Y:Lay)(f:Nat->Nat)(r:Mem)(y:Nat)(w w':aA):Prop where
 size:w.heap.size<=w'.heap.size
 blk:∀b,b<w.heap.size->f b=Y.base+y->w'.heap[b]?=w.heap[b]?
 cell:∀b o v,r b o=aa v->w.cell? ⟨b,o,af⟩=aa v->w'.cell? ⟨b,o,af⟩=aa v
 pay:∀o,Y.kc*y<=o->o<Y.kc*y+Y.kc->w'.cell? ⟨Y.C,o,af⟩=w.cell? ⟨Y.C,o,af⟩
 os:w'.os=w.os
 tape:w'.tape=w.tape
 output:w'.output=w.output
omit [Payload]in
def GX.refl(Y:Lay)(f:Nat->Nat)(r:Mem)(y:Nat)(w:aA):GX Y f r y w w:=⟨ba _,λ_ _ _=>rfl,λ_ _ _ _ h=>h,λ_ _ _=>rfl,rfl,rfl,rfl⟩
omit [Payload]in
def GX.at(Y:Lay)(f:Nat->Nat)(r:Mem)(y:Nat)(w:aA)(d:Nat):GX Y f r y w (w.at d):=⟨ba _,λ_ _ _=>rfl,λ_ _ _ _ h=>h,λ_ _ _=>rfl,rfl,rfl,rfl⟩
structure DW(Y:Lay)(f:Nat->Nat)(w w':aA):Prop where
 size:w.heap.size<=w'.heap.size
 blk:∀b,b<w.heap.size->f b=0->b≠Y.C->b≠Y.Wg->w'.heap[b]?=w.heap[b]?
 os:w'.os=w.os
 tape:w'.tape=w.tape
 output:w'.output=w.output
omit [Payload]in
def jI(h:w'.heap[b]?=w.heap[b]?)(o:Nat):w'.cell? ⟨b,o,af⟩=w.cell? ⟨b,o,af⟩:=by simp[aW,h]
omit [Payload]in
def b6.more(h:b6 s {s with w:=w})(u:w.heap.size<=w'.heap.size)(c:∀b,(s.own b∨∃L∈s.β,b∈L.bs)->w'.heap[b]?=w.heap[b]?)(X:∀b o v,s.M b o=aa v->w.cell? ⟨b,o,af⟩=aa v->w'.cell? ⟨b,o,af⟩=aa v)(l:w'.os=w.os)(q:w'.tape=w.tape)(t:w'.output=w.output):b6 s {s with w:=w'} :=
 ⟨rfl,rfl,rfl,dT h.size u,λb J=>by show w'.heap[b]?=_;rw[c b J];exact h.keep b J,λb o v p=>X b o v p (h.mem b o v p),l.trans h.os,q.trans h.tape,t.trans h.output⟩
section
variable {Y:Lay}{f hm':Nat->Nat}{E:Nat->Mem}{y:Nat}
omit [Payload]in
def lJ.Jf(n:lJ f (E y) (Y.base+y) s)(h:b6 s {s with w:=w})(k:GX Y f (E y) y w w'):b6 s {s with w:=w'}:=by
 have u:=h.size;refine h.more k.size (λb c=>?_) (λb o v p K=>?_) k.os k.tape k.output
 .obtain⟨l,q⟩:=n.blk b c;exact k.blk b (cB q u) l
 .obtain⟨l,q⟩:=n.M b o v p;rcases l with l|l
  .rw[jI (k.blk b (cB q u) l) o];exact K
  .exact k.cell b o v l K
omit [Payload]in
def lJ.s9{r:Mem}{g:Nat}(n:lJ f r g s)(h:s.w.heap.size<=w.heap.size)(W:∀b,b<w.heap.size->hm' b=f b):lJ hm' r g s :=
 ⟨λb c=>let ⟨l,q⟩:=n.blk b c;⟨by grind,q⟩,λb o v p=>let ⟨l,q⟩:=n.M b o v p;⟨by grind,q⟩⟩
omit [Payload]in
def jH.Jf(n:jH Y f E j s)(h:b6 s {s with w:=w})(k:DW Y f w w'):b6 s {s with w:=w'}:=by
 have u:=h.size;refine h.more k.size (λb c=>?_) (λb o v p K=>?_) k.os k.tape k.output
 .obtain⟨l,q,t,G,D⟩:=n.blk b c;exact k.blk b (cB D u) l q t
 .obtain⟨l,q,t,G,D⟩:=n.M b o v p;rw[jI (k.blk b (cB D u) l q t) o];exact K
omit [Payload]in
def jH.s9(n:jH Y f E j s)(h:s.w.heap.size<=w.heap.size)(W:∀b,b<w.heap.size->hm' b=f b):jH Y hm' E j s :=
 ⟨λb c=>let ⟨l,q,t,G,D⟩:=n.blk b c;⟨by grind,q,t,G,D⟩,
  λb o v p=>let ⟨l,q,t,G,D⟩:=n.M b o v p;⟨by grind,q,t,G,D⟩,n.ms⟩
omit [Payload]in
def lJ.rely{r:Mem}{g:Nat}(n:lJ f r g s)(h:s.w.heap.size<=w.heap.size):lJ f r g {s with w:=w} :=
 ⟨λb c=>let ⟨l,q⟩:=n.blk b c;⟨l,cB q h⟩,λb o v p=>let ⟨l,q⟩:=n.M b o v p;⟨l,cB q h⟩⟩
omit [Payload]in
def jH.rely(n:jH Y f E j s)(h:s.w.heap.size<=w.heap.size):jH Y f E j {s with w:=w} :=
 ⟨λb c=>let ⟨l,q,t,G,D⟩:=n.blk b c;⟨l,q,t,G,cB D h⟩,λb o v p=>let ⟨l,q,t,G,D⟩:=n.M b o v p;⟨l,q,t,G,cB D h⟩,n.ms⟩
omit [Payload]in
theorem lJ.ghost{r:Mem}{g:Nat}(n:lJ f r g s)(k:eO s s'):lJ f r g s':=by
 refine⟨λb c=>by rw[k.w];exact n.blk b (k.blk b c),λb o v p=>?_⟩;rw[k.w];by_cases c:∃L∈s.β,b∈L.bs
 .obtain⟨l,q⟩:=n.blk b (.inr c);grind
 .exact n.M b o v (by rw[<-k.iO b (λL A z=>c ⟨L,A,z⟩)];exact p)
omit [Payload]in
def lJ.forget{r:Mem}{g:Nat}(n:lJ f r g s)(k:mL s s'):lJ f r g s' :=
 ⟨λb c=>by rw[k.w];exact n.blk b (by rw[<-k.own,<-k.β];exact c),λb o v p=>by rw[k.w];exact n.M b o v (k.less b o v p)⟩
omit [Payload]in
theorem jH.ghost(n:jH Y f E j s)(k:eO s s'):jH Y f E j s':=by
 refine⟨λb c=>by rw[k.w];exact n.blk b (k.blk b c),λb o v p=>?_,λx O b o v p=>k.mem _ _ _ (n.ms x O b o v p)⟩;rw[k.w];by_cases c:∃L∈s.β,b∈L.bs
 .exact n.blk b (.inr c)
 .exact n.M b o v (by rw[<-k.iO b (λL A z=>c ⟨L,A,z⟩)];exact p)
def m9(f:Nat->Nat)(B g:Nat):Nat->Nat:=λb=>if b<B then f b else g
omit [Payload]in
theorem eP{f:Nat->Nat}{B g:Nat}(h:b<B):m9 f B g b=f b:=by simp[m9,h]
omit [Payload]in
theorem ta{f:Nat->Nat}{B g:Nat}(h:B<=b):m9 f B g b=g:=by simp[m9,ma.2 h]
omit [Payload]in
def lJ.step{r:Mem}{g:Nat}(n:lJ f r g s)(H:aD σ' s')(st:Step σ s σ' s'):lJ (m9 f s.w.heap.size g) r g s':=by
 refine⟨λb c=>?_,λb o v p=>?_⟩
 .rcases c with c|⟨L,A,c⟩
  .rw[st.own]at c;obtain⟨l,q⟩:=n.blk b (.inl c);exact⟨by grind[eP],cB q st.size⟩
  .have F:=H.lt L A b c;rcases st.uW L A b c with l|⟨R,I,l⟩
   .grind [ta]
   .obtain⟨k1,Q⟩:=n.blk b (.inr ⟨R,I,l⟩);grind[eP]
 .have F:=fW.lt H.mem p;rcases cG b s.w.heap.size with l|l
  .rw[eP l];by_cases c:∃L∈s.β,b∈L.bs
   .exact⟨.inl (n.blk b (.inr c)).1,F⟩
   .rw[st.iO b l (λL A z=>c ⟨L,A,z⟩)]at p;exact⟨(n.M b o v p).1,F⟩
  grind[ta]
omit [Payload]in
def jH.step(n:jH Y f E j s)(H:aD σ' s')(st:Step σ s σ' s')(Z:Y.Wg<s.w.heap.size)(hC:Y.C<s.w.heap.size)(hS:∀b,Y.Sh b->b<s.w.heap.size):jH Y (m9 f s.w.heap.size 0) E j s':=by
 have U:∀b,s.w.heap.size<=b->b<s'.w.heap.size->m9 f s.w.heap.size 0 b=0/\b≠Y.C/\b≠Y.Wg/\¬Y.Sh b/\b<s'.w.heap.size:=λb l q =>
  ⟨ta l,by omega,by omega,λh=>by grind,q⟩
 refine⟨λb c=>?_,λb o v p=>?_,λx O b o v p=>st.mem _ _ _ (n.ms x O b o v p)⟩
 .rcases c with c|⟨L,A,c⟩
  .rw[st.own]at c;obtain⟨l,q,t,G,D⟩:=n.blk b (.inl c);exact⟨by grind[eP],q,t,G,cB D st.size⟩
  .have F:=H.lt L A b c;rcases st.uW L A b c with l|⟨R,I,l⟩
   .grind
   .obtain⟨k1,Q,T,S,V⟩:=n.blk b (.inr ⟨R,I,l⟩);grind[eP]
 .have F:=fW.lt H.mem p;rcases cG b s.w.heap.size with l|l
  .by_cases c:∃L∈s.β,b∈L.bs
   .obtain⟨k1,Q,T,S,V⟩:=n.blk b (.inr c);grind[eP]
   .rw[st.iO b l (λL A z=>c ⟨L,A,z⟩)]at p;obtain⟨k1,Q,T,S,V⟩:=n.M b o v p;grind[eP]
  grind
end
end
section
open Go.Conc
open Go.ConcN (WD CTag Mode Vc Ssum pend phi cnt WgLive PayAt Has RW DWs WSit RelBy sumTo upd upd_same upd_ne AtR0 get_map_set get_map_set_same norel_of Deaf_still)
open Go.ConcR (KK WgAt stA smA rd wr mk Payload g_of_ofEvents)
variable [Payload]
section
variable (P:aO)(ty:aw)(Y:Lay)(N:Nat)(val:Nat->Nat->aj)(l:Nat->Nat)(c:Nat->Mem)
inductive WS (x:Nat):Nat->Nat->Rk->Nat->aq->aA->Prop
 |am {r:Rk} {g:aq} {s:St} {w:aA}:j1 (Cx.work P) E0 (Je P ty Y N val x) r g s->b6 s {s with w:=w}->lJ l (c x) (Y.base+x) s->WS x 1 7 r 0 g w
 |rel {m:Nat} {g:aq} {w:aA}:Goes P ae (RW ty Y.Wg Y.C N 0 (Y.kc*x)) Go.ConcR.DC0 (AtR0 P ty Y.Wg Y.C N 0 (Y.kc*x+1) (val x 0)) m g w->WS x 0 7 (Rk.nat m) 0 g w
 |tail {st m d:Nat} {g:aq} {w:aA}:st<=6->WSit P ty Y.Wg Y.C N Pp Pp 0 (Y.kc*x+1) (val x 0) st m d g w->WS x 0 st (Rk.nat m) d g w
structure Com(j:Nat)(gs:Array aq)(w:aA)(t:Trace)(D:Nat->WD)(A:Nat->Nat)(K:Nat->Rk)(n:Nat):Prop where
 size:gs.size=Y.base+j
 lv:∀i g,0<i->i<Y.base->gs[i]?=aa g->∃m,K i=Rk.nat m/\QuitsD P m (Deaf t i) g
 above:∀i,Y.base+j<=i->Deaf t i=0
 wk:∀x,x<j->∃g,gs[Y.base+x]?=aa g/\WS P ty Y N val l c x (A x) (D x).stage (K (Y.base+x)) (D x).deaf g w
 tl:TL Y l c t j w.heap.size
 norel:mU t
 deaf0:Deaf t 0=n
 deafW:∀x,x<j->Deaf t (Y.base+x)=(D x).deaf
 rel:∀x,x<j->(D x).stage<=6->∃r,RelBy (stA Y.Wg) t (Y.base+x) r
 xZ:∀x,x<j->A x=0->∀i,1<=i->i<Y.kc->w.cell? ⟨Y.C,Y.kc*x+i,af⟩=aa (val x i)
 BO:∀x,x<j->(D x).stage<=6->Has Y.C (Y.kc*x) (val x 0) w
 pay:PayAt Y.C N w
 live:WgLive ty Y.Wg w
 Bg:Y.Wg<w.heap.size
 Du:Y.C<w.heap.size
 Mz:∀b,Y.Sh b->b<w.heap.size
 kc:0<Y.kc
 Np:∀y,y<j->∀b o v,c y b o=aa v->b<w.heap.size
end
section
variable {P:aO}{ty:aw}{Y:Lay}{N:Nat}{val:Nat->Nat->aj}{l hm':Nat->Nat}{c:Nat->Mem}{x:Nat}{t:Trace}{D:Nat->WD}{A:Nat->Nat}{K:Nat->Rk}{n:Nat}
def RW.Jf(k:GX Y l (c x) x w w')(hl:WgLive ty Y.Wg w')(a:PayAt Y.C N w')(d:0<Y.kc):RW ty Y.Wg Y.C N 0 (Y.kc*x+1-1) w w' :=
 ⟨λb hb=>absurd hb (gR b),λ_=>hl,λ_=>a,k.pay _ (ba _) (by grind)⟩
def WS.Jf{a st d:Nat}{r:Rk}{g:aq}(h:WS P ty Y N val l c x a st r d g w)(k:GX Y l (c x) x w w')(hl:WgLive ty Y.Wg w')(e:PayAt Y.C N w')(i:0<Y.kc)(hh:∀b,b<w.heap.size->hm' b=l b):
  WS P ty Y N val hm' c x a st r d g w':=by
 cases h with
 |am h1 h2 h3=>exact .am h1 (h3.Jf h2 k) (h3.s9 h2.size hh)
 |rel h1=>exact .rel (Goes.rely (λ_ _ _ h1 h2=>h1.trans h2) h1 (RW.Jf k hl e i))
 |tail h0 h1=>exact .tail h0 (h1.rely (RW.Jf k hl e i))
omit [Payload]in
def j1.run{X:Cx P}{E:St->St->Array Event->Prop}{S:aq->St->Prop}(p:∀g s,S g s->g.status=.running):∀{r:Rk}{g:aq}{s:St},j1 X E S r g s->g.status=.running
 |.leaf,_,_,h=>p _ _ h
 |.node f,g,s,h=>by
  rcases h with h|⟨s',_,h⟩|⟨h,_⟩
  .grind
  .exact j1.run p (r:=f s) h
  grind
def WS.status{a st d:Nat}{r:Rk}{g:aq}(h:WS P ty Y N val l c x a st r d g w):g.status=.running∨g.status=.finished:=by
 cases h with
 |am h1 _ _=>exact .inl (h1.run λg s h=>h.1)
 |rel h1=>exact .inl (Goes.running (λ_ _ x=>x.1) w (Go.ConcN.RW.refl w) h1)
 |tail _ h1=>exact h1.status
def WS.woken{a st d:Nat}{r:Rk}{g:aq}(h:WS P ty Y N val l c x a st r d g w)(b e:aq)(w':aA):woken P b e w' g=g:=by
 unfold Go.Conc.woken;split
 .exact again_running _ h.status
 .rfl
def Com.at(h:Com P ty Y N val l c j gs w t D A K n)(d:Nat):Com P ty Y N val l c j gs (w.at d) t D A K n :=
 ⟨h.size,h.lv,h.above,λx a=>let ⟨g,h1,h2⟩:=h.wk x a;⟨g,h1,h2.Jf (.at ..) h.live h.pay h.kc λ_ _=>rfl⟩,h.tl,h.norel,h.deaf0,h.deafW,h.rel,h.xZ,h.BO,h.pay,h.live,h.Bg,h.Du,h.Mz,h.kc,h.Np⟩
def Com.stepW(h:Com P ty Y N val l c j gs w t D A K n)(hx:x<j){g':aq}{fn:aK}{pos:String}{es:Array Event}{a' qB d':Nat}{r':Rk}(hh:∀b,b<w.heap.size->hm' b=l b)(q:w.heap.size<=w'.heap.size)(u:∀y,y<j->y≠x->GX Y l (c y) y w w')(O:WS P ty Y N val hm' c x a' qB r' d' g' w')(TE:∀e∈es,(aG e).low w'.heap.size)(VG:∀e∈es,∀a,(aG e).touch?=aa a->a.loc.isMemory=ab->qG Y hm' (c x) x a)(V:∀e∈es,∀a,e.loc≠.mark (.release a))(I:deafBehind (D x).deaf es=d')(Z:qB<=6->∃r,RelBy (stA Y.Wg) (t++MemOp.ofEvents (Y.base+x) fn pos es) (Y.base+x) r)(h1:a'=0->∀i,1<=i->i<Y.kc->w'.cell? ⟨Y.C,Y.kc*x+i,af⟩=aa (val x i))(h0:qB<=6->Has Y.C (Y.kc*x) (val x 0) w')(H:PayAt Y.C N w')(B:WgLive ty Y.Wg w'):
  Com P ty Y N val hm' c j ((gs.map (woken P g g' w')).setIfInBounds (Y.base+x) g') w' (t++MemOp.ofEvents (Y.base+x) fn pos es) (upd D x ⟨qB,0,d'⟩) (upd A x a') (upd K (Y.base+x) r') n:=by
 have hb:=h.tl.base;have F:∀y,y≠x->Y.base+x≠Y.base+y:=λy d e=>d (by omega);have Q:∀i G,0<i->i<Y.base->((gs.map (Go.Conc.woken P g g' w')).setIfInBounds (Y.base+x) g')[i]?=aa G->gs[i]?=aa G:=by intro i G hi Pq FM;rw[get_map_set _ _ _ _ (by omega)]at FM;obtain⟨z,hz,rfl⟩:=pL.1 FM;obtain⟨m,_,hq⟩:=h.lv i z hi Pq hz;grind[woken_quitsD]
 refine⟨by simp[h.size],λi G hi Pq FM=>?_,λi hi=>?_,λy d=>?_,?_,h.norel.app V,by rw[Deaf_other t (by omega) _ g_of_ofEvents,h.deaf0],λy d=>?_,λy d k=>?_,λy d L i T U=>?_,λy d k=>?_,H,B,cB h.Bg q,cB h.Du q,λb hb=>cB (h.Mz b hb) q,h.kc,λy d b o v M=>cB (h.Np y d b o v M) q⟩
 .obtain⟨m,W,R⟩:=h.lv i G hi Pq (Q i G hi Pq FM);refine⟨m,by rw[upd_ne K _ (by omega)];exact W,?_⟩;rw[Deaf_other t (by omega) _ g_of_ofEvents];exact R
 .rw[Deaf_other t (by omega) _ g_of_ofEvents];exact h.above i hi
 .by_cases e:y=x
  .subst e;exact⟨g',get_map_set_same _ _ _ (by rw[h.size];omega),by rw[upd_same,upd_same,upd_same];exact O⟩
  .obtain⟨G,FM,J⟩:=h.wk y d;refine⟨G,by rw[get_map_set _ _ _ _ (F y e),FM,mI,J.woken],?_⟩;rw[upd_ne A _ e,upd_ne D _ e,upd_ne K _ (F y e).symm];exact J.Jf (u y d e) B H h.kc hh
 .refine(h.tl.s9 hh q h.Bg h.Du h.Mz λy d b o v M=>?_).appW hx (λop iz=>by grind[Go.Conc.mem_ofEvents]) (λop iz=>?_) (λop iz a L hma=>?_)
  .exact h.Np y d b o v M
  .grind [Go.Conc.mem_ofEvents]
  grind[Go.Conc.mem_ofEvents]
 .by_cases e:y=x
  .subst e;rw[Deaf_own,h.deafW y d,upd_same];exact I
  .rw[Deaf_other t (F y e) _ g_of_ofEvents,h.deafW y d,upd_ne D _ e]
 .by_cases e:y=x
  .subst e;rw[upd_same]at k;grind
  .rw[upd_ne D _ e]at k;obtain⟨r,hr⟩:=h.rel y d k;exact⟨r,hr.appOther g_of_ofEvents (F y e)⟩
 .by_cases e:y=x
  .subst e;rw[upd_same]at L;grind
  .rw[upd_ne A _ e]at L;rw[(u y d e).pay _ (by omega) (by omega)];exact h.xZ y d L i T U
 .by_cases e:y=x
  .subst e;rw[upd_same]at k;grind
  .rw[upd_ne D _ e]at k;have:=h.BO y d k;have hk:=h.kc;simp only[Has]at this⊢;rw[(u y d e).pay _ (by omega) (by omega)];exact this
def Com.step0(h:Com P ty Y N val l c j gs w t D A K n){g':aq}{fn:aK}{pos:String}{es:Array Event}(hh:∀b,b<w.heap.size->hm' b=l b)(k:w.heap.size<=w'.heap.size)(q:∀y,y<j->GX Y l (c y) y w w')(R:∀e∈es,(aG e).low w'.heap.size)(Z:∀e∈es,∀a,(aG e).touch?=aa a->a.loc.isMemory=ab->r8 Y hm' a)(U:∀e∈es,∀a,(aG e).touch?=aa a->a.kind=.plain->a.write=ab->∀x,x<j->∀b o v,a.loc=.cell ⟨b,o,af⟩->c x b o≠aa v)(M:∀e∈es,∀a,e.loc≠.mark (.release a))(B:PayAt Y.C N w')(u:WgLive ty Y.Wg w'):
  Com P ty Y N val hm' c j ((gs.map (woken P g g' w')).setIfInBounds 0 g') w' (t++MemOp.ofEvents 0 fn pos es) D A K (deafBehind n es):=by
 have hb:=h.tl.base;have hk:=h.kc;refine⟨by simp[h.size],λi Q hi Pq FM=>?_,λi hi=>?_,λy d=>?_,?_,h.norel.app M,by rw[Deaf_own,h.deaf0],λy d=>by rw[Deaf_other t (by omega) _ g_of_ofEvents,h.deafW y d],λy d F=>?_,λy d I i J L=>?_,λy d F=>?_,B,u,cB h.Bg k,cB h.Du k,λb hb=>cB (h.Mz b hb) k,h.kc,λy d b o v T=>cB (h.Np y d b o v T) k⟩
 .rw[get_map_set _ _ _ _ (by omega)]at FM;obtain⟨z,W,rfl⟩:=pL.1 FM;obtain⟨m,O,H⟩:=h.lv i z hi Pq W;exact⟨m,O,by rw[woken_quitsD H,Deaf_other t (by omega) _ g_of_ofEvents];exact H⟩
 .rw[Deaf_other t (by omega) _ g_of_ofEvents];exact h.above i hi
 .obtain⟨Q,FM,G⟩:=h.wk y d;exact⟨Q,by rw[get_map_set _ _ _ _ (by omega),FM,mI,G.woken],G.Jf (q y d) u B h.kc hh⟩
 .refine(h.tl.s9 hh k h.Bg h.Du h.Mz h.Np).app0 (λop iz=>by grind[Go.Conc.mem_ofEvents]) (λop iz=>?_) (λop iz a I V=>?_) (λop iz a I=>?_)
  .grind [Go.Conc.mem_ofEvents]
  .grind [Go.Conc.mem_ofEvents]
  grind[Go.Conc.mem_ofEvents]
 .obtain⟨r,hr⟩:=h.rel y d F;exact⟨r,hr.appOther g_of_ofEvents (by omega)⟩
 .rw[(q y d).pay _ (by omega) (by omega)];exact h.xZ y d I i J L
 .have:=h.BO y d F;simp only[Has]at this⊢;rw[(q y d).pay _ (by omega) (by omega)];exact this
def Com.leave(h:Com P ty Y N val l c j gs w t D A K n){m:Nat}(hi:0<i)(L:i<Y.base){g':aq}{fn:aK}{pos:String}{es:Array Event}(G:∀e∈es,e.mute=ab)(Q:QuitsD P m (deafBehind (Deaf t i) es) g'):
  Com P ty Y N val l c j ((gs.map (woken P g g' w)).setIfInBounds i g') w (t++MemOp.ofEvents i fn pos es) D A (upd K i (Rk.nat m)) n:=by
 have hb:=h.tl.base;have u:∀e∈es,∀a,e.loc≠.mark (.release a):=λe O a=>vp (G e O) a;refine⟨by simp[h.size],λk H C F b=>?_,λk C=>?_,λy o=>?_,?_,h.norel.app u,by rw[Deaf_other t (by omega) _ g_of_ofEvents,h.deaf0],λy o=>by rw[Deaf_other t (by omega) _ g_of_ofEvents,h.deafW y o],λy o v=>?_,h.xZ,h.BO,h.pay,h.live,h.Bg,h.Du,h.Mz,h.kc,h.Np⟩
 .by_cases e:k=i
  .subst e;rw[get_map_set_same _ _ _ (by grind)]at b;cases b;exact⟨m,by rw[upd_same],by grind[Deaf_own]⟩
  .rw[get_map_set _ _ _ _ (Ne.symm e)]at b;obtain⟨z,J,rfl⟩:=pL.1 b;obtain⟨I,B,q⟩:=h.lv k z C F J;exact⟨I,by rw[upd_ne K _ e];exact B,by rw[woken_quitsD q,Deaf_other t (Ne.symm e) _ g_of_ofEvents];exact q⟩
 .rw[Deaf_other t (by omega) _ g_of_ofEvents];exact h.above k C
 .obtain⟨H,b,d⟩:=h.wk y o;exact⟨H,by rw[get_map_set _ _ _ _ (by omega),b,mI,d.woken],by rw[upd_ne K _ (by omega)];exact d⟩
 .exact h.tl.mute (g:=i) (λop iz=>by grind[Go.Conc.mem_ofEvents]) (λop iz=>by grind[Go.Conc.mem_ofEvents,low_mute]) (λop iz=>by grind[Go.Conc.mem_ofEvents,touch_mute])
 .obtain⟨r,M⟩:=h.rel y o v;exact⟨r,M.appOther g_of_ofEvents (by omega)⟩
def Com.spawn(h:Com P ty Y N val l c j gs w t D A K 0){a' child:aq}{x y:MemOp}{r:Rk}(M:x.g=0/\x.act=.go (Y.base+j))(Q:y.g=Y.base+j/\y.act=.start)(O:∀b o v,c j b o=aa v->l b=0/\b≠Y.C/\b≠Y.Wg/\¬Y.Sh b/\b<w.heap.size)(L:j1 (Cx.work P) E0 (Je P ty Y N val j) r child s)(G:b6 s {s with w:=w})(I:lJ l (c j) (Y.base+j) s):
  Com P ty Y N val l c (j+1) ((gs.setIfInBounds 0 a').push child) w (t++#[x,y]) (upd D j ⟨7,0,0⟩) (upd A j 1) (upd K (Y.base+j) r) 0:=by
 have hb:=h.tl.base;have R:∀op∈#[x,y],op=x∨op=y:=by grind
 have d:∀op∈#[x,y],op.act≠.mark .disable/\op.act≠.mark .enable:=by grind
 have q:∀i,0<i->i<Y.base+j->((gs.setIfInBounds 0 a').push child)[i]?=gs[i]?:=λi hi sS=>by rw[Array.getElem?_push_lt (by simp[h.size];omega),<-fN,nE (by omega)]
 refine⟨by simp[h.size];omega,λi g hi Pq hg=>?_,λi hi=>?_,λz k=>?_,h.tl.fork M Q h.deaf0 (h.above _ (ba _)) λb o v u=>let ⟨h1,h2,H,J,_⟩:=O b o v u;⟨h1,h2,H,J⟩,λad=>(h.norel ad).app λop iz=>?_,by rw[Deaf_still t 0 _ d,h.deaf0],λz k=>?_,λz k e=>?_,λz k B=>?_,λz k e=>?_,h.pay,h.live,h.Bg,h.Du,h.Mz,h.kc,λz k b o v u=>?_⟩
 .rw[q i hi (by omega)]at hg;obtain⟨m,h1,h2⟩:=h.lv i g hi Pq hg;exact⟨m,by rw[upd_ne K _ (by omega)];exact h1,by rw[Deaf_still t _ _ d];exact h2⟩
 .rw[Deaf_still t _ _ d];exact h.above i (by omega)
 .rcases cG z j with sS|a
  .obtain⟨g,hg,F⟩:=h.wk z sS;exact⟨g,by grind,by rw[upd_ne D _ (by omega),upd_ne A _ (by omega),upd_ne K _ (by omega)];exact F⟩
  .obtain rfl:z=j:=by omega
   refine⟨child,?_,by rw[upd_same,upd_same,upd_same];exact .am L G I⟩;rw[show Y.base+z=(gs.setIfInBounds 0 a').size by simp[h.size],Array.getElem?_push_size]
 .grind
 .rw[Deaf_still t _ _ d];rcases cG z j with sS|a
  .rw[h.deafW z sS,upd_ne D _ (by omega)]
  .obtain rfl:z=j:=by omega
   rw[upd_same];exact h.above _ (ba _)
 .rcases cG z j with sS|a
  .rw[upd_ne D _ (by omega)]at e;obtain⟨r,G⟩:=h.rel z sS e;refine⟨r,G.appNot λop iz=>?_⟩;grind
  .obtain rfl:z=j:=by omega
   rw[upd_same]at e;grind
 .rcases cG z j with sS|a
  .rw[upd_ne A _ (by omega)]at B;exact h.xZ z sS B
  .obtain rfl:z=j:=by omega
   rw[upd_same]at B;grind
 .rcases cG z j with sS|a
  .rw[upd_ne D _ (by omega)]at e;exact h.BO z sS e
  .obtain rfl:z=j:=by omega
   rw[upd_same]at e;grind
 .rcases cG z j with sS|a
  .exact h.Np z sS b o v u
  grind
end
end
section
open Go.Conc
open Go.ConcN (WD CTag Mode Vc Ssum pend phi cnt WgLive PayAt Has RW DWs WSit RelBy sumTo upd upd_same upd_ne AtR0)
open Go.ConcR (KK WgAt stA smA rd wr mk Payload g_of_ofEvents again_blocked)
variable [Payload]
section
variable (P:aO)(ty:aw)(Y:Lay)(N:Nat)(val:Nat->Nat->aj)(n:Nat)(T l:aq->St->Prop)
def AtAcq(g:aq)(s:St):Prop:=g.status=.running/\∃g',(∀w,aH P ab g w=.go g' w #[mk (.acquire (stA Y.Wg))])/\∀c,(Cx.lead P ty Y.Wg).rely s c->T g' c
def AtKe(g:aq)(s:St):Prop:=g.status=.running/\∃g',(∀w,aH P ab g w=.go g' w #[mk .enable])/\∀c,(Cx.lead P ty Y.Wg).rely s c->(ei (Cx.lead P ty Y.Wg) (Es Y.Wg)) (AtAcq P ty Y T) g' c
def AtW4(g:aq)(s:St):Prop:=g.status=.running/\∀c,(Cx.lead P ty Y.Wg).rely s c->WgAt ty Y.Wg c.w 0 0->∃g',aH P ab g c.w=.go g' c.w #[rd (stA Y.Wg)]/\(ei (Cx.lead P ty Y.Wg) (Es Y.Wg)) (AtKe P ty Y T) g' c
def AtW3(g:aq)(s:St):Prop:=g.status=.running/\g.offers=af/\∀c,(Cx.lead P ty Y.Wg).rely s c ->
 ((∃st,WgAt ty Y.Wg c.w st 0)->aH P ab g c.w=.go {g with status:=.blocked} c.w #[]) /\
 (WgAt ty Y.Wg c.w 0 1->∃g',aH P ab g c.w=.go g' (c.w.setCell (smA Y.Wg) (.int .u32 0)) (semEvents (smA Y.Wg))/\(ei (Cx.lead P ty Y.Wg) (Es Y.Wg)) (AtW4 P ty Y T) g' {c with w:=c.w.setCell (smA Y.Wg) (.int .u32 0)})
def AtW2(vs:Nat)(g:aq)(s:St):Prop:=g.status=.running/\∀c,(Cx.lead P ty Y.Wg).rely s c->∀v:Nat,v<2147483648->WgAt ty Y.Wg c.w (v*KK) 0 ->
 (v=vs->∃g',aH P ab g c.w=.go g' (c.w.setCell (stA Y.Wg) (.int .u64 (v*KK+1))) #[rd (stA Y.Wg),wr (stA Y.Wg)]/\(ei (Cx.lead P ty Y.Wg) (Es Y.Wg)) (AtW3 P ty Y T) g' {c with w:=c.w.setCell (stA Y.Wg) (.int .u64 (v*KK+1))}) /\
 (v≠vs->∃g',aH P ab g c.w=.go g' c.w #[rd (stA Y.Wg)]/\l g' c)
def AtW1(g:aq)(s:St):Prop:=g.status=.running/\∀c,(Cx.lead P ty Y.Wg).rely s c->∀v:Nat,v<2147483648->WgAt ty Y.Wg c.w (v*KK) 0 ->
 ∃g',aH P ab g c.w=.go g' c.w #[rd (stA Y.Wg)]/\(v=0->(ei (Cx.lead P ty Y.Wg) (Es Y.Wg)) (AtKe P ty Y T) g' c)/\(v≠0->(ei (Cx.lead P ty Y.Wg) (Es Y.Wg)) (AtW2 P ty Y T l v) g' c)
def AtKd(g:aq)(s:St):Prop:=g.status=.running/\∃g',(∀w,aH P ab g w=.go g' w #[mk .disable])/\∀c,(Cx.lead P ty Y.Wg).rely s c->l g' c
def St.child(s:St):St:={β:=[],M:=s.M,w:=s.w,own:=λ_=>False}
def AtGo(j:Nat)(Next:aq->St->Prop)(g:aq)(s:St):Prop:=g.status=.running/\∀c,(Cx.lead P ty Y.Wg).rely s c ->
 ∃g' child,aH P ab g c.w=.spawn g' child c.w #[]/\child.status=.running/\ei (Cx.work P) E0 (Je P ty Y N val j) child c.child/\Next g' c
def AtKeS(j:Nat)(Next:aq->St->Prop)(g:aq)(s:St):Prop:=g.status=.running/\∃g',(∀w,aH P ab g w=.go g' w #[mk .enable])/\∀c,(Cx.lead P ty Y.Wg).rely s c->(ei (Cx.lead P ty Y.Wg) (Es Y.Wg)) (AtGo P ty Y N val j Next) g' c
def AtA1(j:Nat)(Next:aq->St->Prop)(g:aq)(s:St):Prop:=g.status=.running/\∀c,(Cx.lead P ty Y.Wg).rely s c->∀v:Nat,v<2147483647->WgAt ty Y.Wg c.w (v*KK) 0 ->
 ∃g',aH P ab g c.w=.go g' (c.w.setCell (stA Y.Wg) (.int .u64 ((v+1)*KK))) #[rd (stA Y.Wg),wr (stA Y.Wg)]/\(ei (Cx.lead P ty Y.Wg) (Es Y.Wg)) (AtKeS P ty Y N val j Next) g' {c with w:=c.w.setCell (stA Y.Wg) (.int .u64 ((v+1)*KK))}
def AtKdS(j:Nat)(Next:aq->St->Prop)(g:aq)(s:St):Prop:=g.status=.running/\∃g',(∀w,aH P ab g w=.go g' w #[mk .disable])/\∀c,(Cx.lead P ty Y.Wg).rely s c->(ei (Cx.lead P ty Y.Wg) (Es Y.Wg)) (AtA1 P ty Y N val j Next) g' c
def Spawns:Nat->aq->St->Prop
 |0,g,s=>(ei (Cx.lead P ty Y.Wg) (Es Y.Wg)) (AtKd P ty Y l) g s
 |r+1,g,s=>(ei (Cx.lead P ty Y.Wg) (Es Y.Wg)) (AtKdS P ty Y N val (n-(r+1)) (Spawns r)) g s
def Rk.lift:Rk->Rk
 |.leaf=>.node λ_=>.leaf
 |.node f=>.node λs=>Rk.lift (f s)
omit [Payload]in
def Rk.FN:∀{x r:Rk},Rk.lt x r->Rk.lt x.lift r.lift
 |_,.leaf,h=>h.elim
 |_,.node _,⟨s,h⟩=>⟨s,h.elim (λe=>.inl (by rw[e])) λh=>.inr (Rk.FN h)⟩
omit [Payload]in
def Rk.Jg(s:St):∀r:Rk,∃x,Rk.lt x r.lift
 |.leaf=>⟨.leaf,s,.inl rfl⟩
 |.node f=>⟨(f s).lift,s,.inl rfl⟩
inductive CS:CTag->Nat->Rk->Nat->aq->St->Prop
 |skd {r:Nat} {rk:Rk} {g:aq} {s:St}:r<n->(j1 (Cx.lead P ty Y.Wg) (Es Y.Wg)) (AtKdS P ty Y N val (n-(r+1)) (Spawns P ty Y N val n l r)) rk g s->CS (.sp r 5) (n-(r+1)) rk 0 g s
 |sa1 {r:Nat} {rk:Rk} {g:aq} {s:St}:r<n->(j1 (Cx.lead P ty Y.Wg) (Es Y.Wg)) (AtA1 P ty Y N val (n-(r+1)) (Spawns P ty Y N val n l r)) rk g s->CS (.sp r 4) (n-(r+1)) rk 1 g s
 |ske {r:Nat} {rk:Rk} {g:aq} {s:St}:r<n->(j1 (Cx.lead P ty Y.Wg) (Es Y.Wg)) (AtKeS P ty Y N val (n-(r+1)) (Spawns P ty Y N val n l r)) rk g s->CS (.sp r 3) (n-(r+1)) rk 1 g s
 |sgo {r:Nat} {rk:Rk} {g:aq} {s:St}:r<n->(j1 (Cx.lead P ty Y.Wg) (Es Y.Wg)) (AtGo P ty Y N val (n-(r+1)) (Spawns P ty Y N val n l r)) rk g s->CS (.sp r 2) (n-(r+1)) rk 0 g s
 |kd {rk:Rk} {g:aq} {s:St}:(j1 (Cx.lead P ty Y.Wg) (Es Y.Wg)) (AtKd P ty Y l) rk g s->CS .kd n rk 0 g s
 |w1 {rk:Rk} {g:aq} {s:St}:(j1 (Cx.lead P ty Y.Wg) (Es Y.Wg)) (AtW1 P ty Y T l) rk g s->CS .w1 n rk 1 g s
 |w2 {vs:Nat} {rk:Rk} {g:aq} {s:St}:(j1 (Cx.lead P ty Y.Wg) (Es Y.Wg)) (AtW2 P ty Y T l vs) rk g s->CS (.w2 vs) n rk 1 g s
 |w3 {rk:Rk} {g:aq} {s:St}:(j1 (Cx.lead P ty Y.Wg) (Es Y.Wg)) (AtW3 P ty Y T) rk g s->CS .w3 n rk.lift 1 g s
 |blk {rk:Rk} {g:aq} {s:St}:AtW3 P ty Y T g s->CS .blk n rk 1 {g with status:=.blocked} s
 |w4 {rk:Rk} {g:aq} {s:St}:(j1 (Cx.lead P ty Y.Wg) (Es Y.Wg)) (AtW4 P ty Y T) rk g s->CS .w4 n rk 1 g s
 |ke {rk:Rk} {g:aq} {s:St}:(j1 (Cx.lead P ty Y.Wg) (Es Y.Wg)) (AtKe P ty Y T) rk g s->CS .ke n rk 1 g s
 |acq {rk:Rk} {g:aq} {s:St}:(j1 (Cx.lead P ty Y.Wg) (Es Y.Wg)) (AtAcq P ty Y T) rk g s->CS .acq n rk 0 g s
structure Nq(p:Nat->Nat)(o:Nat->Mem)(m:Machine)(t:Trace):Prop where
 out:∃(gs:Array aq) (w:aA) (sl:Option (Nat×Nat)) (a:aq) (s:St) (q:Nat->Nat),m=crowd gs w sl/\gs[0]?=aa a/\gs.size=Y.base+n/\T a {s with w:=w}/\b6 s {s with w:=w}/\jH Y p o n s /\
  Leavers P t gs q/\Past (kq λb=>Y.Sh b∨b=Y.Wg) w.heap.size t/\mU t/\PayAt Y.C N w/\(∀x,x<n->∀i,i<Y.kc->w.cell? ⟨Y.C,Y.kc*x+i,af⟩=aa (val x i))/\Y.C<w.heap.size/\Y.Wg<w.heap.size/\∀b,Y.Sh b->b<w.heap.size
abbrev Mu:=Nat×((Nat->Rk)×Rk)
def FO(M:Nat):Mu->Mu->Prop:=Prod.Lex (· < ·) (Prod.Lex (Vec M) Rk.lt)
omit [Payload]in
def QS(M:Nat):WellFounded (FO M):=(Prod.lex Nat.lt_wfRel ⟨_,(Prod.lex ⟨Vec M,Jd M⟩ ⟨Rk.lt,⟨Rk.acc⟩⟩).wf⟩).wf
structure tb(μ:Mu)(gs:Array aq)(w:aA)(t:Trace)(p:Nat->Nat)(o:Nat->Mem)(j:Nat)(D:Nat->WD)(A:Nat->Nat)(K:Nat->Rk)(d0:Nat)(tag:CTag)(rk:Rk)(a:aq)(s:St)(st sm:Int):Prop where
 a0:gs[0]?=aa a
 cs:CS P ty Y N val n T l tag j rk d0 a s
 rely:b6 s {s with w:=w}
 lead:jH Y p o j s
 fY:Com P ty Y N val p o j gs w t D A K d0
 wg:WgAt ty Y.Wg w st sm
 mode:Go.ConcN.Mode j D tag st sm
 mu:μ=(phi n (Vc j D) tag+Ssum j D+sumTo j A,(K,rk))
def Inv(i:Mu)(m:Machine)(t:Trace):Prop :=
 ∃(gs:Array aq) (w:aA) (sl:Option (Nat×Nat)) (p:Nat->Nat) (o:Nat->Mem) (j:Nat) (D:Nat->WD) (A:Nat->Nat) (K:Nat->Rk) (b:Nat) (tag:CTag) (rk:Rk) (a:aq) (s:St) (st sm:Int),
  m=crowd gs w sl/\tb P ty Y N val n T l i gs w t p o j D A K b tag rk a s st sm
end
section
variable {P:aO}{ty:aw}{Y:Lay}{N:Nat}{val:Nat->Nat->aj}{n:Nat}{T l:aq->St->Prop}{p hm':Nat->Nat}{o:Nat->Mem}{tag:CTag}{rk:Rk}{d:Nat}{a:aq}
omit [Payload]in
def fM(h:b6 s {s with w:=w})(B:WgLive ty Y.Wg w):(Cx.lead P ty Y.Wg).rely s {s with w:=w}:=⟨h,λ_=>B⟩
omit [Payload]in
def AtW3.rely{c:St}(h:AtW3 P ty Y T g s)(u:(Cx.lead P ty Y.Wg).rely s c):AtW3 P ty Y T g c :=
 ⟨h.1,h.2.1,λs2 z=>h.2.2 s2 ⟨u.1.trans z.1,λx=>z.2 (u.2 x)⟩⟩
def CS.status(h:CS P ty Y N val n T l tag j rk d a s):(a.status=.running/\tag≠.blk)∨(a.status=.blocked/\tag=.blk):=by
 cases h with
 |skd _ h=>exact .inl ⟨h.run λ_ _ x=>x.1,by simp⟩
 |sa1 _ h=>exact .inl ⟨h.run λ_ _ x=>x.1,by simp⟩
 |ske _ h=>exact .inl ⟨h.run λ_ _ x=>x.1,by simp⟩
 |sgo _ h=>exact .inl ⟨h.run λ_ _ x=>x.1,by simp⟩
 |kd h=>exact .inl ⟨h.run λ_ _ x=>x.1,by simp⟩
 |w1 h=>exact .inl ⟨h.run λ_ _ x=>x.1,by simp⟩
 |w2 h=>exact .inl ⟨h.run λ_ _ x=>x.1,by simp⟩
 |w3 h=>exact .inl ⟨h.run λ_ _ x=>x.1,by simp⟩
 |blk h=>grind
 |w4 h=>exact .inl ⟨h.run λ_ _ x=>x.1,by simp⟩
 |ke h=>exact .inl ⟨h.run λ_ _ x=>x.1,by simp⟩
 |acq h=>exact .inl ⟨h.run λ_ _ x=>x.1,by simp⟩
def CS.wokenBy(h:CS P ty Y N val n T l tag j rk d a s)(g g':aq)(w':aA):
  ∃tag' rk',CS P ty Y N val n T l tag' j rk' d (woken P g g' w' a) s/\(tag'=tag∨(tag=.blk/\tag'=.w3))/\(mayWake P g=ab->g'.status=.running->tag'≠.blk):=by
 unfold Go.Conc.woken;split
 .rcases h.status with⟨i,b⟩|⟨_,rfl⟩
  .grind [again_running]
  .cases h with
   |blk hb=>exact⟨.w3,Rk.lift .leaf,by rw[again_blocked hb.1 hb.2.1];exact .w3 (show j1 _ _ _ .leaf _ _ from hb),.inr ⟨rfl,rfl⟩,λ_ _=>by simp⟩
 grind
def ky{μ:Mu}{sl:Option (Nat×Nat)}{t:Trace}{D:Nat->WD}{A:Nat->Nat}{K:Nat->Rk}{st sm:Int}(I:tb P ty Y N val n T l μ gs w t p o j D A K d tag rk a s st sm){x:Nat}(W:x<j){g':aq}{es:Array Event}{a' s' d':Nat}{r':Rk}{F J:Int}(hg:gs[Y.base+x]?=aa g)(hgo:aH P ae g w=.go g' w' es)(hh:∀b,b<w.heap.size->hm' b=p b)(MQ:w.heap.size<=w'.heap.size)(R:∀y,y<j->y≠x->GX Y p (o y) y w w')(G:DW Y p w w')(X:WS P ty Y N val hm' o x a' s' r' d' g' w')(Q:∀e∈es,(aG e).low w'.heap.size)(VG:∀e∈es,∀a,(aG e).touch?=aa a->a.loc.isMemory=ab->qG Y hm' (o x) x a)(Fs:∀e∈es,∀a,e.loc≠.mark (.release a))(H:deafBehind (D x).deaf es=d')(O:s'<=6->∃r,RelBy (stA Y.Wg) (t++MemOp.ofEvents (Y.base+x) g.frame.fn g.frame.place es) (Y.base+x) r)(h1:a'=0->∀i,1<=i->i<Y.kc->w'.cell? ⟨Y.C,Y.kc*x+i,af⟩=aa (val x i))(h0:s'<=6->Has Y.C (Y.kc*x) (val x 0) w')(U:PayAt Y.C N w')(S:WgAt ty Y.Wg w' F J)(E:∀tag',(tag'=tag∨(tag=.blk/\tag'=.w3))->(mayWake P g=ab->g'.status=.running->tag'≠.blk)->Go.ConcN.Mode j (upd D x ⟨s',0,d'⟩) tag' F J)(sS:(s'+a'<(D x).stage+A x/\cnt ⟨s',0,d'⟩<=cnt (D x))∨(s'=(D x).stage/\a'=A x/\Rk.lt r' (K (Y.base+x))))(hjn:Y.base+j<=Y.base+n):
  ∃m ops μ',runT P (crowd gs w sl) (Y.base+x)=(.next m,ops)/\FO (Y.base+n) μ' μ/\Inv P ty Y N val n T l μ' m (t++ops):=by
 have hb:=I.fY.tl.base;obtain⟨tag',rk',V,q,Z⟩:=I.cs.wokenBy g g' w';have hi0:(Y.base+x==0)=ae:=by grind
 have L:=runT_crowd_go (P:=P) (sl:=sl) (i:=Y.base+x) hg (by rw[hi0];exact hgo)
 have e1:=Go.ConcN.sumTo_upd D (⟨s',0,d'⟩:WD) cnt W;have e2:=Go.ConcN.sumTo_upd D (⟨s',0,d'⟩:WD) WD.stage W;have e3:sumTo j (upd A x a')+A x=sumTo j A+a':=Go.ConcN.sumTo_upd A a' id W;refine⟨_,_,(phi n (Vc j (upd D x ⟨s',0,d'⟩)) tag'+Ssum j (upd D x ⟨s',0,d'⟩)+sumTo j (upd A x a'),(upd K (Y.base+x) r',rk')),L,?_,
  _,w',sl,hm',o,j,_,_,_,d,tag',rk',woken P g g' w' a,s,F,J,rfl,⟨by rw[Go.ConcN.get_map_set _ _ _ _ (by omega),I.a0];rfl,V,I.lead.Jf I.rely G,I.lead.s9 I.rely.size hh,
   I.fY.stepW W hh MQ R X Q VG Fs H O h1 h0 U ⟨_,_,S⟩,S,E tag' q Z,rfl⟩⟩
 rw[I.mu,Go.ConcN.phi_retag n _ q];simp only[Vc,Ssum]at *;rcases sS with⟨q1,q2⟩|⟨q1,q2,q3⟩
 .refine Prod.Lex.left _ _ ?_;have:=Go.ConcN.phi_mono n (v':=sumTo j λa=>cnt (upd D x ⟨s',0,d'⟩ a)) (v:=sumTo j λa=>cnt (D a)) (by omega) tag;omega
 .have ec:cnt (⟨s',0,d'⟩:WD)=cnt (D x):=by simp only[cnt,q1]
  have ev:(sumTo j λa=>cnt (upd D x ⟨s',0,d'⟩ a))=sumTo j λa=>cnt (D a):=by omega
  have es':(sumTo j λa=>(upd D x ⟨s',0,d'⟩ a).stage)=sumTo j λa=>(D a).stage:=by omega
  have ea:sumTo j (upd A x a')=sumTo j A:=by omega
  rw[ev,es',ea];exact Prod.Lex.right _ (Prod.Lex.left _ _ ⟨Y.base+x,by omega,by rw[upd_same];exact q3,λk hk=>upd_ne K _ hk⟩)
end
end
section
open Go.Conc
open Go.ConcN (WD CTag Vc Ssum pend phi cnt WgLive PayAt Has RW DWs WSit RelBy sumTo upd upd_same upd_ne AtR0 isW3 isOpen OpenSt deafBehind_idle bk_cell okW_none Vc_upd Vc_le le_sumTo others_uncounted)
open Go.ConcR (KK WgAt stA smA rd wr mk Payload g_of_ofEvents Bk bk_of_mute ofEvent_loc_mark ofEvent_cell)
variable [Payload]
section
variable {Y:Lay}{T G:aq->St->Prop}{F hm':Nat->Nat}{O:Nat->Mem}{tag:CTag}{rk:Rk}{d:Nat}{a:aq}
omit [Payload]in
def GX.wg(h:Aside Y.Wg w w')(E:F Y.Wg=0)(k:1<=Y.base)(hM:∀b o v,O j b o=aa v->b≠Y.Wg)(hC:Y.C≠Y.Wg):GX Y F (O j) j w w' :=
 ⟨by rw[h.size];grind,λb _ ov=>h.block b (λe=>by grind),λb o v H V=>by rw[jI (h.block b (hM b o v H))];exact V,λo _ _=>jI (h.block _ hC) o,h.os,h.tape,h.output⟩
omit [Payload]in
def DW.wg(h:Aside Y.Wg w w'):DW Y F w w':=⟨by rw[h.size];grind,λb _ _ _ z=>h.block b z,h.os,h.tape,h.output⟩
omit [Payload]in
def DW.refl(w:aA):DW Y F w w:=⟨ba _,λ_ _ _ _ _=>rfl,rfl,rfl,rfl⟩
omit [Payload]in
def Jh{B:Nat}{es:Array Event}(h:∀e∈es,Bk Y.Wg e)(E:Y.Wg<B):∀e∈es,(aG e).low B:=by
 intro e c;rcases h e c with l|l|⟨ad,wr,rfl,J⟩
 .rw[ofEvent_loc_mark l];trivial
 .rw[ofEvent_loc_mark l];trivial
 .rw[ofEvent_cell];show ad.block<B;grind
omit [Payload]in
def Nr{x:Nat}{es:Array Event}(h:∀e∈es,Bk Y.Wg e):∀e∈es,∀a,(aG e).touch?=aa a->a.loc.isMemory=ab->qG Y F (O x) x a:=by
 intro e c b k _;rcases h e c with l|l|⟨ad,wr,rfl,J⟩
 .rw[ofEvent_loc_mark l]at k;cases k
 .rw[ofEvent_loc_mark l]at k;cases k
 .rw[ofEvent_cell]at k;simp only[bl,dq]at k;subst k;exact .inl ⟨ad,rfl,J,rfl⟩
omit [Payload]in
def BQ{es:Array Event}(h:∀e∈es,Bk Y.Wg e):∀e∈es,∀a,e.loc≠.mark (.release a):=by
 intro e c a X;rcases h e c with l|l|⟨ad,wr,rfl,_⟩
 .grind
 .grind
 grind
omit [Payload]in
def Ns{x:Nat}{s2:St}{es:Array Event}(S:lJ F (O x) (Y.base+x) s)(U:aD σ s)(R:eB s es)(st:Step σ s σ' s2):
  (∀e∈es,(aG e).low s2.w.heap.size)/\(∀e∈es,∀a,(aG e).touch?=aa a->a.loc.isMemory=ab->qG Y (m9 F s.w.heap.size (Y.base+x)) (O x) x a) /\
  (∀e∈es,e.loc≠.mark .disable/\e.loc≠.mark .enable)/\∀e∈es,∀a,e.loc≠.mark (.release a):=by
 have key:∀e∈es,(aG e).low s2.w.heap.size/\(∀a,(aG e).touch?=aa a->a.loc.isMemory=ab->qG Y (m9 F s.w.heap.size (Y.base+x)) (O x) x a)/\(e.loc≠.mark .disable/\e.loc≠.mark .enable)/\∀a,e.loc≠.mark (.release a):=by
  intro e c;have h:=R e c;obtain⟨loc,wr,sy⟩:=e;cases loc with
  |cell ad =>
   obtain⟨l,z,p⟩:=h;simp only at l z p;subst l;have u:ad.block<s.w.heap.size:=by
    rcases p with p|⟨⟨L,Q,p⟩,_⟩|⟨_,v,p⟩
    .exact p.elim
    .exact U.lt L Q _ p
    .exact fW.lt U.mem p
   refine⟨by rw[ofEvent_cell];exact cB u st.size,λb k _=>?_,⟨by simp,by simp⟩,by simp⟩;rw[ofEvent_cell]at k;simp only[bl,dq]at k;subst k;refine .inr ⟨rfl,?_⟩;rcases p with p|⟨⟨L,Q,p⟩,_⟩|⟨W,v,p⟩
   .exact p.elim
   .exact .inl ⟨ad.block,rfl,by rw[eP u];exact(S.blk _ (.inr ⟨L,Q,p⟩)).1⟩
   .rcases(S.M _ _ _ p).1 with Z|Z
    .exact .inl ⟨ad.block,rfl,by grind[eP]⟩
    .refine .inr (.inr ⟨W,ad.block,ad.off,v,?_,Z⟩);obtain⟨b,o,sp⟩:=ad;grind
  |obj r =>
   obtain⟨l,z⟩:=h;simp only at l z;subst l;obtain⟨L,Q,p⟩:=z.resolve_left id;have u:=U.lt L Q _ p;refine⟨?_,λb k _=>?_,⟨by simp,by simp⟩,by simp⟩
   .simp[aG,MemAct.low,Loc.low];exact cB u st.size
   .simp[aG,bl]at k;subst k;exact .inr ⟨rfl,.inl ⟨r,rfl,by rw[eP u];exact(S.blk _ (.inr ⟨L,Q,p⟩)).1⟩⟩
  |mark m =>
   simp only[oG]at h;rcases h with rfl|⟨f,rfl⟩
   .exact⟨by simp[aG,MemAct.low],λb k=>by simp[aG,bl]at k,⟨by simp,by simp⟩,by simp⟩
   .exact⟨by simp[aG,MemAct.low],λb k=>by simp[aG,bl]at k,⟨by simp,by simp⟩,by simp⟩
  |_=>exact h.elim
 grind
def stepWorker{μ:Mu}{sl:Option (Nat×Nat)}{t:Trace}{D:Nat->WD}{A:Nat->Nat}{K:Nat->Rk}{st sm:Int}(I:tb P ty Y N val n T G μ gs w t F O j D A K d tag rk a s st sm)(hn:n<2147483648)(hj:j<=n)(hpd:j+pend tag<=n){x:Nat}(hx:x<j)(hg:gs[Y.base+x]?=aa g)(vM:g.status=.running):
  ∃m₁ ops μ',runT P (crowd gs w sl) (Y.base+x)=(.next m₁,ops)/\FO (Y.base+n) μ' μ/\Inv P ty Y N val n T G μ' m₁ (t++ops):=by
 have Ji:=I.fY.tl.base;obtain⟨g₁,Yy,hs⟩:=I.fY.wk x hx;obtain rfl:g=g₁:=by grind
 generalize FP:(D x).stage=sg at hs;generalize Yz:K (Y.base+x)=r at hs;generalize TG:(D x).deaf=dd at hs;generalize hA:A x=ax at hs;have YA:Deaf t (Y.base+x)=dd:=by rw[I.fY.deafW x hx,TG]
 have hVj:=Vc_le j D;have same:∀m' FQ,Go.ConcN.Mode j (upd D x ⟨sg,m',FQ⟩) tag st sm:=λm' FQ=>by have:=I.mode.same (i:=x) m' FQ;grind
 cases hs with
 |@am r g s0 w l z p =>
  rcases l.norm (λs0=>b6 s0 {s0 with w:=w}/\lJ F (O x) (Y.base+x) s0) (λs0 s' TH hi=>⟨hi.1.ghost TH,hi.2.ghost TH⟩) (λ_ s0 s' TH hi=>⟨hi.1.forget TH,hi.2.forget TH⟩) ⟨z,p⟩with⟨s',⟨k1,k2⟩,lK⟩|⟨_,s',⟨k1,k2⟩,lL⟩
  ·
   obtain⟨g',w2,es,hgo,E,WI,m,hk⟩:=lK.2 w k1 I.fY.pay I.fY.live;have YB:=I.fY.kc;refine ky I hx hg hgo (hm':=F) (λ_ _=>rfl) (by rw[E.size];grind) (λy hy YC=>⟨by rw[E.size];grind,λb _ k=>E.block b (λe=>by rw[e,I.fY.tl.hC]at k;omega),λb o v H V=>?_,λo YD YE=>E.out o ?_,E.os,E.tape,E.output⟩)
    ⟨by rw[E.size];grind,λb _ _ z _=>E.block b z,E.os,E.tape,E.output⟩ (.rel hk) (λe c=>?_) (λe c b k _=>?_) (λe c=>?_) ?_ (λh=>absurd h (by decide)) (λ_ i _ hi=>E.new i hi) (λh=>absurd h (by decide)) E.pay
    (I.wg.of_block (E.block _ (Ne.symm I.fY.tl.ne))) (λ_ ht _=>(same _ _).retag ht) (.inl ⟨by omega,by simp[cnt,FP]⟩) (by omega)
   .rw[jI (E.block b (I.fY.tl.ms y hy b o v H).2.1)];exact V
   .rcases Nat.lt_or_gt_of_ne YC with h|h
    .have:=uP Y.kc (show y+1<=x from h);grind
    .have:=uP Y.kc (show x+1<=y from h);grind
   .obtain⟨o,rfl,_⟩:=WI e c;rw[ofEvent_cell];show Y.C<_;rw[E.size];exact I.fY.Du
   .obtain⟨o,rfl,YD,YE⟩:=WI e c;rw[ofEvent_cell]at k;simp only[bl,dq]at k;subst k;exact .inr ⟨rfl,.inr (.inl ⟨o,rfl,YD,YE⟩)⟩
   .grind
   .rw[TG];exact deafBehind_idle (λe c=>by grind) 0
  ·
   obtain⟨g',s2,es,r',hgo,WJ,My,u⟩:=lL _ k1;obtain⟨⟨σ,σ',U,jq,Iq⟩,R⟩:=WJ.resolve_right id;have k3:lJ F (O x) (Y.base+x) {s' with w:=w}:=k2.rely k1.size;obtain⟨e1,e2,e3,e4⟩:=Ns k3 U R Iq;have vY:∀b,b<w.heap.size->F b≠Y.base+x->s2.w.heap[b]?=w.heap[b]?:=λb k Bf=>Iq.keep b k λL Q Qd=>Bf (k3.blk b (.inr ⟨L,Q,Qd⟩)).1;refine ky I hx hg hgo (hm':=m9 F w.heap.size (Y.base+x)) (λb k=>eP k) Iq.size (λy hy YC=>⟨Iq.size,λb k hby=>vY b k (by omega),λb o v H V=>?_,λo _ _=>jI (vY _ I.fY.Du (by rw[I.fY.tl.hC];omega)) o,Iq.os,Iq.tape,Iq.output⟩)
    ⟨Iq.size,λb k h0 _ _=>vY b k (by omega),Iq.os,Iq.tape,Iq.output⟩ (.am My (b6.vX jq.mem) (k3.step jq Iq)) e1 e2 e4 (by rw[TG];exact deafBehind_idle e3 0) (λh=>absurd h (by decide)) (λh=>absurd h (by decide)) (λh=>absurd h (by decide)) ?_
    (I.wg.of_block (vY _ I.fY.Bg (by rw[I.fY.tl.Io];omega))) (λ_ ht _=>(same _ _).retag ht) (.inr ⟨FP.symm,hA.symm,by grind⟩) (by omega)
   .rw[jI (vY b (I.fY.Np y hy b o v H) (by rw[(I.fY.tl.ms y hy b o v H).1];omega))];exact V
   .obtain⟨cs,c1,c2⟩:=I.fY.pay;exact⟨cs,(vY _ I.fY.Du (by rw[I.fY.tl.hC];omega)).trans c1,c2⟩
 |@rel m g w h =>
  rcases Goes.cases h with lK|⟨m',rfl,lL⟩
  ·
   obtain⟨_,aaG,g',hgo,m₂,hk⟩:=lK w (Go.ConcN.RW.refl w);refine ky I hx hg hgo (hm':=F) (λ_ _=>rfl) (ba _) (λy _ _=>.refl ..) (.refl w) (.tail (by decide) (.k1 hk)) (λe c=>?_) (λe c b k _=>?_) (λe c=>?_) (by rw[TG];rfl) (λ_=>⟨t.size,RelBy.new YA _ _⟩) (λ_=>I.fY.xZ x hx hA) (λ_=>by grind) I.fY.pay I.wg
    (λ_ ht _=>(I.mode.counted hx (by omega) (.inl rfl) _ _).retag ht) (.inl ⟨by omega,by simp[cnt,FP]⟩) (by omega)
   .simp at c;subst c;exact I.fY.Bg
   .simp at c;subst c;simp[mk,aG,bl]at k
   .simp at c;subst c;simp[mk]
  .obtain⟨g',w',es,hgo,⟨rfl,rfl⟩,FR⟩:=lL w (Go.ConcN.RW.refl w);exact ky I hx hg hgo (hm':=F) (λ_ _=>rfl) (ba _) (λy _ _=>.refl ..) (.refl w') (.rel FR) (by simp) (by simp) (by simp) (by rw[TG];rfl) (λh=>absurd h (by decide)) (λ_=>I.fY.xZ x hx hA) (λh=>absurd h (by decide)) I.fY.pay I.wg (λ_ ht _=>(same _ _).retag ht)
    (.inr ⟨FP.symm,hA.symm,by rw[Yz];exact Rk.DV _ s⟩) (by omega)
 |@tail sg m dd g w h6 h =>
  have Pr:∀{g':aq} {w':aA} {es:Array Event} {s' m' FQ:Nat} {qB GY:Int},aH P ae g w=.go g' w' es->Aside Y.Wg w w'->WgAt ty Y.Wg w' qB GY->(∀e∈es,Bk Y.Wg e) ->
    (∀jx e,es[jx]?=aa e->(aG e).touch?=af∨0<deafBehind dd (es.extract 0 jx))->s'<=6->WSit P ty Y.Wg Y.C N Pp Pp 0 (Y.kc*x+1) (val x 0) s' m' FQ g' w'->deafBehind dd es=FQ ->
    (∀tag',(tag'=tag∨(tag=.blk/\tag'=.w3))->(mayWake P g=ab->g'.status=.running->tag'≠.blk)->Go.ConcN.Mode j (upd D x ⟨s',0,FQ⟩) tag' qB GY)->((s'<sg/\cnt ⟨s',0,FQ⟩<=cnt (D x))∨(s'=sg/\m'+1=m)) ->
    ∃m₁ ops μ',runT P (crowd gs w sl) (Y.base+x)=(.next m₁,ops)/\FO (Y.base+n) μ' μ/\Inv P ty Y N val n T G μ' m₁ (t++ops):=by
   intro g' w' es s' m' FQ qB GY hgo Nt Jj GZ hd WK TJ YF vZ u;obtain⟨cs,WL,WM⟩:=I.fY.pay;refine ky I hx hg hgo (hm':=F) (λ_ _=>rfl) (by rw[Nt.size];grind) (λy hy _=>.wg Nt I.fY.tl.Io Ji (λb o v H=>(I.fY.tl.ms y hy b o v H).2.2.1) I.fY.tl.ne) (.wg Nt) (.tail WK TJ) (Jh GZ (by rw[Nt.size];exact I.fY.Bg)) (Nr GZ) (BQ GZ) (by grind)
    (λ_=>let ⟨r,hr⟩:=I.fY.rel x hx (by omega);⟨r,hr.book YA _ _ GZ hd⟩) (λ_ i hi1 SP=>(jI (Nt.block _ I.fY.tl.ne) _).trans (I.fY.xZ x hx hA i hi1 SP)) (λ_=>(jI (Nt.block _ I.fY.tl.ne) _).trans (I.fY.BO x hx (by omega))) ⟨cs,(Nt.block _ I.fY.tl.ne).trans WL,WM⟩ Jj vZ
    (u.imp (λh=>⟨by omega,h.2⟩) λh=>⟨by omega,hA.symm,by rw[Yz,<-h.2];exact Rk.DV _ s⟩) (by omega)
  have book:∀{g':aq} {w':aA} {es:Array Event} {s' m' FQ:Nat} {qB GY:Int},aH P ae g w=.go g' w' es->Aside Y.Wg w w'->WgAt ty Y.Wg w' qB GY->(∀e∈es,Bk Y.Wg e) ->
    (∀jx e,es[jx]?=aa e->(aG e).touch?=af∨0<deafBehind dd (es.extract 0 jx))->s'<=6->WSit P ty Y.Wg Y.C N Pp Pp 0 (Y.kc*x+1) (val x 0) s' m' FQ g' w'->deafBehind dd es=FQ ->
    Go.ConcN.Mode j (upd D x ⟨s',0,FQ⟩) tag qB GY->((s'<sg/\cnt ⟨s',0,FQ⟩<=cnt (D x))∨(s'=sg/\m'+1=m)) ->
    ∃m₁ ops μ',runT P (crowd gs w sl) (Y.base+x)=(.next m₁,ops)/\FO (Y.base+n) μ' μ/\Inv P ty Y N val n T G μ' m₁ (t++ops) :=
   λhgo Nt Jj GZ hd WK TJ YF vZ u=>Pr hgo Nt Jj GZ hd WK TJ YF (λ_ ht _=>vZ.retag ht) u
  have idle:∀{g':aq} {m':Nat},aH P ae g w=.go g' w #[]->WSit P ty Y.Wg Y.C N Pp Pp 0 (Y.kc*x+1) (val x 0) sg m' dd g' w->m'+1=m ->
    ∃m₁ ops μ',runT P (crowd gs w sl) (Y.base+x)=(.next m₁,ops)/\FO (Y.base+n) μ' μ/\Inv P ty Y N val n T G μ' m₁ (t++ops):=by intro g' m' hgo TJ F;exact book hgo (.refl Y.Wg w) I.wg (by simp) (by simp) h6 TJ rfl (same _ _) (.inr ⟨rfl,F⟩)
  cases h with
  |r0 h=>omega
  |k1 h =>
   rcases Goes.cases h with lK|⟨m',rfl,lL⟩
   .obtain⟨_,g',hgo,m₂,hk⟩:=lK w (Go.ConcN.RW.refl w);exact book hgo (.refl Y.Wg w) I.wg (by intro e c;simp at c;subst c;exact .inl rfl) (by intro jx e c;exact .inl (by have:=pM c;simp at this;subst this;rfl)) (by decide) (.d1 hk) rfl (I.mode.counted hx (by omega) (.inr rfl) _ _) (.inl ⟨by omega,by simp[cnt,FP]⟩)
   .obtain⟨g',w',es,hgo,⟨rfl,rfl⟩,FR⟩:=lL w (Go.ConcN.RW.refl w);exact idle hgo (.k1 FR) rfl
  |d1 h =>
   rcases Goes.cases h with lK|⟨m',rfl,lL⟩
   .obtain⟨_,Qw⟩:=lK w (Go.ConcN.RW.refl w);have Ad:=I.wg;have Jk:=I.mode;have To:cnt (D x)=1:=by simp[cnt,FP]
    have hV1:1<=Vc j D:=by have:=le_sumTo (f:=λx=>cnt (D x)) hx;simp only[Vc];omega
    have bk2:∀e∈#[rd (stA Y.Wg),wr (stA Y.Wg)],Bk Y.Wg e:=by intro e c;simp at c;rcases c with rfl|rfl<;>exact bk_cell _ _ rfl
    have VH:∀jx e,(#[rd (stA Y.Wg),wr (stA Y.Wg)]:Array Event)[jx]?=aa e->(aG e).touch?=af∨0<deafBehind 1 ((#[rd (stA Y.Wg),wr (stA Y.Wg)]:Array Event).extract 0 jx):=by
     intro jx e c
     match jx,c with
     |0,_=>exact .inr (by simp[deafBehind])
     |1,_=>exact .inr (by simp[deafBehind,rd])
     |jx+2,c=>simp at c
    have hq0:∀q,cnt (⟨1,q,1⟩:WD)=0:=λ_=>rfl;have cq:∀q,OpenSt j D->OpenSt j (upd D x ⟨1,q,1⟩):=λq h a J=>by
     by_cases e:a=x
     .subst e;rw[upd_same];simp
     .rw[upd_ne D _ e];exact h a J
    generalize aaI:st=WN at Jk Ad;generalize aaJ:sm=sm0 at Jk Ad;cases Jk with
    |opn l z p =>
     obtain⟨v,H⟩:∃v,Vc j D+pend tag=v+1:=⟨Vc j D+pend tag-1,by omega⟩
     rw[H]at Ad;have Qm:WgAt ty Y.Wg w (((v:Nat)+1)*KK+((0:Nat):Int)) 0:=by grind
     obtain⟨g',hgo,_,hq⟩:=Qw v 0 (by omega) (by omega) Qm;obtain⟨q,hq⟩:=hq (by omega);have Vr:Vc j (upd D x ⟨1,0,1⟩)+pend tag=v:=by have:=Vc_upd D (⟨1,0,1⟩:WD) hx;grind
     refine book hgo (aside_setCell w (stA Y.Wg) _) (Ad.setSt _) bk2 VH (by decide) (.quit hq) rfl ?_ (.inl ⟨by omega,by grind⟩);have e:((v:Nat):Int)*KK+((0:Nat):Int)=((Vc j (upd D x ⟨1,0,1⟩)+pend tag:Nat):Int)*KK:=by grind
     rw[e];exact .opn l (cq 0 z) (λvs ev=>by grind)
    |reg l z p =>
     obtain⟨v,H⟩:∃v,Vc j D=v+1:=⟨Vc j D-1,by omega⟩
     rw[H]at Ad;have hp:pend tag=0:=by cases tag<;>first|rfl|exact l.elim
     have Qm:WgAt ty Y.Wg w (((v:Nat)+1)*KK+((1:Nat):Int)) 0:=by grind
     obtain⟨g',hgo,X,hq⟩:=Qw v 1 (by omega) (by omega) Qm;by_cases Qg:v=0
     .subst Qg;obtain⟨m₂,hk⟩:=X ⟨rfl,rfl⟩;refine book hgo (aside_setCell w (stA Y.Wg) _) (Ad.setSt _) bk2 VH (by decide) (.d2 hk) rfl ?_ (.inl ⟨by omega,by simp[cnt]⟩);have DI:∀a,a<j->a≠x->(D a).stage=1:=λa J e=>by have c0:=others_uncounted hx H To a J e;have:=z a J;simp only[cnt]at c0;split at c0<;>omega
      have:=Go.ConcN.Mode.last (j:=j) (D:=upd D x ⟨4,0,1⟩) (tag:=tag) x l hx (by rw[upd_same];simp) (λa J e=>by rw[upd_ne D _ e];grind);rw[upd_same]at this;grind
     .obtain⟨q,hq⟩:=hq (by omega);have Vr:Vc j (upd D x ⟨1,0,1⟩)=v:=by have:=Vc_upd D (⟨1,0,1⟩:WD) hx;grind
      refine book hgo (aside_setCell w (stA Y.Wg) _) (Ad.setSt _) bk2 VH (by decide) (.quit hq) rfl ?_ (.inl ⟨by omega,by grind⟩);have e:((v:Nat):Int)*KK+((1:Nat):Int)=((Vc j (upd D x ⟨1,0,1⟩):Nat):Int)*KK+1:=by grind
      rw[e];exact .reg l (cq 0 z) (by omega)
    |last L _ z p W =>
     grind
    |sema z=>have:=z x hx;omega
    |fin _ z=>have:=z x hx;omega
   .obtain⟨g',w',es,hgo,⟨rfl,rfl⟩,FR⟩:=lL w (Go.ConcN.RW.refl w);exact idle hgo (.d1 FR) rfl
  |d2 h =>
   rcases Goes.cases h with lK|⟨m',rfl,lL⟩
   .obtain⟨_,Ps⟩:=lK w (Go.ConcN.RW.refl w);obtain⟨TK,DI,e1,e2⟩:=I.mode.isLast hx (by omega);have Ad:=I.wg;rw[e1,e2,FP]at Ad;obtain⟨g',hgo,m₂,hk⟩:=Ps (by grind);refine book hgo (.refl Y.Wg w) Ad (by intro e c;simp at c;subst c;exact bk_cell _ _ rfl) (by intro jx e c;match jx,c with|0,_=>exact .inr (by simp[deafBehind])|jx+1,c=>grind) (by decide) (.d3 hk) rfl ?_ (.inl ⟨by omega,by simp[cnt]⟩);have:=Go.ConcN.Mode.last (j:=j) (D:=upd D x ⟨3,0,1⟩) (tag:=tag) x TK hx (by rw[upd_same];simp) (λa J e=>by rw[upd_ne D _ e];grind);rw[upd_same]at this;grind
   .obtain⟨g',w',es,hgo,⟨rfl,rfl⟩,FR⟩:=lL w (Go.ConcN.RW.refl w);exact idle hgo (.d2 FR) rfl
  |d3 h =>
   rcases Goes.cases h with lK|⟨m',rfl,lL⟩
   .obtain⟨_,Ps⟩:=lK w (Go.ConcN.RW.refl w);obtain⟨TK,DI,e1,e2⟩:=I.mode.isLast hx (by omega);have Ad:=I.wg;rw[e1,e2,FP]at Ad;obtain⟨g',hgo,m₂,hk⟩:=Ps (by grind);refine book hgo (aside_setCell w (stA Y.Wg) _) (Ad.setSt 0) (by intro e c;simp at c;subst c;exact bk_cell _ _ rfl) (by intro jx e c;match jx,c with|0,_=>exact .inr (by simp[deafBehind])|jx+1,c=>grind) (by decide) (.d4 hk) rfl ?_ (.inl ⟨by omega,by simp[cnt]⟩);have:=Go.ConcN.Mode.last (j:=j) (D:=upd D x ⟨2,0,1⟩) (tag:=tag) x TK hx (by rw[upd_same];simp) (λa J e=>by rw[upd_ne D _ e];grind);rw[upd_same]at this;grind
   .obtain⟨g',w',es,hgo,⟨rfl,rfl⟩,FR⟩:=lL w (Go.ConcN.RW.refl w);exact idle hgo (.d3 FR) rfl
  |d4 h =>
   rcases Goes.cases h with lK|⟨m',rfl,lL⟩
   .obtain⟨_,hmw,Ps⟩:=lK w (Go.ConcN.RW.refl w);obtain⟨TK,DI,e1,e2⟩:=I.mode.isLast hx (by omega);have Ad:=I.wg;rw[e1,e2,FP]at Ad;obtain⟨g',hgo,q,hq⟩:=Ps (by grind);have wa:g'.status=.running:=by
     cases q with
     |zero=>exact absurd hq.2 (by decide)
     |succ q=>exact hq.elim (λx=>absurd x.2 (by decide)) (λx=>x.1)
    refine Pr hgo (aside_setCell w (smA Y.Wg) _) (Ad.setSm 1) (es:=semEvents (smA Y.Wg)) ?_ ?_ (by decide) (.quit hq) (by simp[deafBehind,semEvents]) ?_ (.inl ⟨by omega,by simp[cnt]⟩)
    .intro e c;simp[semEvents]at c;rcases c with rfl|rfl|rfl|rfl
     .exact .inl rfl
     .exact bk_cell _ _ rfl
     .exact bk_cell _ _ rfl
     .exact .inr (.inl rfl)
    .intro jx e c
     match jx,c with
     |0,c=>simp[semEvents]at c;subst c;exact .inl rfl
     |1,_=>exact .inr (by simp[deafBehind,semEvents])
     |2,_=>exact .inr (by simp[deafBehind,semEvents])
     |3,c=>simp[semEvents]at c;subst c;exact .inl rfl
     |jx+4,c=>simp[semEvents]at c
    .intro tag' ht S;have hnb:=S hmw wa;have e3:tag'=.w3:=by
      rcases ht with rfl|⟨_,rfl⟩
      .cases tag'<;>first|rfl|exact TK.elim|grind
      .rfl
     subst e3;simp only[bY];exact .sema λa J=>by
      by_cases e:a=x
      .subst e;rw[upd_same]
      .rw[upd_ne D _ e];grind
   .obtain⟨g',w',es,hgo,⟨rfl,rfl⟩,FR⟩:=lL w (Go.ConcN.RW.refl w);exact idle hgo (.d4 FR) rfl
  |quit h =>
   cases m with
   |zero=>rw[h.1]at vM;cases vM
   |succ q =>
    rcases h with⟨hf,_⟩|⟨_,g',es,Pt,lL,hq⟩
    .grind
    .have GZ:∀e∈es,Bk Y.Wg e:=λe c=>bk_of_mute (Pt e c);have Yt:∀jx e,es[jx]?=aa e->(aG e).touch?=af∨0<deafBehind dd (es.extract 0 jx):=λjx e c=>.inl (touch_mute (Pt e (pM c)));exact book (lL w) (.refl Y.Wg w) I.wg GZ Yt (by decide) (.quit hq) rfl (same _ _) (.inr ⟨rfl,rfl⟩)
end
end
section
open Go.Conc
open Go.ConcN (WD CTag Vc Ssum pend phi cnt WgLive PayAt Has RW DWs WSit RelBy sumTo upd upd_same upd_ne AtR0 isW3 isOpen OpenSt deafBehind_idle bk_cell okW_none Vc_upd Vc_le le_sumTo others_uncounted sumTo_upd_out bk_dis bk_en bk_rd bk_rw bk_sem allQuit_of exists_counted)
open Go.ConcR (KK WgAt stA smA rd wr mk Payload g_of_ofEvents Bk bk_of_mute ofEvent_loc_mark ofEvent_cell ofEvent_mk)
variable [Payload]
section
variable {Y:Lay}{T k:aq->St->Prop}{l hm':Nat->Nat}{z G:Nat->Mem}{tag:CTag}{rk:Rk}{d:Nat}{a:aq}{R:Mu}{sl:Option (Nat×Nat)}{t:Trace}{D:Nat->WD}{A:Nat->Nat}{K:Nat->Rk}{st sm:Int}
omit [Payload]in
def TL.congr{B:Nat}(h:TL Y l z t j B)(e:∀y,y<j->G y=z y):TL Y l G t j B :=
 ⟨h.base,h.Io,h.hC,h.ne,h.Po,h.QQ,h.Ip,λx H=>by rw[e x H];exact h.ms x H,h.T0,h.nr,h.seen,h.old,h.QR,h.GW,λi a hi X l=>(h.new i a hi X l).imp id λ⟨x,H,p,F⟩=>⟨x,H,p,by grind⟩,
  λx H=>by rw[e x H];exact h.mw x H,h.over⟩
def WS.congr{x a st d:Nat}{r:Rk}(h:WS P ty Y N val l z x a st r d g w)(e:G x=z x):WS P ty Y N val l G x a st r d g w:=by
 cases h with
 |am p F J=>exact .am p F (by grind)
 |rel p=>exact .rel p
 |tail h0 p=>exact .tail h0 p
def Com.congr{n:Nat}(h:Com P ty Y N val l z j gs w t D A K n)(e:∀y,y<j->G y=z y):Com P ty Y N val l G j gs w t D A K n :=
 ⟨h.size,h.lv,h.above,λx H=>let ⟨g,p,F⟩:=h.wk x H;⟨g,p,F.congr (e x H)⟩,h.tl.congr e,h.norel,h.deaf0,h.deafW,h.rel,h.xZ,h.BO,h.pay,h.live,h.Bg,h.Du,h.Mz,h.kc,λy q=>by rw[e y q];exact h.Np y q⟩
omit [Payload]in
def Nu{s2:St}{es:Array Event}(V:jH Y l z j s)(W:aD σ s)(O:eB s es)(st:Step σ s σ' s2):
  (∀e∈es,(aG e).low s2.w.heap.size)/\(∀e∈es,∀a,(aG e).touch?=aa a->a.loc.isMemory=ab->r8 Y (m9 l s.w.heap.size 0) a) /\
  (∀e∈es,∀a,(aG e).touch?=aa a->a.kind=.plain->a.write=ab->∀x,x<j->∀b o v,a.loc=.cell ⟨b,o,af⟩->z x b o≠aa v) /\
  (∀e∈es,e.loc≠.mark .disable/\e.loc≠.mark .enable)/\∀e∈es,∀a,e.loc≠.mark (.release a):=by
 have key:∀e∈es,(aG e).low s2.w.heap.size/\(∀a,(aG e).touch?=aa a->a.loc.isMemory=ab->r8 Y (m9 l s.w.heap.size 0) a) /\
   (∀a,(aG e).touch?=aa a->a.kind=.plain->a.write=ab->∀x,x<j->∀b o v,a.loc=.cell ⟨b,o,af⟩->z x b o≠aa v)/\(e.loc≠.mark .disable/\e.loc≠.mark .enable)/\∀a,e.loc≠.mark (.release a):=by
  intro e E;have h:=O e E;obtain⟨loc,wr,sy⟩:=e;cases loc with
  |cell ad =>
   obtain⟨p,F,J⟩:=h;simp only at p F J;subst p;have u:ad.block<s.w.heap.size/\l ad.block=0/\ad.block≠Y.C/\ad.block≠Y.Wg/\¬Y.Sh ad.block:=by
    rcases J with J|⟨⟨L,S,J⟩,_⟩|⟨_,v,J⟩
    .exact J.elim
    .obtain⟨k1,k2,Q,k4,k5⟩:=V.blk _ (.inr ⟨L,S,J⟩);grind
    .obtain⟨k1,k2,Q,k4,k5⟩:=V.M _ _ _ J;grind
   refine⟨by rw[ofEvent_cell];exact cB u.1 st.size,λb c _=>?_,λb c _ Z x H b' o v hl U=>?_,⟨by simp,by simp⟩,by simp⟩
   .rw[ofEvent_cell]at c;simp only[bl,dq]at c;subst c;exact .inr ⟨ad.block,rfl,by grind[eP],u.2.2.2.1,u.2.2.1,u.2.2.2.2,rfl⟩
   .rw[ofEvent_cell]at c;simp only[bl,dq]at c;subst c;simp only at Z hl;have hM:=V.ms x H b' o v U;grind
  |obj r =>
   obtain⟨p,F⟩:=h;simp only at p F;subst p;obtain⟨L,S,J⟩:=F.resolve_left id;obtain⟨k1,k2,Q,k4,k5⟩:=V.blk _ (.inr ⟨L,S,J⟩);refine⟨?_,λb c _=>?_,λb c _ _ x _ b' o v hl=>?_,⟨by simp,by simp⟩,by simp⟩
   .simp[aG,MemAct.low,Loc.low];exact cB k5 st.size
   .simp[aG,bl]at c;subst c;exact .inr ⟨r,rfl,by grind[eP],Q,k2,k4,rfl⟩
   .simp[aG,bl]at c;grind
  |mark m =>
   simp only[oG]at h;rcases h with rfl|⟨f,rfl⟩
   .exact⟨by simp[aG,MemAct.low],λb c=>by simp[aG,bl]at c,λb c=>by simp[aG,bl]at c,⟨by simp,by simp⟩,by simp⟩
   .exact⟨by simp[aG,MemAct.low],λb c=>by simp[aG,bl]at c,λb c=>by simp[aG,bl]at c,⟨by simp,by simp⟩,by simp⟩
  |_=>exact h.elim
 grind
def tc(I:tb P ty Y N val n T k R gs w t l z j D A K d tag rk a s st sm){a':aq}{es:Array Event}{tag':CTag}{rk':Rk}{qB GY:Int}(hgo:aH P ab a w=.go a' w' es)(W:∀b,b<w.heap.size->hm' b=l b)(MQ:w.heap.size<=w'.heap.size)(WO:∀y,y<j->GX Y l (z y) y w w')(TE:∀e∈es,(aG e).low w'.heap.size)(htm:∀e∈es,∀a,(aG e).touch?=aa a->a.loc.isMemory=ab->r8 Y hm' a)(VG:∀e∈es,∀a,(aG e).touch?=aa a->a.kind=.plain->a.write=ab->∀x,x<j->∀b o v,a.loc=.cell ⟨b,o,af⟩->z x b o≠aa v)(Fs:∀e∈es,∀a,e.loc≠.mark (.release a))(Jl:PayAt Y.C N w')(Ad:WgAt ty Y.Wg w' qB GY)(G0:CS P ty Y N val n T k tag' j rk' (deafBehind d es) a' s')(TM:b6 s' {s' with w:=w'})(g:jH Y hm' z j s')(q:Go.ConcN.Mode j D tag' qB GY)(u:phi n (Vc j D) tag'<phi n (Vc j D) tag∨(phi n (Vc j D) tag'=phi n (Vc j D) tag/\Rk.lt rk' rk)):
  ∃m₁ ops μ',runT P (crowd gs w sl) 0=(.next m₁,ops)/\FO (Y.base+n) μ' R/\Inv P ty Y N val n T k μ' m₁ (t++ops):=by
 have c:=I.fY.tl.base;have vM:=runT_crowd_go (P:=P) (sl:=sl) (i:=0) I.a0 (by simpa using hgo)
 refine⟨_,_,(phi n (Vc j D) tag'+Ssum j D+sumTo j A,(K,rk')),vM,?_,_,w',sl,hm',z,j,D,A,K,deafBehind d es,tag',rk',a',s',qB,GY,rfl,
  ⟨Go.ConcN.get_map_set_same _ _ _ (by rw[I.fY.size];omega),G0,TM,g,I.fY.step0 W MQ WO TE htm VG Fs Jl ⟨_,_,Ad⟩,Ad,q,rfl⟩⟩
 rw[I.mu];rcases u with h|⟨p,F⟩
 .exact Prod.Lex.left _ _ (by omega)
 .rw[p];exact Prod.Lex.right _ (Prod.Lex.right _ F)
def ir(I:tb P ty Y N val n T k R gs w t l z j D A K d tag rk a s st sm){a':aq}{es:Array Event}{rk':Rk}{s1:St}(p:b6 s1 {s1 with w:=w})(q:jH Y l z j s1)(hgo:aH P ab a w=.go a' s'.w es)(WJ:qS {s1 with w:=w} s' es∨Es Y.Wg {s1 with w:=w} s' es)(G0:CS P ty Y N val n T k tag j rk' d a' s')(u:Rk.lt rk' rk):
  ∃m₁ ops μ',runT P (crowd gs w sl) 0=(.next m₁,ops)/\FO (Y.base+n) μ' R/\Inv P ty Y N val n T k μ' m₁ (t++ops):=by
 rcases WJ with⟨⟨σ,σ',W,jq,g⟩,O⟩|⟨rfl,ad,had,WI⟩
 .have Q:jH Y l z j {s1 with w:=w}:=q.rely p.size;obtain⟨e1,e2,e3,e4,e5⟩:=Nu Q W O g;have vY:∀b,b<w.heap.size->(l b≠0∨b=Y.C∨b=Y.Wg)->s'.w.heap[b]?=w.heap[b]?:=λb c Bf=>g.keep b c λL S Qd=>by obtain⟨q1,q2,q3,_⟩:=Q.blk b (.inr ⟨L,S,Qd⟩);grind
  have Ji:=I.fY.tl.base;refine tc I hgo (hm':=m9 l w.heap.size 0) (λb c=>eP c) g.size (λy hy=>⟨g.size,λb c hby=>vY b c (.inl (by omega)),λb o v U _=>jq.mem b o v (g.mem _ _ _ (q.ms y hy b o v U)),λo _ _=>jI (vY _ I.fY.Du (.inr (.inl rfl))) o,g.os,g.tape,g.output⟩) e1 e2 e3 e5 ?_
   (I.wg.of_block (vY _ I.fY.Bg (.inr (.inr rfl)))) (s':=s') (tag':=tag) (rk':=rk') (by rw[deafBehind_idle e4];exact G0) (b6.vX jq.mem) (Q.step jq g I.fY.Bg I.fY.Du I.fY.Mz) I.mode (.inr ⟨rfl,u⟩)
  obtain⟨cs,c1,c2⟩:=I.fY.pay;exact⟨cs,(vY _ I.fY.Du (.inr (.inl rfl))).trans c1,c2⟩
 .have SQ:∀e∈es,e=mk (.read ad)∨e=mk (.write ad):=by grind
  refine tc I hgo (hm':=l) (λb c=>rfl) (ba _) (λy hy=>.refl ..) (λe E=>?_) (λe E b c _=>?_) (λe E b c hk=>?_) (λe E=>?_) I.fY.pay I.wg (s':={s1 with w:=w}) (tag':=tag) (rk':=rk') ?_ (p.trans' ) (q.rely p.size) I.mode (.inr ⟨rfl,u⟩)
  .have hW:=I.fY.Bg;rcases SQ e E with rfl|rfl<;>(rw[ofEvent_mk];show ad.block<_;grind)
  .rcases SQ e E with rfl|rfl<;>(rw[ofEvent_mk]at c;simp[bl]at c;subst c;exact .inl ⟨ad,rfl,had,by simp⟩)
  .rcases SQ e E with rfl|rfl<;>(rw[ofEvent_mk]at c;simp[bl]at c;grind)
  .rcases SQ e E with rfl|rfl<;>simp[mk]
  .rw[deafBehind_idle (λe E=>by rcases SQ e E with rfl|rfl<;>simp[mk])];exact G0
def gf(I:tb P ty Y N val n T k R gs w t l z j D A K d tag rk a s st sm){a':aq}{es:Array Event}{tag':CTag}{rk':Rk}{qB GY:Int}{s1:St}(p:b6 s1 {s1 with w:=w})(Pu:jH Y l z j s1)(hgo:aH P ab a w=.go a' w' es)(g:Aside Y.Wg w w')(Jj:WgAt ty Y.Wg w' qB GY)(GZ:∀e∈es,Bk Y.Wg e)(G0:CS P ty Y N val n T k tag' j rk' (deafBehind d es) a' {s1 with w:=w'})(vZ:Go.ConcN.Mode j D tag' qB GY)(u:phi n (Vc j D) tag'<phi n (Vc j D) tag∨(phi n (Vc j D) tag'=phi n (Vc j D) tag/\Rk.lt rk' rk)):
  ∃m₁ ops μ',runT P (crowd gs w sl) 0=(.next m₁,ops)/\FO (Y.base+n) μ' R/\Inv P ty Y N val n T k μ' m₁ (t++ops):=by
 obtain⟨cs,To,SD⟩:=I.fY.pay;have F:b6 s1 {s1 with w:=w'}:=Pu.Jf p (DW.wg g);refine tc I hgo (hm':=l) (λb c=>rfl) (by rw[g.size];grind) (λy hy=>.wg g I.fY.tl.Io I.fY.tl.base (λb o v U=>(I.fY.tl.ms y hy b o v U).2.2.1) I.fY.tl.ne) (Jh GZ (by rw[g.size];exact I.fY.Bg)) (λe E b c l=>?_) (λe E b c hk=>?_) (BQ GZ)
  ⟨cs,(g.block _ I.fY.tl.ne).trans To,SD⟩ Jj G0 F.trans' (Pu.rely F.size) vZ u
 .rcases GZ e E with q|q|⟨ad,wr,rfl,X⟩
  .rw[ofEvent_loc_mark q]at c;cases c
  .rw[ofEvent_loc_mark q]at c;cases c
  .rw[ofEvent_cell]at c;simp only[bl,dq]at c;subst c;exact .inl ⟨ad,rfl,X,by simp⟩
 .rcases GZ e E with q|q|⟨ad,wr,rfl,X⟩
  .rw[ofEvent_loc_mark q]at c;cases c
  .rw[ofEvent_loc_mark q]at c;cases c
  .rw[ofEvent_cell]at c;simp only[bl,dq]at c;grind
end
section
variable {Y:Lay}{T k:aq->St->Prop}{p hm':Nat->Nat}{u f:Nat->Mem}{tag:CTag}{rk:Rk}{d:Nat}{a:aq}{C:Mu}{sl:Option (Nat×Nat)}{t:Trace}{D:Nat->WD}{A:Nat->Nat}{K:Nat->Rk}{st E:Int}
def CS.bound(h:CS P ty Y N val n T k tag j rk d a s):j+pend tag<=n:=by cases h<;>simp only[pend]<;>(try simp)<;>omega
omit [Payload]in
def iu(h:j1 (Cx.lead P ty Y.Wg) (Es Y.Wg) S rk a s)(l:b6 s {s with w:=w})(G:jH Y p u j s)(live:WgLive ty Y.Wg w):
  (∃s',b6 s' {s' with w:=w}/\jH Y p u j s'/\S a s')∨∃s',b6 s' {s' with w:=w}/\jH Y p u j s'/\∃g' s2 es r',aH P ab a w=.go g' s2.w es/\(qS {s' with w:=w} s2 es∨Es Y.Wg {s' with w:=w} s2 es)/\j1 (Cx.lead P ty Y.Wg) (Es Y.Wg) S r' g' s2/\Rk.lt r' rk:=by
 rcases h.norm (λs0=>b6 s0 {s0 with w:=w}/\jH Y p u j s0) (λs0 s' B hi=>⟨hi.1.ghost B,hi.2.ghost B⟩) (λF=>False.elim F) ⟨l,G⟩with⟨s',⟨k1,c⟩,z⟩|⟨_,s',⟨k1,c⟩,z⟩
 .grind
 .exact .inr ⟨s',k1,c,z _ ⟨k1,λ_=>live⟩⟩
def WS.quits{x a st d:Nat}{r:Rk}{g:aq}(h:WS P ty Y N val p u x a st r d g w)(b:st=1):∃m,QuitsD P m d g:=by
 cases h with
 |am _ _ _=>cases b
 |rel _=>cases b
 |tail _ h=>exact⟨_,h.quits b⟩
def WS.small{x a st d:Nat}{r:Rk}(h:WS P ty Y N val p u x a st r d g w)(b:st=1):a=0:=by
 cases h with
 |am _ _ _=>cases b
 |rel _=>rfl
 |tail _ h=>rfl
def Jm(I:tb P ty Y N val n T k C gs w t p u j D A K d tag rk a s st E)(hn:n<2147483648)(VI:∀g s,k g s->ei (Cx.lead P ty Y.Wg) (Es Y.Wg) (AtW1 P ty Y T k) g s)(vM:a.status=.running):
  ∃V ops,runT P (crowd gs w sl) 0=(.next V,ops)/\((∃hm' f,Nq P Y N val n T hm' f V (t++ops))∨∃μ',FO (Y.base+n) μ' C/\Inv P ty Y N val n T k μ' V (t++ops)):=by
 have hVj:=Vc_le j D;have Ji:=I.fY.tl.base;have live:=I.fY.live;have fin:∀{X:Prop},(∃V ops μ',runT P (crowd gs w sl) 0=(.next V,ops)/\FO (Y.base+n) μ' C/\Inv P ty Y N val n T k μ' V (t++ops)) ->
   ∃V ops,runT P (crowd gs w sl) 0=(.next V,ops)/\((∃hm' f,Nq P Y N val n T hm' f V (t++ops))∨∃μ',FO (Y.base+n) μ' C/\Inv P ty Y N val n T k μ' V (t++ops)) :=
  λ{_} ⟨V,ops,μ',l,h2,h3⟩=>⟨V,ops,l,.inr ⟨μ',h2,h3⟩⟩
 have hbound:=I.cs.bound;have cs:=I.cs;have Q:=I.wg;have J:=I.mode;cases cs with
 |@skd r rk g s hr h =>
  rcases iu h I.rely I.lead live with⟨s',k1,c,_,g',H,O⟩|⟨s',k1,c,g',s2,es,r',H,U,O,R⟩
  .obtain⟨r2,O⟩:=O {s' with w:=w} (fM k1 live);exact fin (X:=True) (gf I k1 c (H w) (.refl Y.Wg w) Q bk_dis (.sa1 hr O) (J.reopen ar ar rfl (by simp)) (.inl (by simp only[phi];omega)))
  .exact fin (X:=True) (ir I k1 c H U (.skd hr O) R)
 |@sa1 r rk g s hr h =>
  rcases iu h I.rely I.lead live with⟨s',k1,c,_,W⟩|⟨s',k1,c,g',s2,es,r',H,U,O,R⟩
  .obtain⟨ho,e1,e2,_⟩:=J.open_inv ar;rw[e1,e2]at Q;obtain⟨a',H,r2,O⟩:=W {s' with w:=w} (fM k1 live) (Vc (n-(r+1)) D) (by omega) (by simpa[pend]using Q);refine fin (X:=True) (gf I k1 c H (aside_setCell w (stA Y.Wg) _) (Q.setSt _) bk_rw (.ske hr O) ?_ (.inl (by simp only[phi];omega)));have e:(((Vc (n-(r+1)) D:Nat):Int)+1)*KK=((Vc (n-(r+1)) D+pend (.sp r 3):Nat):Int)*KK:=by simp[pend]
   rw[e];exact .opn ar ho (by simp)
  .exact fin (X:=True) (ir I k1 c H U (.sa1 hr O) R)
 |@ske r rk g s hr h =>
  rcases iu h I.rely I.lead live with⟨s',k1,c,_,g',H,O⟩|⟨s',k1,c,g',s2,es,r',H,U,O,R⟩
  .obtain⟨r2,O⟩:=O {s' with w:=w} (fM k1 live);exact fin (X:=True) (gf I k1 c (H w) (.refl Y.Wg w) Q bk_en (.sgo hr O) (J.reopen ar ar rfl (by simp)) (.inl (by simp only[phi];omega)))
  .exact fin (X:=True) (ir I k1 c H U (.ske hr O) R)
 |@sgo r rk g s hr h =>
  rcases iu h I.rely I.lead live with⟨s',k1,c,_,W⟩|⟨s',k1,c,g',s2,es,r',H,U,O,R⟩
  .obtain⟨a',child,hsp,_,⟨rc,hwk⟩,Pv⟩:=W {s' with w:=w} (fM k1 live);obtain⟨ho,e1,e2,_⟩:=J.open_inv ar;rw[e1,e2]at Q;have wa:=runT_crowd_spawn (P:=P) (sl:=sl) (i:=0) I.a0 (by simpa using hsp);rw[I.fY.size]at wa;have z:jH Y p u (n-(r+1)) {s' with w:=w}:=c.rely k1.size;let f:=upd u (n-(r+1)) s'.M;have YG:∀y,y<n-(r+1)->f y=u y:=λy hy=>upd_ne u _ (by omega);have WQ:f (n-(r+1))=s'.M:=upd_same u _ _;have QT:b6 (St.child {s' with w:=w}) {St.child {s' with w:=w}with w:=w}:=b6.vX k1.mem;have TN:lJ p (f (n-(r+1))) (Y.base+(n-(r+1))) (St.child {s' with w:=w}):=by
    refine⟨λb hb=>?_,λb o v hv=>⟨.inr (by rw[WQ];exact hv),(z.M b o v hv).2.2.2.2⟩⟩;rcases hb with hb|⟨L,hL,_⟩
    .exact hb.elim
    .simp[St.child]at hL
   have FT:=(I.fY.congr YG).spawn (a':=a') (x:={g:=0,fn:=a.frame.fn,pos:=a.frame.place,act:=.go (Y.base+(n-(r+1)))}) (y:={g:=Y.base+(n-(r+1)),fn:=child.frame.fn,pos:=a.frame.place,act:=.start}) ⟨rfl,rfl⟩ ⟨rfl,rfl⟩
    (λb o v hv=>by rw[WQ]at hv;exact z.M b o v hv) hwk QT TN
   have eV:Vc (n-(r+1)+1) (upd D (n-(r+1)) ⟨7,0,0⟩)=Vc (n-(r+1)) D+1:=by simp only[Vc,sumTo,upd_same];rw[sumTo_upd_out D _ cnt (ba _)];rfl
   have eS:Ssum (n-(r+1)+1) (upd D (n-(r+1)) ⟨7,0,0⟩)=Ssum (n-(r+1)) D+7:=by simp only[Ssum,sumTo,upd_same];rw[sumTo_upd_out D _ WD.stage (ba _)]
   have eA:sumTo (n-(r+1)+1) (upd A (n-(r+1)) 1)=sumTo (n-(r+1)) A+1:=by have:sumTo (n-(r+1)) (upd A (n-(r+1)) 1)=sumTo (n-(r+1)) A:=sumTo_upd_out A 1 id (i:=n-(r+1)) (j:=n-(r+1)) (ba _);show sumTo (n-(r+1)) (upd A (n-(r+1)) 1)+upd A (n-(r+1)) 1 (n-(r+1))=_;rw[upd_same];grind
   have VJ:OpenSt (n-(r+1)+1) (upd D (n-(r+1)) ⟨7,0,0⟩):=λi hi=>by
    by_cases e:i=n-(r+1)
    .subst e;rw[upd_same];simp
    .rw[upd_ne D _ e];exact ho i (by omega)
   have WR:((gs.setIfInBounds 0 a').push child)[0]?=aa a':=by
    have h0:0<gs.size:=by rw[I.fY.size];omega
    grind
   have Ae:jH Y p f (n-(r+1)+1) {s' with w:=w}:=⟨z.blk,z.M,λy hy b o v hv=>by
    rcases cG y (n-(r+1))with l|l
    .rw[YG y l]at hv;exact z.ms y l b o v hv
    .obtain rfl:y=n-(r+1):=by omega
     rw[WQ]at hv;exact hv⟩
   have ej:n-(r+1)+1=n-r:=by omega
   rw[ej]at FT eV eS eA VJ Ae;have WT:∀tag',pend tag'=0->((Vc (n-(r+1)) D+pend (.sp r 2):Nat):Int)*KK=((Vc (n-r) (upd D (n-(r+1)) ⟨7,0,0⟩)+pend tag':Nat):Int)*KK:=λtag' hp=>by rw[eV,hp];simp[pend]
   cases r with
   |zero =>
    obtain⟨r3,O⟩:=Pv;simp only[kZ]at FT eV eS eA VJ WT Ae;refine⟨_,_,wa,.inr ⟨(phi n (Vc n (upd D (n-(0+1)) ⟨7,0,0⟩)) .kd+Ssum n (upd D (n-(0+1)) ⟨7,0,0⟩)+sumTo n (upd A (n-(0+1)) 1),(upd K (Y.base+(n-(0+1))) rc,r3)),by rw[I.mu];exact Prod.Lex.left _ _ (by simp only[phi];omega),
     _,w,sl,p,f,n,_,_,_,0,.kd,r3,a',{s' with w:=w},_,_,rfl,⟨WR,.kd O,k1.trans',Ae,FT,Q,?_,rfl⟩⟩⟩
    rw[WT .kd rfl];exact .opn ar VJ (by simp)
   |succ r' =>
    obtain⟨r3,O⟩:=Pv;refine⟨_,_,wa,.inr ⟨(phi n (Vc (n-(r'+1)) (upd D (n-(r'+1+1)) ⟨7,0,0⟩)) (.sp r' 5)+Ssum (n-(r'+1)) (upd D (n-(r'+1+1)) ⟨7,0,0⟩)+sumTo (n-(r'+1)) (upd A (n-(r'+1+1)) 1),(upd K (Y.base+(n-(r'+1+1))) rc,r3)),by rw[I.mu];exact Prod.Lex.left _ _ (by simp only[phi];omega),
     _,w,sl,p,f,n-(r'+1),_,_,_,0,.sp r' 5,r3,a',{s' with w:=w},_,_,rfl,⟨WR,.skd (by omega) O,k1.trans',Ae,FT,Q,?_,rfl⟩⟩⟩
    rw[WT (.sp r' 5) rfl];exact .opn ar VJ (by simp)
  .exact fin (X:=True) (ir I k1 c H U (.sgo hr O) R)
 |kd h =>
  rcases iu h I.rely I.lead live with⟨s',k1,c,_,g',H,O⟩|⟨s',k1,c,g',s2,es,r',H,U,O,R⟩
  .obtain⟨r2,O⟩:=VI _ _ (O {s' with w:=w} (fM k1 live));exact fin (X:=True) (gf I k1 c (H w) (.refl Y.Wg w) Q bk_dis (.w1 O) (J.reopen ar ar rfl (by simp)) (.inl (by simp only[phi];omega)))
  .exact fin (X:=True) (ir I k1 c H U (.kd O) R)
 |w1 h =>
  rcases iu h I.rely I.lead live with⟨s',k1,c,_,W⟩|⟨s',k1,c,g',s2,es,r',H,U,O,R⟩
  .obtain⟨ho,e1,e2,_⟩:=J.open_inv ar;rw[e1,e2]at Q;have hV:=Vc_le n D;obtain⟨a',H,h0,Bf⟩:=W {s' with w:=w} (fM k1 live) (Vc n D) (by omega) (by grind);by_cases hv:Vc n D=0
   .obtain⟨r2,O⟩:=h0 hv;refine fin (X:=True) (gf I k1 c H (.refl Y.Wg w) Q bk_rd (.ke O) ?_ (.inl (by simp only[phi];omega)));have e:((Vc n D+pend .w1:Nat):Int)*KK=0:=by grind
    rw[e];exact .fin ar (allQuit_of ho hv)
   .obtain⟨r2,O⟩:=Bf hv;refine fin (X:=True) (gf I k1 c H (.refl Y.Wg w) Q bk_rd (.w2 O) ?_ (.inl (by simp only[phi];omega)));have:=J.reopen (tag':=.w2 (Vc n D)) ar ar rfl (λvs e=>by grind);grind
  .exact fin (X:=True) (ir I k1 c H U (.w1 O) R)
 |@w2 vs rk g s h =>
  rcases iu h I.rely I.lead live with⟨s',k1,c,_,W⟩|⟨s',k1,c,g',s2,es,r',H,U,O,R⟩
  .obtain⟨ho,e1,e2,WU⟩:=J.open_inv ar;rw[e1,e2]at Q;obtain⟨hle,l⟩:=WU vs rfl;obtain⟨WV,TO⟩:=W {s' with w:=w} (fM k1 live) (Vc n D) (by omega) (by grind);by_cases e:Vc n D=vs
   .obtain⟨a',H,r2,O⟩:=WV e;exact fin (X:=True) (gf I k1 c H (aside_setCell w (stA Y.Wg) _) (Q.setSt _) bk_rw (.w3 O) (.reg ar ho (by omega)) (.inl (by simp only[phi];omega)))
   .obtain⟨a',H,O⟩:=TO e;obtain⟨r2,O⟩:=VI _ _ O;refine fin (X:=True) (gf I k1 c H (.refl Y.Wg w) Q bk_rd (.w1 O) ?_ (.inl (by simp only[phi];omega)));have:=J.reopen (tag':=.w1) ar ar rfl (by simp);grind
  .exact fin (X:=True) (ir I k1 c H U (.w2 O) R)
 |@w3 rk g s h =>
  rcases iu h I.rely I.lead live with⟨s',k1,c,lK⟩|⟨s',k1,c,g',s2,es,r',H,U,O,R⟩
  .obtain⟨_,Tm,W⟩:=lK;obtain⟨Nv,Pw⟩:=W {s' with w:=w} (fM k1 live);obtain⟨x,hx⟩:=Rk.Jg s rk;have TP:AtW3 P ty Y T a {s' with w:=w}:=AtW3.rely ⟨vM,Tm,W⟩ (fM k1 live);generalize st=WN at J Q;generalize E=sm0 at J Q;cases J with
   |opn l _ _=>exact l.elim
   |reg l h2 h3=>exact fin (X:=True) (gf I k1 c (Nv ⟨_,Q⟩) (.refl Y.Wg w) Q (by simp) (.blk (rk:=x) TP) (.reg ar h2 h3) (.inr ⟨rfl,hx⟩))
   |last L l h2 h3 h4=>exact fin (X:=True) (gf I k1 c (Nv ⟨_,Q⟩) (.refl Y.Wg w) Q (by simp) (.blk (rk:=x) TP) (.last L ar h2 h3 h4) (.inr ⟨rfl,hx⟩))
   |sema h2 =>
    obtain⟨a',H,r2,O⟩:=Pw Q;exact fin (X:=True) (gf I k1 c H (aside_setCell w (smA Y.Wg) _) (Q.setSm 0) bk_sem (.w4 O) (.fin ar h2) (.inl (by simp only[phi];omega)))
   |fin l _=>exact l.elim
  .exact fin (X:=True) (ir I k1 c H U (.w3 O) (Rk.FN R))
 |blk h=>grind
 |w4 h =>
  rcases iu h I.rely I.lead live with⟨s',k1,c,_,W⟩|⟨s',k1,c,g',s2,es,r',H,U,O,R⟩
  .obtain⟨hq,e1,e2⟩:=J.fin_inv ar;rw[e1,e2]at Q;obtain⟨a',H,r2,O⟩:=W {s' with w:=w} (fM k1 live) Q;exact fin (X:=True) (gf I k1 c H (.refl Y.Wg w) Q bk_rd (.ke O) (.fin ar hq) (.inl (by simp only[phi];omega)))
  .exact fin (X:=True) (ir I k1 c H U (.w4 O) R)
 |ke h =>
  rcases iu h I.rely I.lead live with⟨s',k1,c,_,g',H,O⟩|⟨s',k1,c,g',s2,es,r',H,U,O,R⟩
  .obtain⟨r2,O⟩:=O {s' with w:=w} (fM k1 live);obtain⟨hq,e1,e2⟩:=J.fin_inv ar;rw[e1,e2]at Q;exact fin (X:=True) (gf I k1 c (H w) (.refl Y.Wg w) Q bk_en (.acq O) (.fin ar hq) (.inl (by simp only[phi];omega)))
  .exact fin (X:=True) (ir I k1 c H U (.ke O) R)
 |acq h =>
  rcases iu h I.rely I.lead live with⟨s',k1,c,_,a',H,O⟩|⟨s',k1,c,g',s2,es,r',H,U,O,R⟩
  .obtain⟨hq,e1,e2⟩:=J.fin_inv ar;have wa:=runT_crowd_go (P:=P) (sl:=sl) (i:=0) I.a0 (by simpa using H w);have ev:MemOp.ofEvents 0 a.frame.fn a.frame.place #[mk (.acquire (stA Y.Wg))]=#[{g:=0,fn:=a.frame.fn,pos:=a.frame.place,act:=.mark (.acquire (stA Y.Wg))}]:=by rw[ofEvents_eq];simp[ofEvent_mk]
   have Z:=I.fY.step0 (g:=a) (g':=a') (fn:=a.frame.fn) (pos:=a.frame.place) (es:=#[mk (.acquire (stA Y.Wg))]) (hm':=p) (w':=w) (λ_ _=>rfl) (ba _) (λy _=>.refl ..) (by simp;exact I.fY.Bg) (by intro e he b hb;simp at he;subst he;simp[mk,aG,bl]at hb) (by intro e he b hb;simp at he;subst he;simp[mk,aG,bl]at hb) (by intro e he;simp at he;subst he;simp[mk]) I.fY.pay live;have hd0:deafBehind 0 #[mk (.acquire (stA Y.Wg))]=0:=rfl;have hy:(t++#[({g:=0,fn:=a.frame.fn,pos:=a.frame.place,act:=.mark (.acquire (stA Y.Wg))}:MemOp)])[t.size]?=aa {g:=0,fn:=a.frame.fn,pos:=a.frame.place,act:=.mark (.acquire (stA Y.Wg))}:=by simp
   have TQ:=Z.tl.Qs (by rw[Z.deaf0];rfl) (Z.norel _) (q:=t.size) (by rw[ev,act?_of hy]) (by rw[ev];simp[Trace.g?]) (by rw[ev];exact⟨0,by simp[Trace.g?],by rw[deaf_old (ba _)];exact I.fY.deaf0⟩) (λx hx=>by
    obtain⟨r,hr⟩:=I.fY.rel x hx (by rw[hq x hx];omega)
    exact⟨r,hr.appOther g_of_ofEvents (by omega),lt_of_act? hr.act⟩)
   have QU:∃q,Leavers P (t++MemOp.ofEvents 0 a.frame.fn a.frame.place #[mk (.acquire (stA Y.Wg))]) ((gs.map (woken P a a' w)).setIfInBounds 0 a') q:=by
    have each:∀i,∃m,∀g,0<i->((gs.map (woken P a a' w)).setIfInBounds 0 a')[i]?=aa g->QuitsD P m (Deaf (t++MemOp.ofEvents 0 a.frame.fn a.frame.place #[mk (.acquire (stA Y.Wg))]) i) g:=by
     intro i;cases Qv:((gs.map (woken P a a' w)).setIfInBounds 0 a')[i]? with
     |none=>exact⟨0,λg _ B=>by cases B⟩
     |some g =>
      rcases nG i with e|QV
      .exact⟨0,λg' h=>by omega⟩
      .rcases cG i Y.base with R|SN
       .obtain⟨m,_,WW⟩:=Z.lv i g QV R Qv;exact⟨m,λg' _ FR=>by grind⟩
       .obtain⟨x,rfl⟩:∃x,i=Y.base+x:=⟨i-Y.base,by omega⟩
        have hx:x<n:=by have:=(fb.1 Qv).1;rw[Z.size]at this;omega
        obtain⟨g0,FM,WX⟩:=Z.wk x hx;rw[Qv]at FM;cases FM;obtain⟨m,WW⟩:=WX.quits (hq x hx);refine⟨m,λg' _ FR=>?_⟩;cases FR;rw[Z.deafW x hx];exact WW
    exact⟨λi=>Classical.choose (each i),λi g hi B=>Classical.choose_spec (each i) g hi B,λi hi=>Z.above i (by rw[Z.size]at hi;exact hi)⟩
   obtain⟨q,QU⟩:=QU;refine⟨_,_,wa,.inl ⟨p,u,⟨_,w,sl,a',s',q,rfl,Go.ConcN.get_map_set_same _ _ _ (by rw[I.fY.size];omega),Z.size,O {s' with w:=w} (fM k1 live),k1,c,QU,TQ,Z.norel,I.fY.pay,λx hx i hi=>?_,I.fY.Du,I.fY.Bg,I.fY.Mz⟩⟩⟩;obtain⟨g0,_,WX⟩:=I.fY.wk x hx;rcases nG i with e|QV
   .subst e;exact I.fY.BO x hx (by rw[hq x hx];omega)
   .exact I.fY.xZ x hx (WX.small (hq x hx)) i QV hi
  .exact fin (X:=True) (ir I k1 c H U (.acq O) R)
end
end
section
open Go.Conc
open Go.ConcN (WD CTag Vc Ssum pend phi cnt WgLive PayAt Has WSit RelBy sumTo upd upd_same upd_ne exists_counted)
open Go.ConcR (KK WgAt stA smA Payload)
variable [Payload]
section
variable {Y:Lay}{T c:aq->St->Prop}{l:Nat->Nat}{u:Nat->Mem}{tag:CTag}{rk:Rk}{d:Nat}{a:aq}{f:Mu}{sl:Option (Nat×Nat)}{t:Trace}{D:Nat->WD}{A:Nat->Nat}{K:Nat->Rk}{st p:Int}
def WS.running_of{x a st d:Nat}{r:Rk}{g:aq}(h:WS P ty Y N val l u x a st r d g w)(b:st≠1):g.status=.running:=by
 cases h with
 |am h1 _ _=>exact h1.run λ_ _ x=>x.1
 |rel h1=>exact Goes.running (λ_ _ x=>x.1) w (Go.ConcN.RW.refl w) h1
 |tail _ h1=>exact h1.running_of b
def someone_runs(I:tb P ty Y N val n T c f gs w t l u j D A K d tag rk a s st p):∃(i:Nat)(g:aq),gs[i]?=aa g/\g.status=.running:=by
 rcases I.cs.status with⟨e,_⟩|⟨_,rfl⟩
 .exact⟨0,a,I.a0,e⟩
 .have b:=I.mode;cases b with
  |opn h1 _ _=>exact h1.elim
  |reg _ _ k =>
   obtain⟨i,hi,o⟩:=exists_counted k;obtain⟨g,h,e⟩:=I.fY.wk i hi;exact⟨_,g,h,e.running_of (by omega)⟩
  |last L _ m k _ =>
   obtain⟨g,h,e⟩:=I.fY.wk L m;exact⟨_,g,h,e.running_of (by omega)⟩
  |fin h1 _=>exact h1.elim
def all_awake(I:tb P ty Y N val n T c f gs w t l u j D A K d tag rk a s st p):∀g∈gs,awake g:=by
 intro g v z;obtain⟨i,hi⟩:=Array.mem_iff_getElem?.1 v;rcases nG i with rfl|b
 .rw[I.a0]at hi;cases hi;rcases I.cs.status with⟨k,_⟩|⟨k,_⟩<;>rw[k]<;>simp
 .rcases cG i Y.base with o|r
  .obtain⟨m,_,y⟩:=I.fY.lv i g b o hi;rcases y.status with h|h<;>rw[h]<;>simp
  .obtain⟨x,rfl⟩:∃x,i=Y.base+x:=⟨i-Y.base,by omega⟩
   have q:x<j:=by have:=(fb.1 hi).1;rw[I.fY.size]at this;omega
   obtain⟨g',e,k⟩:=I.fY.wk x q;rw[hi]at e;cases e;rcases k.status with h|h<;>rw[h]<;>simp
def tb.at(I:tb P ty Y N val n T c f gs w t l u j D A K d tag rk a s st p)(b:Nat):tb P ty Y N val n T c f gs (w.at b) t l u j D A K d tag rk a s st p :=
 ⟨I.a0,I.cs,I.rely.more (ba _) (λ_ _=>rfl) (λ_ _ _ _ h=>h) rfl rfl rfl,I.lead,I.fY.at b,I.wg,I.mode,I.mu⟩
def DX(I:tb P ty Y N val n T c f gs w t l u j D A K d tag rk a s st p)(hi:0<i)(x:i<Y.base)(C:gs[i]?=aa g)(h:g.status=.running):
  ∃e ops μ',runT P (crowd gs w sl) i=(.next e,ops)/\FO (Y.base+n) μ' f/\Inv P ty Y N val n T c μ' e (t++ops):=by
 obtain⟨m,H,E⟩:=I.fY.lv i g hi x C;cases m with
 |zero=>rw[E.1]at h;cases h
 |succ m =>
  rcases E with⟨J,_⟩|⟨_,g',es,B,r,y⟩
  .grind
  .have z:(i==0)=ae:=by grind
   have q:=runT_crowd_go (P:=P) (sl:=sl) (i:=i) C (by rw[z];exact r w)
   obtain⟨tag',rk',v,o,F⟩:=I.cs.wokenBy g g' w;have b:Go.ConcN.Mode j D tag' st p:=I.mode.retag o;refine⟨_,_,(phi n (Vc j D) tag'+Ssum j D+sumTo j A,(upd K i (Rk.nat m),rk')),q,?_,_,w,sl,l,u,j,D,A,_,d,tag',rk',woken P g g' w a,s,st,p,rfl,
    ⟨by rw[Go.ConcN.get_map_set _ _ _ _ (by omega),I.a0];rfl,v,I.rely,I.lead,I.fY.leave hi x B y,I.wg,b,rfl⟩⟩
   rw[I.mu,Go.ConcN.phi_retag n _ o];exact Prod.Lex.right _ (Prod.Lex.left _ _ ⟨i,by omega,by rw[upd_same,H];exact Rk.DV _ s,λk G=>upd_ne K _ G⟩)
def Jn(C:n<2147483648)(z:∀g s,c g s->ei (Cx.lead P ty Y.Wg) (Es Y.Wg) (AtW1 P ty Y T c) g s){m:Machine}(h:Inv P ty Y N val n T c f m t):
  ∃b ops,stepT P m=(.next b,ops)/\((∃hm' Nw,Nq P Y N val n T hm' Nw b (t++ops))∨∃k,FO (Y.base+n) k f/\Inv P ty Y N val n T c k b (t++ops)):=by
 obtain⟨gs,w,sl,l,u,j,D,A,K,O,tag,rk,a,s,st,p,rfl,I⟩:=h;obtain⟨i,g,L,q,v,e,o⟩:=crowd_pick (P:=P) (w:=w) (sl:=sl) (all_awake I) (someone_runs I);rw[o];have y:=I.at L;have E:j<=n:=by have:=I.cs.bound;omega
 rcases nG i with rfl|r
 .rw[I.a0]at v;cases v;exact Jm (sl:=q) y C z e
 .rcases cG i Y.base with B|H
  .obtain⟨b,ops,k,J,M,F⟩:=DX (sl:=q) y r B v e;grind
  .obtain⟨x,rfl⟩:∃x,i=Y.base+x:=⟨i-Y.base,by omega⟩
   have G:x<j:=by have:=(fb.1 v).1;rw[I.fY.size]at this;omega
   obtain⟨b,ops,k,J,M,F⟩:=stepWorker (sl:=q) y C E I.cs.bound G v e;grind
def G1(x:n<2147483648)(k:∀g s,c g s->ei (Cx.lead P ty Y.Wg) (Es Y.Wg) (AtW1 P ty Y T c) g s):∀(f:Mu)(m:Machine)(t:Trace),Inv P ty Y N val n T c f m t ->
  ∃M j i hm' Nw,runNT P M m t=(.next j,i)/\Nq P Y N val n T hm' Nw j i:=by
 intro f;induction(QS (Y.base+n)).apply f with
 |intro f _ w =>
  intro m t h;obtain⟨b,ops,q,e⟩:=Jn x k h;rcases e with⟨hm',Nw,e⟩|⟨o,e,v⟩
  .exact⟨1,b,t++ops,hm',Nw,by simp[runNT,q],e⟩
  .obtain⟨M,j,i,hm',Nw,k1,r⟩:=w o e b (t++ops) v;exact⟨M+1,j,i,hm',Nw,by simp only[runNT,q];exact k1,r⟩
def Be.fork{s0:St}{T':aq->St->Prop}(kc:Nat)(YB:0<kc)(Wg C:Nat)(hn:n<2147483648)(Bf:C≠Wg)(hg:eO s s0)(vM:g.status=.running)(hC:∃L∈s.β,C∈L.bs)(hW:∃L∈s.β,Wg∈L.bs)(z:∀b,(s.own b∨∃L∈s.β,b∈L.bs)->b<s.w.heap.size)(h0:∀b,(b=C∨b=Wg)->¬s0.own b/\(∀L∈s0.β,b∉L.bs)/\∀o,s0.M b o=af)(S:WgAt ty Wg s.w 0 0)(Jl:PayAt C N s.w)(h:∀Y:Lay,Y.Wg=Wg->Y.C=C->Y.kc=kc->∃T c,(∀g s,c g s->ei (Cx.lead P ty Y.Wg) (Es Y.Wg) (AtW1 P ty Y T c) g s)/\Spawns P ty Y N val n c n g s0 /\
   ∀g' s',T g' s'->fW s'->PayAt C N s'.w->(∀x,x<n->∀i,i<kc->s'.w.cell? ⟨C,kc*x+i,af⟩=aa (val x i))->C<s'.w.heap.size->(∀b,(b=C∨b=Wg)->¬s'.own b/\(∀L∈s'.β,b∉L.bs)/\∀o,s'.M b o=af) ->
    ∃s2,T' g' s2/\s2.w=s'.w/\fW s2/\∀Sh:Nat->Prop,Clear Sh s'->¬Sh C->Clear Sh s2):Be P g s T':=by
 intro Sh gs sl t q l ha H hP hc Fs;have WY:¬Sh C:=λhs=>let ⟨L,H,hb⟩:=hC;hc.β C hs L H hb
 have WZ:¬Sh Wg:=λhs=>let ⟨L,H,hb⟩:=hW;hc.β Wg hs L H hb
 have Z:=z C (.inr hC);have W0:=z Wg (.inr hW);have V:1<=gs.size:=(fb.1 ha).1;let Y:Lay:={Sh:=Sh,T0:=t.size,Wg:=Wg,C:=C,base:=gs.size,kc:=kc}
 obtain⟨T,c,VI,y,W1⟩:=h Y rfl rfl rfl;have R:=hc.ghost hg;have X:fW s0:=.ghost hg;have B:jH Y (λ_=>0) (λ_ _ _=>af) 0 s0:=by
  refine⟨λb hb=>⟨rfl,λe=>?_,λe=>?_,λe=>?_,by rw[hg.w];exact z b (hg.blk b hb)⟩,λb o v U=>⟨rfl,λe=>?_,λe=>?_,λe=>?_,fW.lt X U⟩,λx m=>absurd m (gR x)⟩
  .grind
  .grind
  .rcases hb with hb|⟨L,H,hb⟩
   .exact R.own b e hb
   .exact R.β b e L H hb
  .grind
  .grind
  .rw[R.M b e o]at U;cases U
 have O:Com P ty Y N val (λ_=>0) (λ_ _ _=>af) 0 gs s.w t (λ_=>⟨0,0,0⟩) (λ_=>0) (λi=>Rk.nat (q i)) 0 :=
  ⟨rfl,λi g hi _ Qv=>⟨q i,rfl,H.old i g hi Qv⟩,H.above,λx m=>absurd m (gR x),TL.start hP rfl V Bf WZ WY,Fs,hP.hears,λx m=>absurd m (gR x),λx m=>absurd m (gR x),λx m=>absurd m (gR x),λx m=>absurd m (gR x),
   Jl,⟨_,_,S⟩,W0,Z,hc.lt,YB,λx m=>absurd m (gR x)⟩
 have J:b6 s0 {s0 with w:=s.w}:=by have:=b6.vX X;rw[<-hg.w];exact this
 have E:∃f,Inv P ty Y N val n T c f (crowd gs s.w sl) t:=by
  cases n with
  |zero =>
   obtain⟨r,y⟩:=y;exact⟨_,gs,s.w,sl,_,_,0,_,_,_,0,.kd,r,g,s0,_,_,rfl,⟨ha,.kd y,J,B,O,S,by have:=Go.ConcN.Mode.opn (j:=0) (D:=λ_=>(⟨0,0,0⟩:WD)) (tag:=.kd) ar (λi hi=>absurd hi (gR i)) (by simp);simpa[Vc,sumTo,pend]using this,rfl⟩⟩
  |succ n =>
   obtain⟨r,y⟩:=y;have TR:CS P ty Y N val (n+1) T c (.sp n 5) (n+1-(n+1)) r 0 g s0:=.skd (Nat.lt_succ_self n) y;rw[Nat.sub_self]at TR;exact⟨_,gs,s.w,sl,_,_,0,_,_,_,0,.sp n 5,r,g,s0,_,_,rfl,⟨ha,TR,J,B,O,S,by have:=Go.ConcN.Mode.opn (j:=0) (D:=λ_=>(⟨0,0,0⟩:WD)) (tag:=.sp n 5) ar (λi hi=>absurd hi (gR i)) (by simp);simpa[Vc,sumTo,pend]using this,rfl⟩⟩
 obtain⟨f,E⟩:=E;obtain⟨M,m',t',hm',Nw,YH,⟨gs',w',sl',a',G,q',rfl,WR,_,hT,W,TS,gm,hP',aaQ,hp',I,hlC,hlW,hlS⟩⟩:=G1 hn VI f _ _ E;have Q:jH Y hm' Nw n {G with w:=w'}:=TS.rely W.size;have F:∀b,(b=C∨b=Wg∨Sh b)->¬G.own b/\(∀L∈G.β,b∉L.bs)/\∀o,G.M b o=af:=by
  intro b hb;have key:∀x,(hm' x=0/\x≠Y.C/\x≠Y.Wg/\¬Y.Sh x/\x<w'.heap.size)->x≠b:=by grind
  refine⟨λho=>key b (Q.blk b (.inl ho)) rfl,λL H Qd=>key b (Q.blk b (.inr ⟨L,H,Qd⟩)) rfl,λo=>?_⟩;cases hM:G.M b o with
  |none=>rfl
  |some v=>exact absurd rfl (key b (Q.M b o v hM))
 obtain⟨s2,hT2,WU,WW,SD⟩:=W1 a' {G with w:=w'} hT (λb o v U=>W.mem b o v U) hp' I hlC (λb hb=>F b (hb.elim .inl λe=>.inr (.inl e)));have Mx:Clear (λb=>Sh b∨b=Wg) {G with w:=w'}:=by have k:∀b,(Sh b∨b=Wg)->¬G.own b/\(∀L∈G.β,b∉L.bs)/\∀o,G.M b o=af:=λb hb=>F b (hb.elim (λe=>.inr (.inr e)) λe=>.inr (.inl e));exact⟨λb hb=>(k b hb).1,λb hb=>(k b hb).2.1,λb hb=>(k b hb).2.2,λb hb=>hb.elim (hlS b) λe=>by grind⟩
 grind
end
end
section
open Go.Conc Go.RowKit Go.Conc.Lib Go.ConcR.Gen
open Go.ConcN (WgLive)
open Go.ConcR (KK WgAt stA smA rd wr mk DC0)
variable {L:WgLink}
section
variable (P:aO)(R:aA->aA->Prop)(L:WgLink)(Wg:Nat)(a:aq)
def Xm(g:aq)(_:aA):Prop:=g.status=.running/\∃g',(∀w,aH P ab g w=.go g' w #[mk .enable])/\∀w1,WgLive L.tWg Wg w1->∃m,Goes P ab R DC0 (λg _=>g=a) m g' w1
def GRd(g:aq)(_:aA):Prop:=g.status=.running/\∃g' ad,ad.block=Wg/\(∀w,aH P ab g w=.go g' w #[mk (.read ad)])/\∀w1,WgLive L.tWg Wg w1->∃m,Goes P ab R DC0 (Xm P R L Wg a) m g' w1
def Y3(g:aq)(w:aA):Prop:=g.status=.running/\∀v:Nat,v<2147483647->WgAt L.tWg Wg w (v*KK) 0 ->
 ∃g',aH P ab g w=.go g' (w.setCell (stA Wg) (.int .u64 ((v+1)*KK))) #[rd (stA Wg),wr (stA Wg)]/\∃m,Goes P ab R DC0 (λg w=>GRd P R L Wg a g w∨Xm P R L Wg a g w) m g' (w.setCell (stA Wg) (.int .u64 ((v+1)*KK)))
def GKd(g:aq)(_:aA):Prop:=g.status=.running/\∃g',(∀w,aH P ab g w=.go g' w #[mk .disable])/\∀w1,WgLive L.tWg Wg w1->∃m,Goes P ab R DC0 (Y3 P R L Wg a) m g' w1
end
set_option maxRecDepth 100000 in
def NL{P:aO}(H:WgLib P L){R:aA->aA->Prop}{Wg:Nat}(c:∀{w w1},WgLive L.tWg Wg w->R w w1->WgLive L.tWg Wg w1){b₀:aV}{a₀:Act}{ops₀:Array aB}{i₀:Nat}{rest₀:List Nat}{k₀:List Item}(w:aA)(b:WgLive L.tWg Wg w):
  Goes P ab R DC0 (GKd P R L Wg (G (b₀.at (a₀.put ((ops₀[i₀]?).bind (·.dst)) (.tuple #[])) (.inRegion ops₀ rest₀::k₀)) cs)) 12
   (G ((base L.add).at ⟨#[.pointer (aa ⟨Wg,0,af⟩),.int .i64 1,ah,ah,ah,ah,ah,ah,ah,ah,ah,ah,ah,ah,ah,ah,ah,ah,ah,ah,ah,ah,ah,ah,ah,ah,ah,ah,ah,ah,ah,ah,ah,ah,ah,ah,ah,ah,ah,ah,ah,ah,ah,ah,ah,ah,ah,ah,ah,ah,ah,ah,ah,ah,ah,ah,ah,ah,ah,ah,ah,ah,ah,ah,ah,ah,ah,ah,ah,ah,ah,ah,ah,ah,ah,ah,ah,ah,ah,ah,ah,ah,ah,ah,ah,ah,ah,ah,ah,ah,ah,ah,ah,ah,ah,ah,ah,ah,ah,ah,ah,ah,ah,ah,ah,ah,ah,ah,ah,ah,ah,ah,ah,ah,ah,ah,ah],[]⟩ [.code (body_add L)]) (b₀.at a₀ (.inRegion ops₀ (i₀::rest₀)::k₀)::cs)) w:=by
 lib_facts
 simp only[body_add,addFn,ga]
 repeat (u_c az c b)
 u_cond ab c b
 repeat (u_c az c b)
 u_reg c b
 u_op c b
 u_op c b
 u_c ay c b
 repeat (u_c az c b)
 u_cond ae c b
 u_c stepG_skip c b
 repeat (u_c az c b)
 u_reg c b
 refine Goes.stop (λl f=>?_);refine⟨rfl,_,λw=>stepG_mark0 .disable (by simp) rfl rfl (by k_ne) rfl H.f_disable (x_disable_n L) (x_disable_b L) (x_disable_x L) (x_disable_f L),λw b=>?_⟩;clear f;refine⟨40,?_⟩
 walk_nrm
 u_c ay c b
 repeat (u_c az c b)
 u_reg c b
 u_defer c b
 u_c ay c b
 repeat (u_c az c b)
 u_reg c b
 u_op c b
 u_c ay c b
 repeat (u_c az c b)
 u_reg c b
 u_bub c b
 u_c ay c b
 repeat (u_c az c b)
 u_cond ae c b
 u_c stepG_skip c b
 repeat (u_c az c b)
 u_reg c b
 u_op c b
 u_op c b
 u_op c b
 u_op c b
 u_op c b
 u_op c b
 u_call H.f_uAdd (nm_uAdd L) uAddFn c b
 repeat (u_c az c b)
 u_reg c b
 u_op c b
 u_c ay c b
 repeat (u_c az c b)
 u_reg c b
 u_op c b
 u_op c b
 u_op c b
 u_op c b
 refine Goes.stop (λi e=>?_);replace b:=c b e;clear e;refine⟨rfl,λv q j=>?_⟩;have k:KK=4294967296:=rfl;have p:IntKind.u64.wrap ((v:Int)*KK+4294967296)=((v:Int)+1)*KK:=by rw[IntKind.wrap_u64];simp only[k];omega
 refine⟨_,(stepG_add_atomic rfl rfl (by k_ne) rfl H.f_addU64 (x_addU64_n L) (x_addU64_b L) (x_addU64_x L) .u64 (x_addU64_f L) rfl rfl j.cellSt (j.thaw 0)).trans (by rw[p];rfl),110,?_⟩;replace b:WgLive L.tWg Wg (i.setCell (stA Wg) (.int .u64 (((v:Int)+1)*KK))):=⟨_,_,j.setSt _⟩
 clear j
 walk_nrm
 u_op c b
 u_c ay c b
 u_c stepG_ret' c b
 u_leave1 H.f_uAdd c b
 u_op c b
 u_c ay c b
 have x:bits .and .u64 (((v:Int)+1)*4294967296) 2147483648=0:=by have:=Go.ConcN.st_flag (v+1) 0 (by omega) (by omega);grind
 have s:bits .and .u64 (((v:Int)+1)*4294967296) 2147483647=0:=by have:=Go.ConcN.st_waiters (v+1) 0 (by omega) (by omega);grind
 have r:((v:Int)+1+2147483648) % 4294967296-2147483648=(v:Int)+1:=by omega
 have t:¬((v:Int)+1<0):=by omega
 have u:(0:Int)<(v:Int)+1:=by omega
 repeat (u_c az c b)
 u_reg c b
 u_op c b
 u_op c b
 u_op c b
 u_op c b
 u_skip c b
 u_skip c b
 u_op c b
 u_c ay c b
 repeat (u_c az c b)
 u_cond ae c b
 u_c stepG_skip c b
 repeat (u_c az c b)
 u_reg c b
 u_op c b
 u_op c b
 u_op c b
 u_op c b
 u_c ay c b
 repeat (u_c az c b)
 u_reg c b
 u_op c b
 u_op c b
 u_op c b
 u_op c b
 u_c ay c b
 by_cases o:(v:Int)+1=1
 .repeat (u_c az c b)
  u_reg c b
  u_op c b
  u_op c b
  u_op c b
  u_op c b
  u_op c b
  u_op c b
  u_op c b
  u_op c b
  u_op c b
  u_op c b
  u_c ay c b
  repeat (u_c az c b)
  u_cond ab c b
  repeat (u_c az c b)
  u_reg c b
  u_op c b
  u_op c b
  u_op c b
  u_conv H.underlying_tPU32 H.room_tU32 (Go.ConcN.Gen.WgLive.cell1 b).choose_spec c b
  refine Goes.stop (λm g=>.inl ?_);clear g;refine⟨rfl,_,⟨Wg,1,af⟩,rfl,λw=>stepG_markAt .read (by simp) rfl rfl (by k_ne) rfl H.f_raceRead (x_raceRead_n L) (x_raceRead_b L) (x_raceRead_x L) (x_raceRead_f L) (ad:=⟨Wg,1,af⟩) (by simp[Act.eval]),λw b=>⟨50,?_⟩⟩
  walk_nrm
  u_c ay c b
  repeat (u_c az c b)
  u_reg c b
  u_op c b
  u_op c b
  u_c ay c b
  repeat (u_c az c b)
  u_cond ae c b
  u_c stepG_skip c b
  repeat (u_c az c b)
  u_reg c b
  u_op c b
  u_op c b
  u_op c b
  u_skip c b
  u_skip c b
  u_op c b
  u_op c b
  u_skip c b
  u_skip c b
  u_skip c b
  u_skip c b
  u_op c b
  u_c ay c b
  repeat (u_c az c b)
  u_cond ae c b
  u_c stepG_skip c b
  repeat (u_c az c b)
  u_reg c b
  u_op c b
  u_op c b
  u_op c b
  u_skip c b
  u_skip c b
  u_op c b
  u_c ay c b
  repeat (u_c az c b)
  u_cond ab c b
  u_c stepG_ret' c b
  refine Goes.stop (λh d=>?_);clear d;refine⟨rfl,_,λw=>stepG_unwind_entry (v:=.tuple #[]) (evs:=#[mk .enable]) rfl H.f_enable (x_enable_n L) (x_enable_b L) (x_enable_x L) (x_enable_f L) (by simp[Extern.Race.none_]) (by simp[mk]) (by simp[mk]),λw b=>⟨1,?_⟩⟩
  u_leave0 H.f_add c b
  grind[Goes.stop]
 .have n:((v:Int)+1==1)=ae:=by grind
  repeat (u_c az c b)
  u_reg c b
  u_op c b
  u_op c b
  u_op c b
  u_op c b
  u_op c b
  u_op c b
  u_op c b
  u_op c b
  u_op c b
  u_op c b
  u_c ay c b
  repeat (u_c az c b)
  u_cond ae c b
  u_c stepG_skip c b
  repeat (u_c az c b)
  u_reg c b
  u_op c b
  u_op c b
  u_c ay c b
  repeat (u_c az c b)
  u_cond ae c b
  u_c stepG_skip c b
  repeat (u_c az c b)
  u_reg c b
  u_op c b
  u_op c b
  u_op c b
  u_skip c b
  u_skip c b
  u_op c b
  u_op c b
  u_skip c b
  u_skip c b
  u_skip c b
  u_skip c b
  u_op c b
  u_c ay c b
  repeat (u_c az c b)
  u_cond ae c b
  u_c stepG_skip c b
  repeat (u_c az c b)
  u_reg c b
  u_op c b
  u_op c b
  u_op c b
  u_skip c b
  u_skip c b
  u_op c b
  u_c ay c b
  repeat (u_c az c b)
  u_cond ab c b
  u_c stepG_ret' c b
  refine Goes.stop (λh d=>.inr ?_);clear d;refine⟨rfl,_,λw=>stepG_unwind_entry (v:=.tuple #[]) (evs:=#[mk .enable]) rfl H.f_enable (x_enable_n L) (x_enable_b L) (x_enable_x L) (x_enable_f L) (by simp[Extern.Race.none_]) (by simp[mk]) (by simp[mk]),λw b=>⟨1,?_⟩⟩
  u_leave0 H.f_add c b
  grind[Goes.stop]
end
section
open Go.Conc Go.RowKit Go.Conc.Lib Go.ConcR.Gen
open Go.ConcN (WgLive)
open Go.ConcR (KK WgAt stA smA rd wr mk DC0)
section
variable (P:aO)(R:aA->aA->Prop)(L:WgLink)(Wg:Nat)(a:aq)(b:aq->Prop)
def Ud(g:aq)(_:aA):Prop:=g.status=.running/\∃g',(∀w,aH P ab g w=.go g' w #[mk (.acquire (stA Wg))])/\∀w1,WgLive L.tWg Wg w1->∃m,Goes P ab R DC0 (λg _=>g=a) m g' w1
def Xn(g:aq)(_:aA):Prop:=g.status=.running/\∃g',(∀w,aH P ab g w=.go g' w #[mk .enable])/\∀w1,WgLive L.tWg Wg w1->∃m,Goes P ab R DC0 (Ud P R L Wg a) m g' w1
def Y4(g:aq)(w:aA):Prop:=g.status=.running/\(WgAt L.tWg Wg w 0 0->∃g',aH P ab g w=.go g' w #[rd (stA Wg)]/\∃m,Goes P ab R DC0 (Xn P R L Wg a) m g' w)
def Y5(g:aq)(w:aA):Prop:=g.status=.running/\g.offers=af/\((∃st,WgAt L.tWg Wg w st 0)->aH P ab g w=.go {g with status:=.blocked} w #[]) /\
 (WgAt L.tWg Wg w 0 1->∃g',aH P ab g w=.go g' (w.setCell (smA Wg) (.int .u32 0)) (semEvents (smA Wg))/\∃m,Goes P ab R DC0 (Y4 P R L Wg a) m g' (w.setCell (smA Wg) (.int .u32 0)))
def Y6(g:aq)(_:aA):Prop:=g.status=.running/\∃g' ad,ad.block=Wg/\(∀w,aH P ab g w=.go g' w #[mk (.write ad)])/\∀w1,WgLive L.tWg Wg w1->∃m,Goes P ab R DC0 (Y5 P R L Wg a) m g' w1
def Y7(vs:Nat)(g:aq)(w:aA):Prop:=g.status=.running/\∀v:Nat,v<2147483648->WgAt L.tWg Wg w (v*KK) 0 ->
 (v=vs->∃g',aH P ab g w=.go g' (w.setCell (stA Wg) (.int .u64 (v*KK+1))) #[rd (stA Wg),wr (stA Wg)]/\∃m,Goes P ab R DC0 (Y6 P R L Wg a) m g' (w.setCell (stA Wg) (.int .u64 (v*KK+1)))) /\
 (v≠vs->∃g',aH P ab g w=.go g' w #[rd (stA Wg)]/\∃m,Goes P ab R DC0 (λg _=>b g) m g' w)
def HW1(g:aq)(w:aA):Prop:=g.status=.running/\∀v:Nat,v<2147483648->WgAt L.tWg Wg w (v*KK) 0 ->
 ∃g',aH P ab g w=.go g' w #[rd (stA Wg)]/\(v=0->∃m,Goes P ab R DC0 (Xn P R L Wg a) m g' w)/\(v≠0->∃m,Goes P ab R DC0 (Y7 P R L Wg a b v) m g' w)
def HKd(g:aq)(_:aA):Prop:=g.status=.running/\∃g',(∀w,aH P ab g w=.go g' w #[mk .disable])/\∀w1,WgLive L.tWg Wg w1->∃m,Goes P ab R DC0 (λg _=>b g) m g' w1
end
def Rj(L:WgLink)(Wg:Nat)(c:aV)(cs:List aV)(g:aq):Prop :=
 ∃T:Array aj,g=G ((base L.wait).at ⟨T,[]⟩ [.code (L7 L),.inLoop (L7 L),.inBlock 0]) (c::cs)/\T.size=84/\T[0]?=aa (.pointer (aa ⟨Wg,0,af⟩))
set_option maxRecDepth 100000 in
def Ee{L:WgLink}(H:WgLib P L){R:aA->aA->Prop}{Wg:Nat}(b:∀{w w1},WgLive L.tWg Wg w->R w w1->WgLive L.tWg Wg w1){c:aV}(w:aA)(a:WgLive L.tWg Wg w):
  Goes P ab R DC0 (HKd P R L Wg (Rj L Wg c cs)) 6 (G ((base L.wait).at ⟨#[.pointer (aa ⟨Wg,0,af⟩),ah,ah,ah,ah,ah,ah,ah,ah,ah,ah,ah,ah,ah,ah,ah,ah,ah,ah,ah,ah,ah,ah,ah,ah,ah,ah,ah,ah,ah,ah,ah,ah,ah,ah,ah,ah,ah,ah,ah,ah,ah,ah,ah,ah,ah,ah,ah,ah,ah,ah,ah,ah,ah,ah,ah,ah,ah,ah,ah,ah,ah,ah,ah,ah,ah,ah,ah,ah,ah,ah,ah,ah,ah,ah,ah,ah,ah,ah,ah,ah,ah,ah,ah],[]⟩ [.code (body_wait L)]) (c::cs)) w:=by
 lib_facts
 unfold Rj;simp only[L7,body_wait,waitFn,ga]
 repeat (u_c az b a)
 u_cond ab b a
 repeat (u_c az b a)
 u_reg b a
 refine Goes.stop (λe d=>?_);clear d;refine⟨rfl,_,λw=>stepG_mark0 .disable (by simp) rfl rfl (by k_ne) rfl H.f_disable (x_disable_n L) (x_disable_b L) (x_disable_x L) (x_disable_f L),λw a=>⟨6,?_⟩⟩
 walk_nrm
 u_c ay b a
 repeat (u_c az b a)
 u_c stepG_block b a
 u_c stepG_loop b a
 exact Goes.stop λ_ _=>⟨_,rfl,rfl,rfl⟩
end
section
open Go.Conc Go.RowKit Go.Conc.Lib Go.ConcR.Gen
open Go.ConcN (WgLive)
open Go.ConcN.Gen
open Go.ConcR (KK WgAt stA smA rd wr mk DC0)
set_option maxRecDepth 100000 in
def Ed{L:WgLink}(H:WgLib P L){R:aA->aA->Prop}{Wg:Nat}(b:∀{w w1},WgLive L.tWg Wg w->R w w1->WgLive L.tWg Wg w1){b₀:aV}{a₀:Act}{ops₀:Array aB}{i₀:Nat}{rest₀:List Nat}{k₀:List Item}(g:aq)(Q:Rj L Wg (b₀.at a₀ (.inRegion ops₀ (i₀::rest₀)::k₀)) cs g)(w:aA)(a:WgLive L.tWg Wg w):
  ∃m,Goes P ab R DC0 (HW1 P R L Wg (G (b₀.at (a₀.put ((ops₀[i₀]?).bind (·.dst)) (.tuple #[])) (.inRegion ops₀ rest₀::k₀)) cs) (Rj L Wg (b₀.at a₀ (.inRegion ops₀ (i₀::rest₀)::k₀)) cs)) m g w:=by
 lib_facts
 obtain⟨T,rfl,p,t⟩:=Q;obtain⟨v0,v1,v2,v3,v4,v5,v6,v7,v8,v9,v10,v11,u,V,v14,v15,O,v17,v18,v19,v20,v21,v22,v23,v24,U,X,v27,v28,E,v30,v31,v32,v33,D,Y,v36,v37,M,v39,v40,v41,K,y,x,v45,v46,I,v48,v49,v50,N,v52,v53,v54,v55,v56,C,v58,v59,v60,v61,W,v63,v64,B,z,v67,v68,v69,v70,v71,A,v73,v74,v75,Z,F,J,v79,v80,v81,v82,v83,rfl⟩:=array84 T p;simp only[hX,ju,dq]at t;subst t;refine⟨30,?_⟩;unfold Rj;simp only[L7,body_wait,waitFn,ga]
 u_c stepG_block b a
 repeat (u_c az b a)
 u_reg b a
 u_op b a
 u_op b a
 u_op b a
 u_call H.f_uLoad (nm_uLoad L) uLoadFn b a
 repeat (u_c az b a)
 u_reg b a
 u_op b a
 u_c ay b a
 repeat (u_c az b a)
 u_reg b a
 u_op b a
 u_op b a
 u_op b a
 refine Goes.stop (λo k=>?_);replace a:=b a k;clear k;refine⟨rfl,λv hv d=>?_⟩;rcases nG v with rfl|hvp
 .replace d:WgAt L.tWg Wg o 0 0:=by grind
  refine⟨_,stepG_load_atomic (v:=0) rfl rfl (by k_ne) rfl H.f_loadU64 (x_loadU64_n L) (x_loadU64_b L) (x_loadU64_x L) .u64 (x_loadU64_f L) rfl d.cellSt,λ_=>⟨80,?_⟩,λh=>absurd rfl h⟩;clear d
  walk_nrm
  u_op b a
  u_c ay b a
  u_c stepG_ret' b a
  u_leave1 H.f_uLoad b a
  u_op b a
  u_c ay b a
  repeat (u_c az b a)
  u_reg b a
  u_op b a
  u_op b a
  u_op b a
  u_op b a
  u_c ay b a
  repeat (u_c az b a)
  u_reg b a
  u_op b a
  u_op b a
  u_op b a
  u_op b a
  u_c ay b a
  repeat (u_c az b a)
  u_reg b a
  u_op b a
  u_op b a
  u_c ay b a
  repeat (u_c az b a)
  u_cond ab b a
  repeat (u_c az b a)
  u_cond ab b a
  repeat (u_c az b a)
  u_reg b a
  refine Goes.stop (λf c=>?_);clear c;refine⟨rfl,_,λw=>stepG_mark0 .enable (by simp) rfl rfl (by k_ne) rfl H.f_enable (x_enable_n L) (x_enable_b L) (x_enable_x L) (x_enable_f L),λw a=>⟨20,?_⟩⟩
  walk_nrm
  u_c ay b a
  repeat (u_c az b a)
  u_reg b a
  u_op b a
  u_conv H.underlying_tWgP H.room_tWg (Go.ConcN.Gen.WgLive.cell0 a).choose_spec b a
  refine Goes.stop (λf c=>?_);clear c;refine⟨rfl,_,λw=>stepG_markAt .acquire (by simp) rfl rfl (by k_ne) rfl H.f_acquire (x_acquire_n L) (x_acquire_b L) (x_acquire_x L) (x_acquire_f L) (by simp[Act.eval,stA]),λw a=>⟨40,?_⟩⟩
  walk_nrm
  u_c ay b a
  repeat (u_c az b a)
  u_reg b a
  u_op b a
  u_op b a
  u_op b a
  u_op b a
  u_op b a
  u_op b a
  u_op b a
  u_op b a
  u_skip b a
  u_skip b a
  u_op b a
  u_c ay b a
  repeat (u_c az b a)
  u_cond ae b a
  u_c stepG_skip b a
  u_c stepG_ret' b a
  u_leave0 H.f_wait b a
  grind[Goes.stop]
 .obtain⟨S,l⟩:∃S:Int,(v:Int)*KK=S:=⟨_,rfl⟩;have a1:S / 4294967296=(v:Int):=by rw[<-l];simp only[KK];omega
  have b1:bits .and .u64 S 2147483648=0:=by rw[<-l];have:=Go.ConcN.st_flag v 0 (by omega) (by omega);simpa[KK]using this
  have b2:bits .and .u64 S 2147483647=0:=by rw[<-l];have:=Go.ConcN.st_waiters v 0 (by omega) (by omega);simpa[KK]using this
  have c1:IntKind.i32.wrap (v:Int)=(v:Int):=by grind[IntKind.wrap_i32]
  have w1:IntKind.u64.wrap (S+1)=S+1:=by rw[IntKind.wrap_u64,<-l];simp only[KK];omega
  have q3:decide ((v:Int)<0)=ae:=gx (by omega);have q4:decide (0<(v:Int))=ab:=dc (by omega);have q5:((v:Int)==0)=ae:=by grind
  have q6:decide ((v:Int)=0)=ae:=gx (by omega);rw[l]at d;refine⟨_,stepG_load_atomic (v:=S) rfl rfl (by k_ne) rfl H.f_loadU64 (x_loadU64_n L) (x_loadU64_b L) (x_loadU64_x L) .u64 (x_loadU64_f L) rfl d.cellSt,λh0=>absurd h0 (by omega),λ_=>⟨80,?_⟩⟩;clear d
  walk_nrm
  u_op b a
  u_c ay b a
  u_c stepG_ret' b a
  u_leave1 H.f_uLoad b a
  u_op b a
  u_c ay b a
  repeat (u_c az b a)
  u_reg b a
  u_op b a
  u_op b a
  u_op b a
  u_op b a
  u_c ay b a
  repeat (u_c az b a)
  u_reg b a
  u_op b a
  u_op b a
  u_op b a
  u_op b a
  u_c ay b a
  repeat (u_c az b a)
  u_reg b a
  u_op b a
  u_op b a
  u_c ay b a
  repeat (u_c az b a)
  u_cnd ae b a
  u_c stepG_skip b a
  repeat (u_c az b a)
  u_reg b a
  u_op b a
  u_op b a
  u_op b a
  u_op b a
  u_op b a
  u_op b a
  u_call H.f_uCas (nm_uCas L) uCasFn b a
  repeat (u_c az b a)
  u_reg b a
  u_op b a
  u_c ay b a
  repeat (u_c az b a)
  u_reg b a
  u_op b a
  u_op b a
  u_op b a
  u_op b a
  u_op b a
  refine Goes.stop (λf c=>?_);replace a:=b a c;clear c;refine⟨rfl,λv' Vr d=>⟨λe=>?_,λe=>?_⟩⟩
  .subst e;rw[l]at d⊢;refine⟨_,(stepG_cas_hit (v:=S) (n:=S+1) rfl rfl (by k_ne) rfl H.f_casU64 (x_casU64_n L) (x_casU64_b L) (x_casU64_x L) .u64 (x_casU64_f L) rfl rfl rfl d.cellSt (d.thaw 0)).trans (by rfl),90,?_⟩;replace a:WgLive L.tWg Wg (f.setCell (stA Wg) (.int .u64 (S+1))):=⟨_,_,d.setSt _⟩
   clear d
   walk_nrm
   u_op b a
   u_c ay b a
   u_c stepG_ret' b a
   u_leave1 H.f_uCas b a
   u_c ay b a
   repeat (u_c az b a)
   u_cond ab b a
   repeat (u_c az b a)
   u_reg b a
   u_op b a
   u_op b a
   u_op b a
   u_op b a
   u_c ay b a
   repeat (u_c az b a)
   u_cond ab b a
   repeat (u_c az b a)
   u_reg b a
   u_op b a
   u_op b a
   u_op b a
   u_conv H.underlying_tPU32 H.room_tU32 (Go.ConcN.Gen.WgLive.cell1 a).choose_spec b a
   refine Goes.stop (λf c=>?_);clear c;refine⟨rfl,_,⟨Wg,1,af⟩,rfl,λw=>stepG_markAt .write (by simp) rfl rfl (by k_ne) rfl H.f_raceWrite (x_raceWrite_n L) (x_raceWrite_b L) (x_raceWrite_x L) (x_raceWrite_f L) (ad:=⟨Wg,1,af⟩) (by simp[Act.eval]),λw a=>⟨60,?_⟩⟩
   walk_nrm
   u_c ay b a
   repeat (u_c az b a)
   u_reg b a
   u_op b a
   u_c ay b a
   repeat (u_c az b a)
   u_reg b a
   u_op b a
   u_op b a
   u_op b a
   u_op b a
   u_skip b a
   u_op b a
   u_c ay b a
   repeat (u_c az b a)
   u_cond ae b a
   u_c stepG_skip b a
   repeat (u_c az b a)
   u_reg b a
   u_op b a
   u_op b a
   u_op b a
   u_op b a
   refine Goes.stop (λq i=>?_);replace a:=b a i;clear i;refine⟨rfl,rfl,λ⟨st,d⟩=>stepG_semacquire_wait rfl rfl rfl H.f_semacquire (x_semacquire_n L) (x_semacquire_b L) (x_semacquire_x L) (x_semacquire_f L) (by simp[Act.eval,smA]) d.cellSm,λr=>?_⟩;refine⟨_,(stepG_semacquire (n:=1) rfl rfl (by k_ne) rfl H.f_semacquire (x_semacquire_n L) (x_semacquire_b L) (x_semacquire_x L) (x_semacquire_f L) (by simp[Act.eval,smA]) r.cellSm (by k_ne) (r.thaw 1)).trans (by rfl),40,?_⟩;replace a:WgLive L.tWg Wg (q.setCell (smA Wg) (.int .u32 0)):=⟨_,_,r.setSm 0⟩
   clear r
   walk_nrm
   u_c ay b a
   repeat (u_c az b a)
   u_reg b a
   u_op b a
   u_op b a
   u_op b a
   u_call H.f_uLoad (nm_uLoad L) uLoadFn b a
   repeat (u_c az b a)
   u_reg b a
   u_op b a
   u_c ay b a
   repeat (u_c az b a)
   u_reg b a
   u_op b a
   u_op b a
   u_op b a
   refine Goes.stop (λs j=>?_);replace a:=b a j;clear j;refine⟨rfl,λd=>⟨_,stepG_load_atomic (v:=0) rfl rfl (by k_ne) rfl H.f_loadU64 (x_loadU64_n L) (x_loadU64_b L) (x_loadU64_x L) .u64 (x_loadU64_f L) rfl d.cellSt,40,?_⟩⟩;clear d
   walk_nrm
   u_op b a
   u_c ay b a
   u_c stepG_ret' b a
   u_leave1 H.f_uLoad b a
   u_op b a
   u_op b a
   u_c ay b a
   repeat (u_c az b a)
   u_cond ab b a
   repeat (u_c az b a)
   u_reg b a
   refine Goes.stop (λf c=>?_);clear c;refine⟨rfl,_,λw=>stepG_mark0 .enable (by simp) rfl rfl (by k_ne) rfl H.f_enable (x_enable_n L) (x_enable_b L) (x_enable_x L) (x_enable_f L),λw a=>⟨20,?_⟩⟩
   walk_nrm
   u_c ay b a
   repeat (u_c az b a)
   u_reg b a
   u_op b a
   u_conv H.underlying_tWgP H.room_tWg (Go.ConcN.Gen.WgLive.cell0 a).choose_spec b a
   refine Goes.stop (λf c=>?_);clear c;refine⟨rfl,_,λw=>stepG_markAt .acquire (by simp) rfl rfl (by k_ne) rfl H.f_acquire (x_acquire_n L) (x_acquire_b L) (x_acquire_x L) (x_acquire_f L) (by simp[Act.eval,stA]),λw a=>⟨40,?_⟩⟩
   walk_nrm
   u_c ay b a
   repeat (u_c az b a)
   u_reg b a
   u_op b a
   u_c ay b a
   repeat (u_c az b a)
   u_cond ae b a
   u_c stepG_skip b a
   u_c stepG_ret' b a
   u_leave0 H.f_wait b a
   grind[Goes.stop]
  .refine⟨_,stepG_cas_miss (v:=(v':Int)*KK) (old:=S) (n:=S+1) rfl rfl (by k_ne) rfl H.f_casU64 (x_casU64_n L) (x_casU64_b L) (x_casU64_x L) .u64 (x_casU64_f L) rfl rfl rfl d.cellSt (d.thaw 0) (by rw[<-l];simp only[KK];omega),30,?_⟩;clear d
   walk_nrm
   u_op b a
   u_c ay b a
   u_c stepG_ret' b a
   u_leave1 H.f_uCas b a
   u_c ay b a
   repeat (u_c az b a)
   u_cond ae b a
   u_c stepG_skip b a
   u_c stepG_inBlock b a
   u_c stepG_inLoop b a
   exact Goes.stop λ_ _=>⟨_,rfl,by simp,by simp⟩
end
section
open Go.Conc Go.Conc.Lib
open Go.ConcN (WgLive)
open Go.ConcR (KK WgAt stA smA rd wr mk DC0 Payload)
def fw(ty:aw)(Wg:Nat)(w w1:aA):Prop:=WgLive ty Wg w->WgLive ty Wg w1
def fw.refl{ty:aw}{Wg:Nat}(w:aA):fw ty Wg w w:=id
def fw.trans{ty:aw}{Wg:Nat}{a b c:aA}(h:fw ty Wg a b)(k:fw ty Wg b c):fw ty Wg a c:=λx=>k (h x)
def x4(R:aA->aA->Prop)(Stop:aq->aA->Prop)(g:aq)(w:aA):Prop:=∀w1,R w w1->Stop g w1
def Goes.Ub{P:aO}{main:Bool}{R:aA->aA->Prop}{D:aA->aA->Array Event->Prop}{Stop:aq->aA->Prop}(k:∀a b c,R a b->R b c->R a c):
  ∀{n:Nat} {g:aq} {w:aA},Goes P main R D Stop n g w->Goes P main R D (x4 R Stop) n g w
 |0,g,w,h=>λw1 l w2 p=>h w2 (k _ _ _ l p)
 |n+1,g,w,h=>by
  rcases h with h|⟨d,h⟩
  .exact .inl λw1 l w2 p=>h w2 (k _ _ _ l p)
  .refine .inr ⟨d,λw1 l=>?_⟩;have p:=h w1 l;cases j:aH P main g w1 with
   |go g' w' es =>
    rw[j,goes_go]at p;rw[goes_go];exact⟨p.1,Goes.Ub k p.2⟩
   |_=>rw[j]at p;exact p.elim
structure Apart(Wg:Nat)(F:St->Prop):Prop where
 rely:∀s s',F s->b6 s s'->F s'
 heap:∀s,F s->∃σ,aD σ s
 free:∀s,F s->¬s.own Wg/\(∀L∈s.β,Wg∉L.bs)/\∀o,s.M Wg o=af
section
variable {P:aO}{L:WgLink}{Wg:Nat}{F:St->Prop}
def yJ(ty:aw)(Wg:Nat)(F:St->Prop)(s:St):Prop:=F s/\WgLive ty Wg s.w
def Apart.PF(A:Apart Wg F){s:St}(h:F s):fW s:=(A.heap s h).choose_spec.mem
def Apart.set(A:Apart Wg F){s:St}(h:F s)(a:Addr)(x:a.block=Wg)(v:aj):b6 s {s with w:=s.w.setCell a v}:=by
 obtain⟨l,p,y⟩:=A.free s h;have j:∀b,b≠Wg->(s.w.setCell a v).heap[b]?=s.w.heap[b]?:=λb hb=>by have:=(aside_setCell s.w a v).block b (by grind);exact this
 refine⟨rfl,rfl,rfl,Nat.le_of_eq (aside_setCell s.w a v).size.symm,λb hb=>j b ?_,λb o u k=>?_,(aside_setCell s.w a v).os,(aside_setCell s.w a v).tape,(aside_setCell s.w a v).output⟩
 .grind
 .have C:b≠Wg:=by grind
  show(s.w.setCell a v).cell? _=_;rw[jI (j b C) o];exact A.PF h b o u k
def Apart.next(A:Apart Wg F){ty:aw}{s i:St}(h:yJ ty Wg F s)(r:(Cx.lead P ty Wg).rely s i):yJ ty Wg F i:=⟨A.rely s i h.1 r.1,r.2 h.2⟩
def Apart.here(A:Apart Wg F){ty:aw}{s:St}(h:yJ ty Wg F s):(Cx.lead P ty Wg).rely s s:=⟨b6.vX (A.PF h.1),id⟩
def Apart.goes(A:Apart Wg F){ty:aw}{S:aq->St->Prop}{Stop:aq->aA->Prop}(k:∀g s,yJ ty Wg F s->x4 (fw ty Wg) Stop g s.w->ei (Cx.lead P ty Wg) (Es Wg) S g s){n:Nat}{g:aq}{s:St}(d:yJ ty Wg F s)(h:Goes P ab (fw ty Wg) DC0 Stop n g s.w):ei (Cx.lead P ty Wg) (Es Wg) S g s:=by refine ei.goes (X:=Cx.lead P ty Wg) (R:=fw ty Wg) (D:=DC0) (Stop:=x4 (fw ty Wg) Stop) (yJ ty Wg F) (λs i hi f=>A.next hi f) (λs i _ f=>f.2) ?_ (λs hi=>A.here hi) k n g s d (Goes.Ub (λ_ _ _ l p=>l.trans p) h);rintro s es hi w' ⟨rfl,rfl⟩;exact⟨rfl,.inl (.quiet (A.heap s hi.1).choose_spec)⟩
end
set_option maxRecDepth 100000 in
def Ec{P:aO}{L:WgLink}(H:WgLib P L){Wg:Nat}:Frame.enter P L.add #[.pointer (aa ⟨Wg,0,af⟩),.int .i64 1] .normal=(base L.add).at ⟨#[.pointer (aa ⟨Wg,0,af⟩),.int .i64 1,ah,ah,ah,ah,ah,ah,ah,ah,ah,ah,ah,ah,ah,ah,ah,ah,ah,ah,ah,ah,ah,ah,ah,ah,ah,ah,ah,ah,ah,ah,ah,ah,ah,ah,ah,ah,ah,ah,ah,ah,ah,ah,ah,ah,ah,ah,ah,ah,ah,ah,ah,ah,ah,ah,ah,ah,ah,ah,ah,ah,ah,ah,ah,ah,ah,ah,ah,ah,ah,ah,ah,ah,ah,ah,ah,ah,ah,ah,ah,ah,ah,ah,ah,ah,ah,ah,ah,ah,ah,ah,ah,ah,ah,ah,ah,ah,ah,ah,ah,ah,ah,ah,ah,ah,ah,ah,ah,ah,ah,ah,ah,ah,ah,ah,ah],[]⟩ [.code (Go.ConcR.Gen.body_add L)] :=
 (enter_at (c:=Go.ConcR.Gen.body_add L) _ H.f_add (by kernel_rfl)).trans (by kernel_rfl)
set_option maxRecDepth 100000 in
def Ca{P:aO}{L:WgLink}(H:WgLib P L){Wg:Nat}:Frame.enter P L.wait #[.pointer (aa ⟨Wg,0,af⟩)] .normal=(base L.wait).at ⟨#[.pointer (aa ⟨Wg,0,af⟩),ah,ah,ah,ah,ah,ah,ah,ah,ah,ah,ah,ah,ah,ah,ah,ah,ah,ah,ah,ah,ah,ah,ah,ah,ah,ah,ah,ah,ah,ah,ah,ah,ah,ah,ah,ah,ah,ah,ah,ah,ah,ah,ah,ah,ah,ah,ah,ah,ah,ah,ah,ah,ah,ah,ah,ah,ah,ah,ah,ah,ah,ah,ah,ah,ah,ah,ah,ah,ah,ah,ah,ah,ah,ah,ah,ah,ah,ah,ah,ah,ah,ah,ah],[]⟩ [.code (Go.ConcR.Gen.body_wait L)] :=
 (enter_at (c:=Go.ConcR.Gen.body_wait L) _ H.f_wait (by kernel_rfl)).trans (by kernel_rfl)
section
variable [Payload]{P:aO}{L:WgLink}{Y:Lay}{F:St->Prop}{N n:Nat}{val:Nat->Nat->aj}
def Xl(H:WgLib P L)(A:Apart Y.Wg F){j:Nat}{Next:aq->St->Prop}{b₀:aV}{a₀:Act}{ops₀:Array aB}{i₀:Nat}{rest₀:List Nat}{k₀:List Item}{cs:List aV}(o:∀s,yJ L.tWg Y.Wg F s->ei (Cx.lead P L.tWg Y.Wg) (Es Y.Wg) (AtGo P L.tWg Y N val j Next) (G (b₀.at (a₀.put ((ops₀[i₀]?).bind (·.dst)) (.tuple #[])) (.inRegion ops₀ rest₀::k₀)) cs) s){s:St}(d:yJ L.tWg Y.Wg F s):
  ei (Cx.lead P L.tWg Y.Wg) (Es Y.Wg) (AtKdS P L.tWg Y N val j Next) (G (Frame.enter P L.add #[.pointer (aa ⟨Y.Wg,0,af⟩),.int .i64 1] .normal) (b₀.at a₀ (.inRegion ops₀ (i₀::rest₀)::k₀)::cs)) s:=by
 have z:∀g s,yJ L.tWg Y.Wg F s->Xm P (fw L.tWg Y.Wg) L Y.Wg (G (b₀.at (a₀.put ((ops₀[i₀]?).bind (·.dst)) (.tuple #[])) (.inRegion ops₀ rest₀::k₀)) cs) g s.w->ei (Cx.lead P L.tWg Y.Wg) (Es Y.Wg) (AtKeS P L.tWg Y N val j Next) g s:=by rintro g s d ⟨l,g',p,y⟩;refine⟨.leaf,l,g',p,λi f=>?_⟩;have a:=A.next d f;obtain⟨m,q⟩:=y i.w a.2;exact A.goes (λg s d h=>by obtain rfl:=h s.w (.refl _);grind) a q
 have b:∀g s,yJ L.tWg Y.Wg F s->x4 (fw L.tWg Y.Wg) (Y3 P (fw L.tWg Y.Wg) L Y.Wg (G (b₀.at (a₀.put ((ops₀[i₀]?).bind (·.dst)) (.tuple #[])) (.inRegion ops₀ rest₀::k₀)) cs)) g s.w->ei (Cx.lead P L.tWg Y.Wg) (Es Y.Wg) (AtA1 P L.tWg Y N val j Next) g s:=by
  rintro g s d h;refine⟨.leaf,(h s.w (.refl _)).1,λi f v I t=>?_⟩;have a:=A.next d f;obtain⟨g',l,m,q⟩:=(h i.w f.2).2 v I t;have k:yJ L.tWg Y.Wg F {i with w:=i.w.setCell (stA Y.Wg) (.int .u64 ((v+1)*KK))}:=⟨A.rely _ _ a.1 (A.set a.1 _ rfl _),⟨_,_,t.setSt _⟩⟩;refine⟨g',l,A.goes (λg s d h=>?_) k q⟩
  rcases h s.w (.refl _)with h|h
  .obtain⟨l,g',ad,p,y,U⟩:=h;refine .step l λi f=>⟨g',i,_,y i.w,.inr ⟨rfl,ad,p,.inl rfl⟩,?_⟩
   have a:=A.next d f;obtain⟨m,q⟩:=U i.w a.2;exact A.goes (λg s d h=>z g s d (h s.w (.refl _))) a q
  grind
 have t:=NL (P:=P) (L:=L) H (R:=fw L.tWg Y.Wg) (Wg:=Y.Wg) (λh r=>r h) (b₀:=b₀) (a₀:=a₀) (ops₀:=ops₀) (i₀:=i₀) (rest₀:=rest₀) (k₀:=k₀) (cs:=cs) s.w d.2;rw[Ec H];refine A.goes (λg s d h=>?_) d t;obtain⟨l,g',p,y⟩:=h s.w (.refl _);refine⟨.leaf,l,g',p,λi f=>?_⟩;have a:=A.next d f;obtain⟨m,q⟩:=y i.w a.2;exact A.goes b a q
section
variable (P L Y F)
def TW(B g:aq)(s:St):Prop:=yJ L.tWg Y.Wg F s/\∃m,Goes P ab (fw L.tWg Y.Wg) DC0 (λg _=>g=B) m g s.w
def F7(c:aV)(cs:List aV)(g:aq)(s:St):Prop:=yJ L.tWg Y.Wg F s/\∃m,Goes P ab (fw L.tWg Y.Wg) DC0 (λg _=>Rj L Y.Wg c cs g) m g s.w
end
variable {b₀:aV}{a₀:Act}{ops₀:Array aB}{i₀:Nat}{rest₀:List Nat}{k₀:List Item}{cs:List aV}
omit [Payload]in
def Uc(H:WgLib P L)(A:Apart Y.Wg F){T J:aq->St->Prop}(O:∀g s,TW P L Y F (G (b₀.at (a₀.put ((ops₀[i₀]?).bind (·.dst)) (.tuple #[])) (.inRegion ops₀ rest₀::k₀)) cs) g s->T g s)(E:∀g s,F7 P L Y F (b₀.at a₀ (.inRegion ops₀ (i₀::rest₀)::k₀)) cs g s->J g s){g:aq}{s:St}(h:F7 P L Y F (b₀.at a₀ (.inRegion ops₀ (i₀::rest₀)::k₀)) cs g s):
  ei (Cx.lead P L.tWg Y.Wg) (Es Y.Wg) (AtW1 P L.tWg Y T J) g s:=by
 generalize hc:b₀.at a₀ (.inRegion ops₀ (i₀::rest₀)::k₀)=c at *;generalize Z:G (b₀.at (a₀.put ((ops₀[i₀]?).bind (·.dst)) (.tuple #[])) (.inRegion ops₀ rest₀::k₀)) cs=B at O;have K:∀g s,yJ L.tWg Y.Wg F s->x4 (fw L.tWg Y.Wg) (Ud P (fw L.tWg Y.Wg) L Y.Wg B) g s.w->ei (Cx.lead P L.tWg Y.Wg) (Es Y.Wg) (AtAcq P L.tWg Y T) g s:=by intro g s d h;obtain⟨l,g',p,y⟩:=h s.w (.refl _);exact⟨.leaf,l,g',p,λi f=>O _ _ ⟨A.next d f,y i.w (A.next d f).2⟩⟩
 have z:∀g s,yJ L.tWg Y.Wg F s->x4 (fw L.tWg Y.Wg) (Xn P (fw L.tWg Y.Wg) L Y.Wg B) g s.w->ei (Cx.lead P L.tWg Y.Wg) (Es Y.Wg) (AtKe P L.tWg Y T) g s:=by intro g s d h;obtain⟨l,g',p,y⟩:=h s.w (.refl _);refine⟨.leaf,l,g',p,λi f=>?_⟩;obtain⟨m,q⟩:=y i.w (A.next d f).2;exact A.goes K (A.next d f) q
 have gW4:∀g s,yJ L.tWg Y.Wg F s->x4 (fw L.tWg Y.Wg) (Y4 P (fw L.tWg Y.Wg) L Y.Wg B) g s.w->ei (Cx.lead P L.tWg Y.Wg) (Es Y.Wg) (AtW4 P L.tWg Y T) g s:=by intro g s d h;refine⟨.leaf,(h s.w (.refl _)).1,λi f t=>?_⟩;obtain⟨g',l,m,q⟩:=(h i.w f.2).2 t;exact⟨g',l,A.goes z (A.next d f) q⟩
 have W:∀g s,yJ L.tWg Y.Wg F s->x4 (fw L.tWg Y.Wg) (Y5 P (fw L.tWg Y.Wg) L Y.Wg B) g s.w->ei (Cx.lead P L.tWg Y.Wg) (Es Y.Wg) (AtW3 P L.tWg Y T) g s:=by intro g s d h;refine⟨.leaf,(h s.w (.refl _)).1,(h s.w (.refl _)).2.1,λi f=>⟨(h i.w f.2).2.2.1,λt=>?_⟩⟩;obtain⟨g',l,m,q⟩:=(h i.w f.2).2.2.2 t;exact⟨g',l,A.goes gW4 (s:={i with w:=i.w.setCell (smA Y.Wg) (.int .u32 0)}) ⟨A.rely _ _ (A.next d f).1 (A.set (A.next d f).1 _ rfl _),⟨_,_,t.setSm 0⟩⟩ q⟩
 have Q:∀g s,yJ L.tWg Y.Wg F s->x4 (fw L.tWg Y.Wg) (Y6 P (fw L.tWg Y.Wg) L Y.Wg B) g s.w->ei (Cx.lead P L.tWg Y.Wg) (Es Y.Wg) (AtW3 P L.tWg Y T) g s:=by
  intro g s d h;obtain⟨l,g',ad,p,y,U⟩:=h s.w (.refl _);refine .step l λi f=>⟨g',i,_,y i.w,.inr ⟨rfl,ad,p,.inr rfl⟩,?_⟩
  obtain⟨m,q⟩:=U i.w (A.next d f).2;exact A.goes W (A.next d f) q
 have V:∀(v:Nat) g s,yJ L.tWg Y.Wg F s->x4 (fw L.tWg Y.Wg) (Y7 P (fw L.tWg Y.Wg) L Y.Wg B (Rj L Y.Wg c cs) v) g s.w->ei (Cx.lead P L.tWg Y.Wg) (Es Y.Wg) (AtW2 P L.tWg Y T J v) g s:=by
  intro vs g s d h;refine⟨.leaf,(h s.w (.refl _)).1,λi f v I t=>⟨λe=>?_,λe=>?_⟩⟩
  .obtain⟨g',l,m,q⟩:=((h i.w f.2).2 v I t).1 e;exact⟨g',l,A.goes Q (s:={i with w:=i.w.setCell (stA Y.Wg) (.int .u64 (v*KK+1))}) ⟨A.rely _ _ (A.next d f).1 (A.set (A.next d f).1 _ rfl _),⟨_,_,t.setSt _⟩⟩ q⟩
  .obtain⟨g',l,m,q⟩:=((h i.w f.2).2 v I t).2 e;exact⟨g',l,E _ _ ⟨A.next d f,m,q⟩⟩
 obtain⟨d,m,q⟩:=h;refine A.goes (λg s d h=>?_) d q;obtain⟨m,t⟩:=Ed (P:=P) (L:=L) H (R:=fw L.tWg Y.Wg) (Wg:=Y.Wg) (λh r=>r h) (b₀:=b₀) (a₀:=a₀) (ops₀:=ops₀) (i₀:=i₀) (rest₀:=rest₀) (k₀:=k₀) (cs:=cs) g (by rw[hc];exact h s.w (.refl _)) s.w d.2;rw[hc,Z]at t;refine A.goes (λg s d h=>?_) d t;refine⟨.leaf,(h s.w (.refl _)).1,λi f v I t=>?_⟩;obtain⟨g',l,p,y⟩:=(h i.w f.2).2 v I t;refine⟨g',l,λh0=>?_,λC=>?_⟩
 .obtain⟨m,q⟩:=p h0;exact A.goes z (A.next d f) q
 .obtain⟨m,q⟩:=y C;exact A.goes (V v) (A.next d f) q
omit [Payload]in
def Ue(H:WgLib P L)(A:Apart Y.Wg F){c:aV}{J:aq->St->Prop}(E:∀g s,F7 P L Y F c cs g s->J g s){s:St}(d:yJ L.tWg Y.Wg F s):
  ei (Cx.lead P L.tWg Y.Wg) (Es Y.Wg) (AtKd P L.tWg Y J) (G (Frame.enter P L.wait #[.pointer (aa ⟨Y.Wg,0,af⟩)] .normal) (c::cs)) s:=by have t:=Ee (P:=P) (L:=L) H (R:=fw L.tWg Y.Wg) (Wg:=Y.Wg) (λh r=>r h) (c:=c) (cs:=cs) s.w d.2;rw[Ca H];refine A.goes (λg s d h=>?_) d t;obtain⟨l,g',p,y⟩:=h s.w (.refl _);exact⟨.leaf,l,g',p,λi f=>E _ _ ⟨A.next d f,y i.w (A.next d f).2⟩⟩
end
end
section
open Go.Conc Go.RowKit Go.Conc.Lib Go.ConcR.Gen
open Go.ConcN (WgLive Has RW DWs AtR0 EvW)
open Go.ConcN.Gen
open Go.ConcR (KK WgAt stA smA rd wr mk DC0 Payload)
section
variable {R:aA->aA->Prop}{D:aA->aA->Array Event->Prop}{Stop A:aq->aA->Prop}
def Goes.never(b:∀w,R w w)(f:∀g w,Stop g w->∃g' e,aH P ae g w=.go g' w #[e])(d:∀n g w,A g w->¬Goes P ae R D Stop n g w):
  ∀(m n:Nat) (g:aq) (w:aA),Goes P ae R DC0 A m g w->¬Goes P ae R D Stop n g w
 |0,n,g,w,h,k=>d n g w (h w (b w)) k
 |m+1,n,g,w,h,k=>by
  rcases h with h|⟨_,h⟩
  .grind
  .have h1:=h w (b w);cases a:aH P ae g w with
   |go g' w' es =>
    rw[a,goes_go]at h1;obtain⟨⟨rfl,rfl⟩,h2⟩:=h1;have no:¬Stop g w':=λi=>by grind
    cases n with
    |zero=>exact no (k w' (b w'))
    |succ n =>
     rcases k with k|⟨_,k⟩
     .grind
     .have k1:=k w' (b w');rw[a,goes_go]at k1;exact Goes.never b f d m n g' w' h2 k1.2
   |_=>rw[a]at h1;exact h1.elim
def Goes.meet(b:∀w,R w w)(i:∀g w,Stop g w->∃g' e,aH P ae g w=.go g' w #[e])(d:∀n g w,A g w->Goes P ae R D Stop n g w->∀w1,R w w1->Stop g w1):
  ∀(m n:Nat) (g:aq) (w:aA),Goes P ae R DC0 A m g w->Goes P ae R D Stop n g w->Goes P ae R DC0 Stop m g w
 |0,n,g,w,h,k=>d n g w (h w (b w)) k
 |m+1,n,g,w,h,k=>by
  rcases h with h|⟨f,h⟩
  .exact .inl (d n g w (h w (b w)) k)
  .refine .inr ⟨f,λw1 hr=>?_⟩;have h1:=h w1 hr;cases a:aH P ae g w1 with
   |go g' w' es =>
    rw[a,goes_go]at h1;rw[goes_go];obtain⟨⟨rfl,rfl⟩,h2⟩:=h1;have no:¬Stop g w':=λf=>by grind
    refine⟨⟨rfl,rfl⟩,?_⟩;cases n with
    |zero=>exact absurd (k w' hr) no
    |succ n =>
     rcases k with k|⟨_,k⟩
     .grind
     .have k1:=k w' hr;rw[a,goes_go]at k1;exact Goes.meet b i d m n g' w' h2 k1.2
   |_=>rw[a]at h1;exact h1.elim
end
variable [Payload]{L:WgLink}{Wg C Low x:Nat}{val:aj}{c:aV}
def StK(P:aO)(g:aq)(_:aA):Prop:=∃a,∀w,aH P ae g w=.go a w #[mk .disable]
def StR(P:aO)(L:WgLink)(Wg C n Low x:Nat)(val:aj)(g:aq)(w:aA):Prop :=
 (WgLive L.tWg Wg w/\Has C (x-1) val w)/\∃g2,(∀w,aH P ae g w=.go g2 w #[mk (.releaseMerge (stA Wg))])/\∀w,WgLive L.tWg Wg w/\Has C (x-1) val w->∃m,Goes P ae (RW L.tWg Wg C n Low (x-1)) DC0 (StK P) m g2 w
set_option maxRecDepth 100000 in
def Me(H:WgLib P L)(w:aA)(a:WgLive L.tWg Wg w/\Has C (x-1) val w):
  Goes P ae (RW L.tWg Wg C n Low (x-1)) DC0 (StR P L Wg C n Low x val) 23 (G ((baseD L.done).at ⟨#[.pointer (aa ⟨Wg,0,af⟩),ah,ah,ah],[]⟩ [.code (body_done L)]) (c::cs)) w:=by
 lib_facts
 simp only[body_done,body_add,doneFn,addFn,ga]
 u_reg kn_rely a
 u_op kn_rely a
 u_in kn_rely a
 refine goes_call rfl rfl (by k_ne) rfl H.f_add (nm_add L) rfl ⟨by u_nil,?_⟩
 walk_nrmf addFn
 repeat (u_c az kn_rely a)
 u_cond ab kn_rely a
 repeat (u_c az kn_rely a)
 u_reg kn_rely a
 u_op kn_rely a
 u_op kn_rely a
 u_c ay kn_rely a
 repeat (u_c az kn_rely a)
 u_cond ab kn_rely a
 u_reg kn_rely a
 u_op kn_rely a
 u_conv H.underlying_tWgP H.room_tWg (Go.ConcN.Gen.WgLive.cell0 a.1).choose_spec kn_rely a
 refine Goes.stop (λd b=>?_);replace a:=kn_rely a b;clear b;refine⟨a,_,λw=>stepG_markAt .releaseMerge (by simp) rfl rfl (by k_ne) rfl H.f_relMerge (x_relMerge_n L) (x_relMerge_b L) (x_relMerge_x L) (x_relMerge_f L) (by simp[Act.eval,stA]),λw a=>⟨10,?_⟩⟩
 walk_nrm
 u_c ay kn_rely a
 repeat (u_c az kn_rely a)
 u_reg kn_rely a
 exact Goes.stop λd b=>⟨_,λw=>stepG_mark0 .disable (by simp) rfl rfl (by k_ne) rfl H.f_disable (x_disable_n L) (x_disable_b L) (x_disable_x L) (x_disable_f L)⟩
def Us(H:WgLib P L){B:Nat}(f:c.mode=.returning)(p:QuitsD P B 0 (G c cs))(w:aA)(d:WgLive L.tWg Wg w/\Has C (x-1) val w):
  Goes P ae (RW L.tWg Wg C n Low (x-1)) DC0 (AtR0 P L.tWg Wg C n Low x val) 23 (G ((baseD L.done).at ⟨#[.pointer (aa ⟨Wg,0,af⟩),ah,ah,ah],[]⟩ [.code (body_done L)]) (c::cs)) w:=by
 have v:=doneN (Own:=λ_ _=>False) (Rd:=λ_ _=>False) (Low:=Low) (n:=n) H f p w d;have j:∀g w,AtR0 P L.tWg Wg C n Low x val g w->∃g' e,aH P ae g w=.go g' w #[e]:=λg w h=>by obtain⟨_,_,g',s,_⟩:=h;grind
 have t:(mk (.releaseMerge (stA Wg)):Event)≠mk .disable:=by simp[mk]
 refine Goes.meet (λw=>.refl w) j ?_ _ _ _ _ (Me H w d) v;intro o g w h k w1 hr;obtain⟨d,g2,s,y⟩:=h;have a:AtR0 P L.tWg Wg C n Low x val g w1∨∃l,Goes P ae (RW L.tWg Wg C n Low (x-1)) (DWs Wg (λ_ _=>False) (λ_ _=>False) C n x) (AtR0 P L.tWg Wg C n Low x val) l g2 w1:=by
  cases o with
  |zero=>exact .inl (k w1 hr)
  |succ o =>
   rcases k with k|⟨_,k⟩
   .grind
   grind[goes_go]
 rcases a with h|⟨l,h⟩
 .exact h
 .exfalso;obtain⟨m,u⟩:=y w1 (kn_rely d hr);refine Goes.never (λw=>.refl w) j ?_ _ _ _ _ u h;rintro i z w4 ⟨I,q⟩ k;have b:∀w,¬AtR0 P L.tWg Wg C n Low x val z w:=λw r=>by obtain⟨_,_,F,E,_⟩:=r;grind
  cases i with
  |zero=>exact b w4 (k w4 (.refl w4))
  |succ i =>
   rcases k with k|⟨_,k⟩
   .exact b w4 (k w4 (.refl w4))
   .have k1:=k w4 (.refl w4);rw[q w4,goes_go]at k1;have:=(k1.1.2 _ (Array.mem_singleton.2 rfl)).2.1;exact this rfl
end
section
open Go.Conc (G crowd rcase scase ph partners_nil offersAt crowd_send_room crowd_recv_buf crowd_recv_closed runT_crowd_go EvL listed)
def gY(z:aj)(cap:Nat)(q:List Int)(cl:Bool):aj->(Nat->Option Obj)->Prop:=λv a=>v=z/\∃r s t,z=.chan (aa r)/\(∀n∈q,bx .i64 n)/\∀b,a b=if b=r then aa (.chan cap (q.map (Value.int .i64)).toArray cl s t ae)else af
structure yq(s:St)(l:Nat)(z:aj)(cap:Nat)(q:List Int)(cl:Bool)(L:Loc)(r sn rc:Nat):Prop where
 at':s.β[l]?=aa L
 v:L.v=z
 m:z=.chan (aa r)
 inr:∀n∈q,bx .i64 n
 heap:s.w.heap[r]?=aa (.chan cap (q.map (Value.int .i64)).toArray cl sn rc ae)
 bs:∀b,b∈L.bs↔b=r
section
variable {z:aj}{cap:Nat}{q:List Int}{cl:Bool}
def gY.open(hh:aD σ s)(hl:σ[l]?=aa (.cq (gY z cap q cl))):∃L r sn rc,yq s l z cap q cl L r sn rc:=by
 have hb:l<s.β.length:=by rw[hh.len];grind
 obtain⟨ch,⟨h1,r,sn,rc,h2,c,e⟩,a,d,_⟩:=hh.box l _ _ hl (bg hb);exact⟨_,r,sn,rc,bg hb,h1,h2,c,a r _ (by grind),λb=>by grind⟩
def yq.iJ{L:Loc}{r sn rc:Nat}(g:yq s l z cap q cl L r sn rc)(hh:aD σ s)(hl:σ[l]?=aa (.cq (gY z cap q cl))){q':List Int}(a:Bool)(c d:Nat)(j:∀n∈q',bx .i64 n):
  aD (σ.set l (.cq (gY z cap q' a))) {s with w:=s.w.setChan r cap (q'.map (Value.int .i64)).toArray a c d ae}/\Step σ s (σ.set l (.cq (gY z cap q' a))) {s with w:=s.w.setChan r cap (q'.map (Value.int .i64)).toArray a c d ae}:=by
 have f:r<s.w.heap.size:=(fb.1 g.heap).1;have h:=hh.iJ (H':=gY z cap q' a) (L':=L) (w':=s.w.setChan r cap (q'.map (Value.int .i64)).toArray a c d ae) hl g.at' rfl (by simp[World.setChan]) (λb _ hb=>by show(s.w.heap.setIfInBounds r _)[b]?=_;rw[nE (by rintro rfl;exact hb ((g.bs r).2 rfl))]) (λb hb=>.inl hb)
  ⟨λb=>if b=r then aa (.chan cap (q'.map (Value.int .i64)).toArray a c d ae)else af,⟨g.v,r,c,d,g.m,j,λ_=>rfl⟩,λb k hb=>by
   simp only[World.setChan]
   grind,λb=>by rw[g.bs];by_cases e:b=r<;>simp[e]⟩ rfl rfl rfl
 have e1:s.β.set l L=s.β:=by
  apply gQ;intro i;by_cases e:l=i
  .subst e;rw[fO (b8.1 g.at').1,g.at']
  grind
 rwa [e1]at h
end
def me(c:Nat):MemAct->Prop
 |.send k _|.sendDone k _|.recv k _ _|.recvDone k _|.recvClosed k=>k=c
 |_=>False
def me.Qs{Sh:Go.Loc->Prop}{B c:Nat}{t u:Trace}(h:Go.Conc.Past Sh B t)(e:∀op∈u,op.g=0/\me c op.act)(j:c<B):Go.Conc.Past Sh B (t++u):=by
 refine h.app0 (λop iz=>(e op iz).1) (λop iz b hb=>?_) ?_ λop iz=>?_
 .have:=(e op iz).2;cases a:op.act<;>simp[a,me,bl]at this hb
 .obtain⟨u⟩:=u;rw[Go.Conc.Deaf_append];have:∀(l:List MemOp) (d:Nat),(∀op∈l,me c op.act)->l.foldl (Go.Conc.deafStep 0) d=d:=λl=>by
   induction l with
   |nil=>exactλd _=>rfl
   |cons x l i =>
    intro d hl;have f:=hl x iG;rw[iH,i _ λop iz=>hl op (kI _ iz)];cases a:x.act<;>simp[a,me,Go.Conc.deafStep]at f⊢
  exact this u _ λop iz=>(e op (by simpa using iz)).2
 .have:=(e op iz).2;cases a:op.act<;>simp[a,me,MemAct.low]at this⊢<;>omega
def me.norel{c:Nat}{t u:Trace}(h:mU t)(b:∀op∈u,op.g=0/\me c op.act):mU (t++u) :=
 λa=>(h a).app λop iz hx=>by have:=(b op iz).2;rw[hx]at this;exact this
section
def mX(P:aO)(N:Nat)(o:aB)(φ:Fr)(σ:List bm)(x:D)(σ':List bm):Prop :=
 ∀s a,cr N σ s φ a->aD σ s->∀(b:aV) (k:List Item) (cs:List aV) (ops:Array aB) (i:Nat) (rest:List Nat),b.kind≠.early->ops[i]?=aa o->aZ o (yielded ops a.tmps)=ab ->
  Be P (G (b.aT a (.inRegion ops (i::rest)::k)) cs) s λg' s'=>∃v,g'=G (b.aT (a.put o.dst v) (.inRegion ops rest::k)) cs/\aD σ' s'/\cR σ s σ' s'/\dm σ' s' v x
def AK.zU{x:D}(h:mX P N o φ σ x σ')(p:o.guard=af)(g:fE N o.dst=ab)(k:AK (Cx.beside P) N Qf (.ops all rest::K) .normal (kp o.dst x φ) σ'):AK (Cx.beside P) N Qf (.ops all (o::rest)::K) .normal φ σ:=by
 intro s a f hh b kk cs S idx hb iI hQ;cases idx with
 |nil=>exact iI.elim
 |cons j idx =>
 refine .vo (h s a f hh b kk cs _ j idx hb iI.1 (dx p)) ?_;rintro g' s' ⟨v,rfl,d,e,l⟩;refine k s' _ ?_ d b kk cs S idx hb iI.2 λc σ2 s2 a2 q i h2 st=>hQ c σ2 s2 a2 q i h2 (e.trans st);cases m:o.dst with
 |none=>exact f.mono e hh.len
 |some t=>exact(f.mono e hh.len).put (gE g t m) l
def Qt{t:Trace}{q:Nat->Nat}(b:Go.Conc.Leavers P t gs q)(r:Nat)(send:Bool):partners (gs.setIfInBounds 0 ph) r send=[]:=by
 refine partners_nil λj g a=>?_;rcases nG j with rfl|c
 .rw[Array.getElem?_setIfInBounds]at a;split at a
  .split at a
   .cases a;rfl
   .cases a
  .simp at *
 .rw[nE (by omega)]at a;have:=(b.old j g c a).status;unfold offersAt;rcases this with h|h<;>rw[h]
def zV{g2:aq}{c:Nat}{T:aq->St->Prop}(C:g.status=.running)(F:aD σ s)(one:∀(d:Nat) (gs:Array aq) (sl:Option (Nat×Nat)),gs[0]?=aa g->(∀r send,partners (gs.setIfInBounds 0 ph) r send=[]) ->
   ∃a ops,runT P (crowd gs (s.w.at d) sl) 0=(.next (crowd (gs.setIfInBounds 0 g2) a.w sl),ops)/\(∀op∈ops,op.g=0/\me c op.act)/\aD σ' a/\Step σ {s with w:=s.w.at d} σ' a/\T g2 a)(u:c<s.w.heap.size):Be P g s T:=by
 refine Be.slip C λD gs d sl t q E m i B f l=>?_;obtain⟨a,ops,x,e,p,h,v⟩:=one d gs sl m λr send=>Qt i r send;have k:0<gs.size:=(fb.1 m).1;refine⟨_,g2,a,ops,x,p.mem,by simp[k],⟨λj y b o=>?_,λj b=>?_⟩,me.Qs (B.mono h.size) e (cB u h.size),(f.at d).step h,me.norel l e,v⟩
 .rw[nE (by omega)]at o;rw[Go.Conc.Deaf_other t (g':=0) (by omega) _ λop iz=>(e op iz).1];exact i.old j y b o
 .rw[Go.Conc.Deaf_other t (g':=0) (by simp at b;omega) _ λop iz=>(e op iz).1];exact i.above j (by simpa using b)
def Qu{b:aV}{a:Act}{k:List Item}{rest:List Nat}(hi:ops[i]?=aa o){cc:Array CommCase}{d:CommShape}{j:Int}{ok:Bool}:
  (G (b.aT a (.inRegion ops (i::rest)::k)) cs).finishComm P cc d j v ok=G (b.aT (a.put o.dst (commResult cc d j v ok)) (.inRegion ops rest::k)) cs:=by have c:=jg (b:=b) (a:=a) (k:=k) ops i rest (commResult cc d j v ok);rw[hi]at c;simp only[mH]at c;simp only[Goroutine.finishComm,G,c]
def FD{fn:aK}{pos:String}{c:Nat}{a b:MemAct}{f g:aK}{p q:String}(e:me c a:=by rfl)(d:me c b:=by rfl):∀op∈MemOp.ofEvents 0 fn pos #[]++#[{g:=0,fn:=f,pos:=p,act:=a},{g:=0,fn:=g,pos:=q,act:=b}],op.g=0/\me c op.act:=by
 intro op iz;simp[MemOp.ofEvents]at iz;rcases iz with rfl|rfl
 .exact⟨rfl,e⟩
 .exact⟨rfl,d⟩
section
variable {z:aj}{cap:Nat}{q:List Int}{n:Int}
def mX.send(ho:o.op=.send x y)(hl:σ[l]?=aa (.cq (gY z cap q ae)))(K:bO φ x=.e (.one (.v z)))(I:bO φ y=.e (.one (.c (.int .i64 n))))(O:q.length<cap):
  mX P N o φ σ .any (σ.set l (.cq (gY z cap (q++[n]) ae))):=by
 intro s a f hh b k cs ops i rest hb hi hw;obtain⟨L,r,sn,C,g⟩:=gY.open hh hl;have ex:a.eval x=.chan (aa r):=(SI (c8 f x) K).trans g.m;obtain⟨J,H⟩:=Vy (c8 f y) I;have u:r<s.w.heap.size:=(fb.1 g.heap).1;refine zV (c:=r) (σ':=σ.set l (.cq (gY z cap (q++[n]) ae))) (g2:=G (b.aT (a.put o.dst ah) (.inRegion ops rest::k)) cs) rfl hh (λd gs sl h0 hp=>?_) u;have t:b6 s {s with w:=s.w.at d}:=b6.at hh.mem d;have p:=hh.rely t;have M:yq {s with w:=s.w.at d} l z cap q ae L r sn C:=⟨g.at',g.v,g.m,g.inr,g.heap,g.bs⟩;obtain⟨E,F⟩:=M.iJ p hl (q':=q++[n]) ae (sn+1) C (λm hm=>(eJ.1 hm).elim (g.inr m) λh=>by rw[gN.1 h];exact H)
 have B:aH P (0==0) (G (b.aT a (.inRegion ops (i::rest)::k)) cs) (s.w.at d)=.comm (G (b.aT a (.inRegion ops (i::rest)::k)) cs) #[scase r (.int .i64 n) (.tuple #[])] ab .send (s.w.at d) #[]:=by
  have D:(b.kind==CallKind.early)=ae:=by grind
  rw[qb hi hw (by simp[ho])];simp[stepG.apply,ak,ho,ex,J,G,Frame.aT,D,GStep.after,scase,seen]
 have j:=crowd_send_room (P:=P) (sl:=sl) h0 B g.heap (by simpa using O) (hp r ae);rw[Qu hi,show(q.map (Value.int .i64)).toArray.push (.int .i64 n)=((q++[n]).map (Value.int .i64)).toArray by simp]at j;refine⟨{s with w:=(s.w.at d).setChan r cap ((q++[n]).map (Value.int .i64)).toArray ae (sn+1) C ae},_,j,FD,E,F,ah,rfl,E,t.stepW.trans (F.ow p),ar⟩
variable {T:aw}{A:ChanDir}
def Pg(ho:o.op=.recv T x ab){b:aV}{a:Act}{k:List Item}{rest:List Nat}{r:Nat}(m:b.kind≠.early)(hi:ops[i]?=aa o)(h:aZ o (yielded ops a.tmps)=ab)(g:P.underlying T=aa (.chan A E))(d:∀w,(zeroValue E).run P w=.ok (.int .i64 0) w)(f:a.eval x=.chan (aa r)):
  aH P (0==0) (G (b.aT a (.inRegion ops (i::rest)::k)) cs) w=.comm (G (b.aT a (.inRegion ops (i::rest)::k)) cs) #[rcase r (.int .i64 0)] ab (.recv ab) w #[]:=by
 have c:(b.kind==CallKind.early)=ae:=by grind
 have e:(underlying T).run P w=.ok (.chan A E) w:=by simp[underlying,g]
 have j:(ak a.eval o).run P w=.ok (.comm #[rcase r (.int .i64 0)] ab (.recv ab)) w:=by simp[ak,ho,f,e,d,rcase]
 have l:(ak a.eval o).events P w #[]=#[]:=by simp[ak,ho,f,e,d,rcase]
 rw[qb hi h (by simp[ho])];simp[stepG.apply,j,l,G,Frame.aT,c,GStep.after,seen]
def mX.recv(ho:o.op=.recv T x ab)(D:P.underlying T=aa (.chan A E))(C:∀w,(zeroValue E).run P w=.ok (.int .i64 0) w){cl:Bool}(hl:σ[l]?=aa (.cq (gY z cap (n::q) cl)))(F:bO φ x=.e (.one (.v z))):
  mX P N o φ σ (.fz [.one (.c (.int .i64 n)),.one (.c (.bool ab))]) (σ.set l (.cq (gY z cap q cl))):=by
 intro s a f hh b k cs ops i rest hb hi hw;obtain⟨L,r,sn,u,g⟩:=gY.open hh hl;have ex:a.eval x=.chan (aa r):=(SI (c8 f x) F).trans g.m;have t:r<s.w.heap.size:=(fb.1 g.heap).1;refine zV (c:=r) (σ':=σ.set l (.cq (gY z cap q cl))) (g2:=G (b.aT (a.put o.dst (.tuple #[.int .i64 n,.bool ab])) (.inRegion ops rest::k)) cs) rfl hh (λd gs sl h0 hp=>?_) t;have p:b6 s {s with w:=s.w.at d}:=b6.at hh.mem d;have j:=hh.rely p;have H:yq {s with w:=s.w.at d} l z cap (n::q) cl L r sn u:=⟨g.at',g.v,g.m,g.inr,g.heap,g.bs⟩;obtain⟨y,B⟩:=H.iJ j hl (q':=q) cl sn (u+1) λm hm=>g.inr m (kI _ hm)
 have h:=crowd_recv_buf (P:=P) (w:=s.w.at d) (sl:=sl) h0 (Pg ho hb hi hw D C ex) g.heap (by simp) (hp r ab);have e1:((n::q).map (Value.int .i64)).toArray.extract 1 ((n::q).map (Value.int .i64)).toArray.size=(q.map (Value.int .i64)).toArray:=by simp[zq]
 have e2:((n::q).map (Value.int .i64)).toArray.getD 0 ah=.int .i64 n:=by simp
 rw[Qu hi,e1,e2]at h;exact⟨{s with w:=(s.w.at d).setChan r cap (q.map (Value.int .i64)).toArray cl sn (u+1) ae},_,h,FD,y,B,_,rfl,y,p.stepW.trans (B.ow j),⟨_,rfl,Rd.int (g.inr n iG),Rd.bool,ar⟩⟩
def mX.IM(ho:o.op=.recv T x ab)(y:P.underlying T=aa (.chan A E))(u:∀w,(zeroValue E).run P w=.ok (.int .i64 0) w)(hl:σ[l]?=aa (.cq (gY z cap [] ab)))(B:bO φ x=.e (.one (.v z))):
  mX P N o φ σ (.fz [.one (.c (.int .i64 0)),.one (.c (.bool ae))]) σ:=by intro s a f hh b k cs ops i rest hb hi hw;obtain⟨L,r,sn,C,g⟩:=gY.open hh hl;have ex:a.eval x=.chan (aa r):=(SI (c8 f x) B).trans g.m;have t:r<s.w.heap.size:=(fb.1 g.heap).1;refine zV (c:=r) (σ':=σ) (g2:=G (b.aT (a.put o.dst (.tuple #[.int .i64 0,.bool ae])) (.inRegion ops rest::k)) cs) rfl hh (λd gs sl h0 hp=>?_) t;have p:b6 s {s with w:=s.w.at d}:=b6.at hh.mem d;have j:=hh.rely p;have h:=crowd_recv_closed (P:=P) (w:=s.w.at d) (sl:=sl) h0 (Pg ho hb hi hw y u ex) g.heap (hp r ab);rw[Qu hi]at h;refine⟨{s with w:=s.w.at d},_,h,λop iz=>?_,j,.refl _ _,_,rfl,j,p.stepW,⟨_,rfl,Rd.int (by simp[bx]),Rd.bool,ar⟩⟩;simp[MemOp.ofEvents]at iz;rw[iz];exact⟨rfl,rfl⟩
def mX.close(ho:o.op=.call {callee:=.builtin .close,args:=#[x],argTypes:=jP})(hl:σ[l]?=aa (.cq (gY z cap q ae)))(h:bO φ x=.e (.one (.v z))):
  mX P N o φ σ .any (σ.set l (.cq (gY z cap q ab))):=by
 intro s a f hh b k cs ops i rest hb hi hw;obtain⟨L,r,sn,B,g⟩:=gY.open hh hl;have ex:a.eval x=.chan (aa r):=(SI (c8 f x) h).trans g.m;have I:r<s.w.heap.size:=(fb.1 g.heap).1;refine Be.slip rfl λSh gs d sl t q' hm h0 hL hP hc Fs=>?_;have C:b6 s {s with w:=s.w.at d}:=b6.at hh.mem d;have D:=hh.rely C;have S:yq {s with w:=s.w.at d} l z cap q ae L r sn B:=⟨g.at',g.v,g.m,g.inr,g.heap,g.bs⟩;obtain⟨M,F⟩:=S.iJ D hl (q':=q) ab sn B g.inr;have y:ak a.eval o=(do pure (.value (<-Builtin.close_ jP o.type #[a.eval x]))):=by simp[ak,ho,resolve,invoke,builtin]
 have p:(s.w.at d).heap[r]?=aa (.chan cap (q.map (Value.int .i64)).toArray ae sn B ae):=g.heap;have u:(ak a.eval o).run P (s.w.at d)=.ok (.value (.tuple #[])) ((s.w.at d).setChan r cap (q.map (Value.int .i64)).toArray ab sn B ae):=by rw[y,ex];simp[run_close_open _ _ p,World.setChan]
 have K:(ak a.eval o).events P (s.w.at d) #[]=#[⟨.obj r,ae,ab⟩,⟨.obj r,ab,ab⟩]:=by rw[y,ex];simp[run_close_open _ _ p,events_close_open _ _ p]
 have J:=Bo (rest:=rest) (k:=k) (cs:=cs) (main:=0==0) hi hw hb u;have R:=runT_crowd_go (P:=P) (sl:=sl) (i:=0) h0 J;have c:0<gs.size:=(fb.1 h0).1;have H:¬Sh r:=λx=>hc.β _ x L (bL g.at') ((g.bs r).2 rfl);have j:∀e∈listed P b.fn a o (s.w.at d),e=⟨.obj r,ae,ab⟩∨e=⟨.obj r,ab,ab⟩:=λe E=>by have:=Go.Conc.mem_seen E;rw[K]at this;simpa using this
 refine⟨_,G (b.aT (a.put o.dst (.tuple #[])) (.inRegion ops rest::k)) cs,{s with w:=(s.w.at d).setChan r cap (q.map (Value.int .i64)).toArray ab sn B ae},_,R,M.mem,by simp[c],hL.own (λop iz=>by grind[Go.Conc.mem_ofEvents]) c,?_,(hc.at d).step F,Fs.app λe E a h=>?_,.tuple #[],rfl,M,C.stepW.trans (F.ow D),ar⟩
 .refine(hP.mono F.size).own λe E=>?_;have Q:=cB I F.size;rcases j e E with rfl|rfl
  .exact⟨λx h O=>by simp[aG,bl]at h;subst h;exact absurd O H,by simp,by simp,by simp[aG,MemAct.low,Loc.low];exact Q⟩
  .exact⟨λx h O=>by simp[aG,bl]at h,by simp,by simp,by simp[aG,MemAct.low];exact Q⟩
 .rcases j e E with rfl|rfl<;>cases h
end
section
variable {X:Cx P}{T:aw}{A:ChanDir}
def AK.MZ(h:o.op=.makeChan T x)(f:P.underlying T=aa (.chan A E)){i:TypeInfo}(d:P.info? E=aa i){n:Nat}(r:bO φ x=.e (.one (.c (.int .i64 n))))(hb:i.bytes=8)(C:n<=4000000)(y:o.guard=af)(j:fE N o.dst=ab)(k:∀z,AK X N Qf (.ops all rest::K) .normal (kp o.dst (.e (.one (.v z))) φ) (σ++[.cq (gY z n [] ae)])):AK X N Qf (.ops all (o::rest)::K) .normal φ σ:=by
 refine AK.hand (ι:=aj) (λz=>.e (.one (.v z))) (λz=>σ++[.cq (gY z n [] ae)]) y j (λs a m hh=>?_) k;obtain⟨ex,_⟩:=Vy (c8 m x) r;let w':aA:={s.w with heap:=s.w.heap.push (.chan n #[] ae 0 0 ae)}
 have g:w'.heap[s.w.heap.size]?=aa (.chan n #[] ae 0 0 ae):=by grind
 have p:w'.heap.size=s.w.heap.size+1:=by grind
 obtain⟨t,g2⟩:=hh.grow (M':=s.M) (w':=w') (by grind) (λb hb=>by grind) (λ_ _ _=>rfl) (λb hb o v hm=>by have:=hh.block hm;omega) rfl rfl rfl;obtain⟨l,u⟩:=t.gz g2 rfl hh (B:=.cq (gY (.chan (aa s.w.heap.size)) n [] ae)) (L:=⟨.chan (aa s.w.heap.size),[s.w.heap.size]⟩)
  ⟨λb=>if b=s.w.heap.size then aa (.chan n #[] ae 0 0 ae)else af,⟨rfl,_,0,0,rfl,by simp,λ_=>rfl⟩,λb o hb=>by
   grind,λb=>by by_cases e:b=s.w.heap.size<;>simp[e],λb hb o=>by
   simp at hb;subst hb;show s.M _ _=af;cases hm:s.M s.w.heap.size o with
   |none=>rfl
   |some v=>have:=hh.block hm;omega⟩ (λb hb=>by grind)
 refine⟨.chan (aa s.w.heap.size),.value (.chan (aa s.w.heap.size)),_,.chan (aa s.w.heap.size),?_,.inl rfl,Rd.val rfl,l,u,?_⟩
 .simp[ak,h,ex,Go.Conc.run_makeChan f d .i64 n (by omega) (by rw[hb];omega),w']
 .simp[ak,h,ex,Go.Conc.run_makeChan f d .i64 n (by omega) (by rw[hb];omega),Go.Conc.events_makeChan f d .i64 n (by omega) (by rw[hb];omega)];exact .nil
end
end
end
section
open Go.RowKit
open Go.Conc (G solo crowd AtRel Past EvL Leavers)
def St.top(w:aA):St:={β:=[],M:=λb o=>w.cell? ⟨b,o,af⟩,w:=w,own:=λb=>b<w.heap.size}
def aD.top(w:aA):aD [] (St.top w):=⟨λ_ _ _ h=>h,rfl,by simp,by simp[St.top],by simp[St.top],λb hb=>⟨hb,by simp[St.top]⟩⟩
def Rh{f:aK}{a:aV}(h:uw P f a v s)(hi:P.inits.idxOf? f=af)(w:aA)(j:∀b o u,s.M b o=aa u->w.cell? ⟨b,o,af⟩=aa u):∃es,aH P ab (G a []) w=.ended (.done v) w es/\∀e∈es,∃b o u,e=⟨.cell ⟨b,o,af⟩,ae,ae⟩/\s.M b o=aa u:=by
 obtain⟨fn,i,c⟩:=h.fn;obtain⟨l,g⟩:=c w j;refine⟨seen P a.fn ((results fn a.tmps).events P w #[]),?_,λe k=>g e (Go.Conc.mem_seen k)⟩;have d:P.inits.idxOf? a.fn=af:=by rw[h.ZT];exact hi
 simp[G,aH,unwind,doReturn,h.mode,h.defers,h.kind,i,l,d,GStep.after]
def dO.Ri{f:aK}{args:List D}{σ':ι->List bm}(h:dO (Cx.beside P) f args [] res σ')(hi:P.inits.idxOf? f=af)(t:cn [] (St.top w) vs args){Post:aj->aA->Prop}(z:∀i v s',dm (σ' i) s' v (res i)->aD (σ' i) s'->Below w.heap.size w s'.w->∀d,Post v (s'.w.at d)):
  ∃M last o w' t',runNT P (M+1) (solo (G (Frame.enter P f vs.toArray .normal) []) w) #[]=(.ended o w',t')/\runN P M (solo (G (Frame.enter P f vs.toArray .normal) []) w)=.next last /\
   step P last=.ended o w'/\Go.Conc.Good P Post last o w' t':=by
 have key:=h.2 (St.top w) vs t (aD.top w) (λg s'=>∃i v fr,g=G fr []/\uw P f fr v s'/\dm (σ' i) s' v (res i)/\aD (σ' i) s'/\Below w.heap.size w s'.w) []
  (λi fr v s' h1 h2 h3 h4=>.stop ⟨i,v,fr,rfl,h1,h2,h3,⟨h4.os,h4.tape,h4.output,h4.size,λk x=>h4.keep k x⟩⟩)
 have K:AM.kq (λ_=>False)=λ_=>False:=by funext l;cases l<;>rfl
 obtain⟨N,p,q,g',s',c,t',q',h1,h2,h3,h4,A,s,S,⟨i,v,fr,rfl,k1,y,Q,O⟩⟩:=key.beside (λ_=>False) #[G (Frame.enter P f vs.toArray .normal) []] af #[] (λ_=>0) (aD.top w).mem rfl (Go.Conc.leavers_one P _)
  (by rw[K];exact Go.Conc.past_nil.mono (iT _)) ⟨λ_ h=>h.elim,λ_ h=>h.elim,λ_ h=>h.elim,λ_ h=>h.elim⟩ (λa=>by intro i hi;simp[Trace.act?]at hi)
 have j:=Go.Conc.beside_ends (P:=P) (Shun:=AM.kq p) (B:=s'.w.heap.size) (D:=λ_ _ _=>False) (Post:=Post) (λ_ _ _ h=>h.elim) (sl:=c) (n:=0) h3 h4 A (Go.Conc.Goes.stop λw1 Qm=>by
  obtain⟨d,rfl⟩:=Qm;obtain⟨es,e1,e2⟩:=Rh k1 hi (s'.w.at d) (λb o u r=>h2 b o u r);refine⟨rfl,v,es,e1,λe L=>?_,z i v s' y Q O d⟩;obtain⟨b,o,u,rfl,r⟩:=e2 e L;refine Go.Conc.evL_cell _ _ (λE=>?_) (fW.lt h2 r);have:=s.M b E o
  grind)
 obtain⟨m,last,o,w',F,I,R,J,C⟩:=j;refine⟨N+m,last,o,w',F,?_,?_,J,C⟩
 .rw[show N+m+1=N+(m+1) by omega];exact(runNT_add N (m+1) h1).trans I
 .have e:=runNT_fst P N (crowd #[G (Frame.enter P f vs.toArray .normal) []] w af) #[];have H:(runNT P N (crowd #[G (Frame.enter P f vs.toArray .normal) []] w af) #[]).1=.next (crowd q s'.w c):=by have:runNT P N (crowd #[G (Frame.enter P f vs.toArray .normal) []] w af) #[]=_:=h1;grind
  grind[Go.Conc.solo_eq_crowd,runN_add]
end
end Go.AM
