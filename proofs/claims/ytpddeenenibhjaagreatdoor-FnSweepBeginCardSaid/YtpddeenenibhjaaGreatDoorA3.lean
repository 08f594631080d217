/- Part 3. No condition. -/
import Derived.Test.YtpddeenenibhjaaGreatDoorA2
import Derived.Lib.SliceRun
import Derived.Lib.FrozenHead
import Derived.Lib.UnsafeStr
import Derived.Lib.MakeNoZero
import Derived.Laws.Externs
import Derived.Lib.Builder
import Derived.Conc.Beside
import Derived.Conc.CrowdRun
import Derived.Conc.WgGenN2
import Derived.Conc.WgGenN3
import Derived.Conc.LeavingOf
import Derived.Below
import Derived.ProofKit
import Derived.OpenShut
import Derived.OpenVars
import Derived.LaidMore
import Derived.Lay
import Derived.SevenTiedAt
set_option linter.all false
set_option maxHeartbeats 8000000
open Go.Proofs
open Go.Conc (G)
open Go renaming Value → aj, TypeId → ay, undef → ah, Operand → aC, execOp → aq, World → aA, Program → aK, Oper → aB, Goroutine → ak, stepG → aG, FuncId → aP
open Option renaming some → aa, none → af
open Bool renaming true → ab, false → ae
open Go.World renaming cell? → aU
open List renaming getD_eq_getElem?_getD → ai, range → a9
open Go.Sem renaming events_bind → aJ
open Go.Result renaming evThen_ok → aO
open Go.MemAct renaming ofEvent → aH
open Nat renaming beq → av, ble → bn
open Go.Op renaming bytesLess → aY
open Go.Proofs.Tryz renaming prog → ag
open Go.Conc renaming stepG_seq → az, stepG_region_end → aw
namespace Go.AM
variable {n k l b i j:Nat}{E:ay}{H:aj->(Nat->Option Obj)->Prop}{L:Array Bool}{M:Mem}{N:Nat}{P:aK}{S:ak->St->Prop}{c:Code}{g:ak}{o:aB}{s:St}{t:ay}{v:aj}{w:aA}{x y:aC}{α:Type}{η:aC->D}{ι:Type}{σ:List ba}{φ:Fr}{all:List aB}{jK:Array ay}{cap:List C}{cu:List D}{cs:List Frame}{ds:List (Nat×Bool)}{es:Nat->List C}{fo:aC}{obs:List Prop}{off:Nat}{op:BinOp}{ops:Array aB}{ps:List Prop}{rest:List aB}{s':St}{ty:ay}{val:Nat->Nat->aj}{vs:List aj}{w':aA}{xs:Array aC}{σ' σs:List ba}{res:ι->D}{σ1:ι->List ba}
variable {CT:List (Nat×di)}{K:List It}{Qf:Post}{T:List (Nat×TI)}{ie:TI}
section
variable {X:Cx P}
def AK.OQ{φ':Fr}(h:∀s a,cf N σ s φ a->aD σ s->∃s':St,s'.w=s.w/\cf N σ' s' φ' a/\aD σ' s'/\Step σ s σ' s')(k:AK X N Qf (.ops all rest::K) .normal φ' σ'):AK X N Qf (.ops all rest::K) .normal φ σ:=by intro s a i hh b kk cs S idx hb kX hQ;obtain⟨s',j,e,c,st⟩:=h s a i hh;have d:=st.nT hh;refine .ghost (.of hh c j d) ?_;exact k s' a e c b kk cs S idx hb kX λf σ2 s2 a2 q g h2 nU=>hQ f σ2 s2 a2 q g h2 (d.trans nU)
def AK.HG(t:Nat)(E k:Nat)(es':Nat->List C){k':Nat}{d:Nat->List C}(h:look φ t=.e (.one (.c (.sl ab k' 0 d))))(kk:AK X N Qf (.ops all rest::K) .normal ((t,.e (.one (.bp σ.length (.sl 0 k 0 0))))::φ) (σ++[.buf E k 0 es'])):AK X N Qf (.ops all rest::K) .normal φ σ:=by
 refine AK.OQ (λs a b hh=>?_) kk;have g:=b.slot t;rw[h]at g;obtain⟨i,f⟩:=hh.gC (B:=.buf E k 0 es') (L:=⟨.slice af 0 0,[]⟩) (.refl _ _) rfl hh (.inl ⟨rfl,rfl⟩) (by simp);refine⟨{s with β:=s.β++[⟨.slice af 0 0,[]⟩]},rfl,⟨b.size,b.defers.imp λ_ h1=>h1.mono f.ext,λu=>?_⟩,i,f⟩;simp only[look];cases hb:av t u with
 |false=>exact(b.slot u).mono f.ext hh.len
 |true =>
  have e:=bT hb;subst e;exact tA (E:=E) (es:=es') (fp g) (by simp) (by simp[<-hh.len])
def AK.HH(C:c6 P T){j g:Nat}(h:o.op=.binOp .eql t x (.const (.slice af j g)) ty){i:TI}(hi:bz T t=aa i)(H:i.desc=.slice E){tt:Bool}(v:bH φ x=.e (.one (.c (.sl tt k n es))))(F:o.guard=af)(G:fD N o.dst=ab)(kk:∀b:Bool,(b=ab->n=0)->AK X N Qf (.ops all rest::K) .normal (kV o.dst (.e (.one (.c (.bool b)))) φ) σ):AK X N Qf (.ops all (o::rest)::K) .normal φ σ:=by
 refine AK.hand (ι:={b:Bool // b=ab->n=0}) (λb=>.e (.one (.c (.bool b.1)))) (λ_=>σ) F G (λs a A hh=>?_) λb=>kk b.1 b.2;have m:=dJ A x;rw[v]at m;obtain⟨ad,cap,vs,m,_,_,_,_,B⟩:=(fp m).flat;have d:=(C t i hi).QG;rw[H]at d;have p:=fp (by have:=dJ A x;rw[v]at this;exact this);have r:ad.isNone=ab->n=0:=by
  intro I;rw[m]at p;cases p with
  |sl b off f z hb ht hk ha B u =>
   grind
 refine⟨⟨ad.isNone,r⟩,.value (.bool ad.isNone),s,.bool ad.isNone,?_,.inl rfl,Rd.bool,hh,.refl _ _,?_⟩
 .have u:(binOp .eql t (.slice ad n cap) (.slice af j g)).run P s.w=.ok (.bool ad.isNone) s.w:=Go.Lib.run_eql_slice_nil s.w t E ad n cap j g d;have l:∀y,eqGuard .eql t x y (.slice ad n cap) (.slice af j g)=pure ():=λy=>by simp[eqGuard]
  have e1:a.eval (.const (.slice af j g))=.slice af j g:=rfl;simp only[aq,h,m,e1,l];simp[u]
 .have D:∀es,(Op.equal t (.slice ad n cap) (.slice af j g)).events P s.w es=es:=λes=>by show(Op.equalIn (9999+1) t _ _).events P s.w es=es;unfold Op.equalIn;cases ad<;>simp[underlying,d]
  have u:(Op.equal t (.slice ad n cap) (.slice af j g)).run P s.w=.ok ad.isNone s.w:=by show(Op.equalIn (9999+1) t _ _).run P s.w=_;grind[Go.Lib.run_equalIn_slice_nil]
  have l:∀y,eqGuard .eql t x y (.slice ad n cap) (.slice af j g)=pure ():=λy=>by simp[eqGuard]
  have e1:a.eval (.const (.slice af j g))=.slice af j g:=rfl;intro J q;exfalso;simp only[aq,h,m,e1,l,binOp]at q;simp[u,D,aJ]at q
end
def po(xs:List UInt8):List aj:=xs.map λx=>.int .u8 x.toNat
theorem tE{xs:List UInt8}:(po xs).length=xs.length:=by simp[po]
def KC{xs b:List UInt8}:po (xs++b)=po xs++po b:=by simp[po]
def nO(bf:Option (Nat×Nat))(n:Nat):aj:=match bf with|none=>.slice af 0 0|some (g,cap)=>.slice (aa ⟨g,0,af⟩) n cap
def BB(T E:ay)(a:Bool)(v1:aj)(bf:Option (Nat×Nat))(xs:List UInt8)(f:Nat):aj->(Nat->Option Obj)->Prop:=λv d =>
 ∃b,v=.pointer (aa ⟨b,0,af⟩)/\cO v1=ab/\d b=aa (.cells #[if a then v else .pointer af,v1] T (0,0)) /\
 match bf with
 |none=>xs=[]/\∀c,(d c).isSome=ab↔c=b
 |some (g,cap)=>g≠b/\xs.length<=cap/\0<cap/\cap<=9223372036854775807/\f<=xs.length/\(∃e,(po xs++e).length=cap/\d g=aa (.cells (po xs++e).toArray E (0,f)))/\∀c,(d c).isSome=ab↔c=b∨c=g
section
variable {X:Cx P}{k:List (Nat×TI)}{T:ay}{a:Bool}{v1:aj}{bf:Option (Nat×Nat)}{xs:List UInt8}{f:Nat}
structure ub(P:aK)(σ:List ba)(s:St)(l:Nat)(T E:ay)(a:Bool)(v1:aj)(bf:Option (Nat×Nat))(xs:List UInt8)(f:Nat)(L:Loc)(b:Nat)(ch:Nat->Option Obj):Prop where
 β:s.β[l]?=aa L
 v:L.v=.pointer (aa ⟨b,0,af⟩)
 bb:BB T E a v1 bf xs f L.v ch
 heap:∀(b:Nat) (o:Obj),ch b=aa o->s.w.heap[b]?=aa o
 bs:∀b,b∈L.bs↔(ch b).isSome=ab
 M:∀b∈L.bs,∀o,s.M b o=af
 ch:ch b=aa (.cells #[if a then L.v else .pointer af,v1] T (0,0))
 cell:cO v1=ab
def BB.row(hh:aD σ s)(hl:σ[l]?=aa (.cp (BB T E a v1 bf xs f))):∃L b ch,ub P σ s l T E a v1 bf xs f L b ch:=by
 have c:l<s.β.length:=by rw[hh.len];grind
 have d:=bd c;generalize s.β[l]=L at d;obtain⟨ch,g,h1,h2,i⟩:=hh.box l _ L hl d;have e:=g;obtain⟨b,h,j,hb,_⟩:=e;exact⟨L,b,ch,d,h,g,h1,h2,i,hb,j⟩
def ub.mem{L:Loc}{ch:Nat->Option Obj}(r:ub P σ s l T E a v1 bf xs f L b ch):b∈L.bs:=(r.bs b).2 (by rw[r.ch];rfl)
def ub.ptr{L:Loc}{ch:Nat->Option Obj}(r:ub P σ s l T E a v1 bf xs f L b ch)(h:dc σ s v (.e (.one (.ptr l off)))):v=.pointer (aa ⟨b,off,af⟩):=by obtain⟨_,c,d,h1,h2,rfl⟩:=(h:fU σ s v (.ptr l off));rw[r.β]at h1;cases h1;rw[r.v]at h2;grind
def GH(A:c6 P k){i:TI}(h:o.op=.load t x)(hi:bz k t=aa i)(F:i.agg=ae)(J:σ[l]?=aa (.cp (BB T E a v1 bf xs f))){d:D}(I:η x=.e (.one (.ptr l off)))(K:∀s L b ch,aD σ s->ub P σ s l T E a v1 bf xs f L b ch->∃v,(#[if a then L.v else .pointer af,v1]:Array aj)[off]?=aa v/\dc σ s v d):bx P o η σ d σ:=by
 refine .mL λs G z C=>?_;obtain⟨L,b,ch,r⟩:=BB.row (P:=P) z J;have u:=r.ptr (by have:=C x;rwa [I]at this);obtain⟨v,H,q⟩:=K s L b ch z r;have g:s.w.cell? ⟨b,off,af⟩=aa v:=by simp only[aU,r.heap _ _ r.ch];grind
 have c:(loadVar t ⟨b,off,af⟩).run P s.w=.ok v s.w:=by simp[loadVar,(A t i hi).jA,F,run_load,g]
 refine⟨v,by simp[aq,h,u,Instr.loadAt,Instr.sureAddr,c],q,λy m=>?_⟩;have p:y∈(loadVar t ⟨b,off,af⟩).events P s.w #[]:=by
  have e:aq G o=(do pure (.value (<-loadVar t ⟨b,off,af⟩))):=by simp[aq,h,u,Instr.loadAt,Instr.sureAddr]
  rw[e]at m;simpa[c]using m
 obtain⟨j,B,rfl⟩:=iD (A t i hi) (n:=1) (λj B=>by grind) (by grind) y p
 exact nP (bD r.β) r.mem
def bx.eP(d:c6 P k){i:TI}(h:o.op=.load t x)(hi:bz k t=aa i)(g:i.agg=ae)(hl:σ[l]?=aa (.cp (BB T E a v1 bf xs f)))(c:η x=.e (.one (.ptr l 1))):bx P o η σ (.e (.one (.v v1))) σ :=
 GH d h hi g hl c λs L b ch hh r=>⟨v1,by simp,Rd.val r.cell⟩
def KD(b:σ[l]?=aa (.cp H)):∀B,σ[l]?=aa B->B.gr=ae:=by intro B h;rw[b]at h;cases h;rfl
def bx.GI(d:c6 P k){i:TI}(h:o.op=.load t x)(hi:bz k t=aa i)(g:i.agg=ae)(hl:σ[l]?=aa (.cp (BB T E ab v1 bf xs f)))(c:η x=.e (.one (.ptr l 0))):bx P o η σ (.e (.one (.ptr l 0))) σ :=
 GH d h hi g hl c λs L b ch hh r=>⟨L.v,by simp,KD hl,L,b,r.β,r.v,r.v⟩
def bx.N6(g:c6 P k){i:TI}(h:o.op=.load t x)(hi:bz k t=aa i)(j:i.agg=ae)(hl:σ[l]?=aa (.cp (BB T E ae v1 bf xs f)))(d:η x=.e (.one (.ptr l 0))):bx P o η σ (.e (.one (.c .nQ))) σ :=
 GH g h hi j hl d λs L b ch hh r=>⟨.pointer af,by simp,Rd.nQ⟩
def setRow_size(w:aA)(b:Nat)(row:Array aj):(w.setRow b row).heap.size=w.heap.size:=by simp[World.setRow]
def GJ(U:c6 P k){i:TI}(h:o.op=.store t x y)(hi:bz k t=aa i)(C:i.size=1)(Z:σ[l]?=aa (.cp (BB T E a v1 bf xs f))){c:Bool}{d:aj}(hx:η x=.e (.one (.ptr l off)))(ho:off<2)(hc:cO d=ab)(hd:∀s L b ch v,aD σ s->ub P σ s l T E a v1 bf xs f L b ch->dc σ s v (η y)->cO v=ab/\(#[if a then L.v else .pointer af,v1]:Array aj).setIfInBounds off v=#[if c then L.v else .pointer af,d]):bx P o η σ .any (σ.set l (.cp (BB T E c d bf xs f))):=by
 intro s p K hr;obtain⟨L,b,ch,r⟩:=BB.row (P:=P) K Z;have D:=r.ptr (by have:=hr x;rwa [hx]at this);obtain⟨J,H⟩:=hd s L b ch (p y) K r (hr y);have q:(p y).cells=#[p y]:=by cases O:p y<;>simp[O,cO,Value.cells]at J⊢
 have A:∀v∈[p y],v.oneCell'=ab:=by intro v D;simp at D;subst D;cases O:p y<;>simp[O,cO,Value.oneCell']at J⊢
 have n:=r.heap _ _ r.ch;have G:=run_storeCells_at P b off T [p y] 0 _ s.w n (by grind) A;have B:((#[if a then L.v else .pointer af,v1]:Array aj).toList.take (off+0)++[p y]++(#[if a then L.v else .pointer af,v1]:Array aj).toList.drop (off+0+[p y].length)).toArray=#[if c then L.v else .pointer af,d]:=by
  rw[<-H]
  match off,ho with
  |0,_=>grind
  |1,_=>grind
 rw[B]at G;have R:(s.w.setRow b #[if c then L.v else .pointer af,d]).heap[b]?=aa (.cells #[if c then L.v else .pointer af,d] T (0,0)):=setRow_heap s.w b _ _ T _ n;have z:∀g,g≠b->(s.w.setRow b #[if c then L.v else .pointer af,d]).heap[g]?=s.w.heap[g]?:=λg m=>setRow_other s.w b g _ m;obtain⟨S,W⟩:=K.jh (l:=l) (H':=BB T E c d bf xs f) (L':=L) (w':=s.w.setRow b #[if c then L.v else .pointer af,d]) Z r.β rfl (by rw[setRow_size];grind)
  (λg m hn=>z g (by rintro rfl;exact hn r.mem)) (λg m=>.inl m)
  ⟨λg=>if g=b then aa (.cells #[if c then L.v else .pointer af,d] T (0,0))else ch g,by
   obtain⟨Q,Y,q2,q3,q4⟩:=r.bb;have:Q=b:=by rw[r.v]at Y;grind
   subst this;have N:∀g,(if g=Q then aa (Obj.cells #[if c then L.v else .pointer af,d] T (0,0))else ch g).isSome=ab↔(ch g).isSome=ab:=by grind
   refine⟨Q,Y,hc,by simp,?_⟩;grind,λg o' m=>by
   by_cases e:g=b
   .grind
   .simp only[e,bJ]at m;rw[z g e];exact r.heap _ _ m,λg=>by
   rw[r.bs g];by_cases e:g=b
   .subst e;simp[r.ch]
   grind⟩ rfl rfl rfl
 have I:s.β.set l L=s.β:=by
  apply gR;intro j;by_cases e:l=j
  .subst e;rw[fJ (b8.1 r.β).1,r.β]
  grind
 rw[I]at S W;refine⟨.skip,{s with w:=s.w.setRow b #[if c then L.v else .pointer af,d]},?_,rfl,S,W,?_⟩
 .simp[aq,h,D,Instr.storeAt,Instr.sureAddr,storeVar,(U t i hi).run_sizeOf,C,q,G]
 .intro V u;have e:aq p o=(do storeVar t ⟨b,off,af⟩ (p y);pure .skip):=by simp[aq,h,D,Instr.storeAt,Instr.sureAddr]
  rw[e]at u;have F:V∈(storeCells ⟨b,off,af⟩ [p y]).events P s.w #[]:=by
   simp only[storeVar,aJ,(U t i hi).run_sizeOf,q,C,aO,events_sizeOf,dn,eN,bJ,bL,b6,Sem.events_pure,List.size_toArray,eE]at u;generalize(storeCells ⟨b,off,af⟩ [p y]).run P s.w=r at u;cases r with
   |ok v w'=>simpa using u
   |halt x w'=>simpa using u
  rcases dW [p y] 0 _ s.w #[] n (by grind) A V F with Kn|⟨j,_,_,rfl⟩
  .grind
  .exact ky (bD r.β) r.mem (r.M _ r.mem _)
def bx.yf(n:c6 P k){i:TI}(h:o.op=.store t x y)(hi:bz k t=aa i)(d:i.size=1)(hl:σ[l]?=aa (.cp (BB T E a v1 bf xs f))){c:aj}(p:η x=.e (.one (.ptr l 1)))(j:η y=.e (.one (.v c)))(m:cO c=ab):bx P o η σ .any (σ.set l (.cp (BB T E a c bf xs f))) :=
 GJ n h hi d hl p (by omega) m λs L b ch v hh r g=>by rw[j]at g;have:=Rd.eW g;grind
def bx.KE(m:c6 P k){i:TI}(h:o.op=.store t x y)(hi:bz k t=aa i)(c:i.size=1)(hl:σ[l]?=aa (.cp (BB T E a v1 bf xs f)))(n:η x=.e (.one (.ptr l 0)))(g:η y=.e (.one (.ptr l 0)))(j:cO v1=ab):bx P o η σ .any (σ.set l (.cp (BB T E ab v1 bf xs f))) :=
 GJ m h hi c hl n (by omega) j λs L b ch v hh r d=>by rw[g]at d;have:=r.ptr d;subst this;refine⟨rfl,?_⟩;rw[<-r.v];rfl
def bx.N7{T:ay}(h:o.op=.alloc T)(l:∀w,(zeroValue T).run P w=.ok (.agg #[.pointer af,.slice af 0 0]) w)(g:∀w es,(zeroValue T).events P w es=es):bx P o η σ (.e (.one (.ptr σ.length 0))) (σ++[.cp (BB T E ae (.slice af 0 0) af [] 0)]):=by
 intro s u hh hr;let w':=s.w.alloc (.cells #[.pointer af,.slice af 0 0] T);obtain⟨p,t⟩:=hh.grow (M':=s.M) (w':=w') (by simp[w']) (λb hb=>cC s.w _ hb) (λ_ _ _=>rfl) (λb hb o v i=>by have:=hh.block i;omega) rfl rfl rfl;have n:w'.heap.size=s.w.heap.size+1:=by simp[w']
 have j:w'.heap[s.w.heap.size]?=aa (.cells #[.pointer af,.slice af 0 0] T (0,0)):=dt s.w _;obtain⟨q,r⟩:=p.gC t rfl hh (B:=.cp (BB T E ae (.slice af 0 0) af [] 0)) (L:=⟨.pointer (aa ⟨s.w.heap.size,0,af⟩),[s.w.heap.size]⟩)
  ⟨λd=>if d=s.w.heap.size then aa (.cells #[.pointer af,.slice af 0 0] T (0,0))else af,⟨s.w.heap.size,rfl,rfl,by simp,rfl,λd=>by by_cases e:d=s.w.heap.size<;>simp[e]⟩,λd m c=>by
   grind,λd=>by by_cases e:d=s.w.heap.size<;>simp[e],λd c m=>by
   simp at c;subst c;show s.M _ _=af;cases i:s.M s.w.heap.size m with
   |none=>rfl
   |some v=>have:=hh.block i;omega⟩ (λd c=>by grind)
 refine⟨.value (.pointer (aa ⟨s.w.heap.size,0,af⟩)),_,?_,⟨by simp,⟨.pointer (aa ⟨s.w.heap.size,0,af⟩),[s.w.heap.size]⟩,s.w.heap.size,?_,rfl,rfl⟩,q,r,?_⟩
 .simp[aq,h,Instr.alloc,l,Go.newVar,newRow,Value.cells,w']
 .simp[<-hh.len]
 .simp[aq,h,Instr.alloc,l,g,Go.newVar,newRow];exact .nil
end
section
variable {X:Cx P}{q:List (Nat×TI)}{T:ay}{d:Bool}{v1:aj}{bf:Option (Nat×Nat)}{xs:List UInt8}{k:Nat}
def nR{P:aK}{b o:Nat}{t:ay}{k:Nat×Nat}:∀(vs:List aj)(i:Nat)(a:Array aj)(w:aA)(es:Array Event),w.heap[b]?=aa (.cells a t k)->k.2<=o+i->o+i+vs.length<=a.size->(∀v∈vs,v.oneCell'=ab) ->
  ∀e∈(storeCells ⟨b,o,af⟩ vs i).events P w es,e∈es∨∃j,i<=j/\j<i+vs.length/\e=EM b (o+j)
 |[],_,_,_,_,_,_,_,_=>λe h=>.inl (by simpa[storeCells]using h)
 |v::rest,i,a,w,es,l,p,x,n=>λe h=>by
  have hi:o+i<a.size:=by grind
  have c:w.cell? ⟨b,o+i,af⟩=aa a[o+i]:=by simp[aU,l,hi]
  have f:w.frozen? ⟨b,o+i,af⟩=ae:=by obtain⟨lo,r⟩:=k;simp only[World.frozen?,l,qh,bY];grind
  have m:(store (⟨b,o+i,af⟩:Addr) v).run P w=.ok () (w.setRow b (a.setIfInBounds (o+i) v)):=by grind[run_store,setCell_eq_setRow]
  have g:(store (⟨b,o+i,af⟩:Addr) v).events P w es=es.push (EM b (o+i)):=by rw[events_store P w es _ v _ (n v (by simp)),c];simp only[f,gb,bJ];rfl
  simp only[storeCells,aJ,dh,m,g,aO]at h;rcases nR rest (i+1) (a.setIfInBounds (o+i) v) _ _ (setRow_heap _ _ _ _ _ _ l) (by omega) (by grind) (λu s=>n u (by grind)) e h with A|⟨j,z,y,rfl⟩
  .grind
  grind
def ub.at{L:Loc}{b g cap:Nat}{ch:Nat->Option Obj}(r:ub P σ s l T E d v1 (aa (g,cap)) xs k L b ch):
  g≠b/\xs.length<=cap/\0<cap/\cap<=9223372036854775807/\k<=xs.length/\(∃a,(po xs++a).length=cap/\ch g=aa (.cells (po xs++a).toArray E (0,k)))/\(∀c,(ch c).isSome=ab↔c=b∨c=g)/\g∈L.bs:=by
 obtain⟨e,h,_,_,a1,a2,a3,a4,a5,a6,i⟩:=r.bb;have:e=b:=by rw[r.v]at h;grind
 subst this;obtain⟨a,a6,f⟩:=a6;exact⟨a1,a2,a3,a4,a5,⟨a,a6,f⟩,i,(r.bs g).2 (by grind)⟩
def GK{L:Loc}(h:s.β[l]?=aa L):s.β.set l L=s.β:=by apply gR;grind
def ub.jh{L:Loc}{b g cap:Nat}{ch:Nat->Option Obj}(hh:aD σ s)(hl:σ[l]?=aa (.cp (BB T E d v1 (aa (g,cap)) xs k)))(r:ub P σ s l T E d v1 (aa (g,cap)) xs k L b ch){xs':List UInt8}{fz':Nat}{zs':List aj}{w':aA}(f:(po xs'++zs').length=cap)(m:xs'.length<=cap)(u:fz'<=xs'.length)(i:w'.heap.size=s.w.heap.size)(h:∀a,a≠g->w'.heap[a]?=s.w.heap[a]?)(A:w'.heap[g]?=aa (.cells (po xs'++zs').toArray E (0,fz')))(p:w'.os=s.w.os)(n:w'.tape=s.w.tape)(x:w'.output=s.w.output):
  aD (σ.set l (.cp (BB T E d v1 (aa (g,cap)) xs' fz'))) {s with w:=w'}/\Step σ s (σ.set l (.cp (BB T E d v1 (aa (g,cap)) xs' fz'))) {s with w:=w'}:=by
 obtain⟨a1,a2,a3,a4,a5,⟨C,a6,D⟩,z,o⟩:=r.at;obtain⟨j,t⟩:=hh.jh (l:=l) (H':=BB T E d v1 (aa (g,cap)) xs' fz') (L':=L) (w':=w') hl r.β rfl (by omega)
  (λa c y=>h a (by grind)) (λa c=>.inl c)
  ⟨λa=>if a=g then aa (.cells (po xs'++zs').toArray E (0,fz'))else ch a,⟨b,r.v,r.cell,(show(if b=g then _ else ch b)=_ from(bh λe=>a1 e.symm).trans r.ch),a1,m,a3,a4,u,⟨zs',f,by simp⟩,λa=>by
   grind⟩,λa B c=>by
   by_cases e:a=g
   .grind
   .simp only[e,bJ]at c;rw[h a e];exact r.heap _ _ c,λa=>by
   rw[r.bs a]
   grind⟩ p n x
 rw[GK r.β]at j t;grind
def bx.KF{K:ay}(W:o.op=.call {callee:=.builtin .append,args:=#[x,y],argTypes:=#[t,K]}){ie:TypeInfo}(S:P.underlying t=aa (.slice E))(C:P.underlying K=aa .string)(z:P.info? E=aa ie)(D:ie.size=1){g cap:Nat}(hl:σ[l]?=aa (.cp (BB T E d v1 (aa (g,cap)) xs k)))(hx:η x=.e (.one (.v (nO (aa (g,cap)) n))))(hn:xs.length=n){str:List UInt8}(hy:η y=.e (.one (.c (.str str))))(Z:n+str.length<=cap):
  bx P o η σ (.e (.one (.v (nO (aa (g,cap)) (n+str.length))))) (σ.set l (.cp (BB T E d v1 (aa (g,cap)) (xs++str) k))):=by
 intro s ρ hh hr;subst hn;obtain⟨L,b,ch,r⟩:=BB.row (P:=P) hh hl;obtain⟨a1,a2,a3,a4,a5,⟨a,a6,a7⟩,a8,B⟩:=r.at;have m:=hr x;rw[hx]at m;have m:=Rd.eW m;have I:=hr y;rw[hy]at I;have I:=fp I;generalize G:ρ y=vy at I;cases I with
 |@str sb _ V X9 =>
 have p:sb.size=str.length:=by rw[<-V,iB];rfl
 have J:=r.heap _ _ a7;have Y:(po xs++a).toArray.size=cap:=by grind
 have F:=Lib.run_append_room_stringF (P:=P) s.w t K o.type E ie S C z D g xs.length cap _ _ J a5 sb (by omega) (by grind);have A:((po xs++a).toArray.toList.take xs.length++Lib.strCells sb++(po xs++a).toArray.toList.drop (xs.length+sb.size))=po (xs++str)++a.drop str.length:=by
  have e1:(po xs++a).take xs.length=po xs:=by grind[tE]
  have e2:(po xs++a).drop (xs.length+sb.size)=a.drop str.length:=by rw[List.drop_append,tE,List.drop_eq_nil_of_le (by grind),p];simp
  have e3:Lib.strCells sb=po str:=by simp[Lib.strCells,po,V]
  rw[List.toList_toArray,e1,e2,e3,KC]
 rw[A,p]at F;have hlz:a.length=cap-xs.length:=by grind[tE]
 have f:(po (xs++str)++a.drop str.length).length=cap:=by grind[tE]
 have u:(s.w.setRow g (po (xs++str)++a.drop str.length).toArray).heap[g]?=aa (.cells (po (xs++str)++a.drop str.length).toArray E (0,k)):=setRow_heap s.w g _ _ E _ J;obtain⟨t1,R⟩:=r.jh (fz':=k) (w':=s.w.setRow g (po (xs++str)++a.drop str.length).toArray) hh hl f (by grind) (by grind) (setRow_size _ _ _) (λb' N=>setRow_other s.w g b' _ N) u rfl rfl rfl;refine⟨.value (.slice (aa ⟨g,0,af⟩) (xs.length+str.length) cap),_,?_,Rd.val rfl,t1,R,?_⟩
 .rw[cW W,m,G];simp only[bL,cK];have H:(Builtin.append_ #[t,K] o.type #[nO (aa (g,cap)) xs.length,.string sb]).run P s.w=_:=F;rw[H];rfl
 .rw[cW W,m,G];refine dX λe U=>?_;have hf:=Lib.run_firstCells_string (P:=P) s.w 1 sb;have O:=run_storeCells_atF P g xs.length E (0,k) (Lib.strCells sb) 0 _ s.w J (by grind) (by grind) (Lib.strCells_oneCell sb);have i:xs.length+sb.size<=cap:=by omega
  have Q:(Builtin.firstCells 1 sb.size (.string sb)).events P s.w #[]=#[]:=rfl;simp[nO,Builtin.append_,run_underlying S,run_underlying C,sizeOf,typeInfo,z,D,Builtin.lenOf,i,hf,Q,dh,O]at U;rcases nR (Lib.strCells sb) 0 _ s.w _ J (by grind) (by grind) (Lib.strCells_oneCell sb) e U with h|⟨j,h1,h2,rfl⟩
  .grind
  .exact ky (bD r.β) B (r.M _ B _)
def bx.GL{r:ay}(n:o.op=.call {callee:=.builtin .append,args:=#[x,y],argTypes:=#[t,r]}){ie:TypeInfo}(m:P.underlying t=aa (.slice E))(g:P.underlying r=aa .string)(h:P.info? E=aa ie)(u:η x=.e (.one (.v (nO af 0))))(z:η y=.e (.one (.c (.str [])))):bx P o η σ (.e (.one (.v (nO af 0)))) σ:=by
 refine .quiet λs A hh hr=>?_;have b:=hr x;rw[u]at b;have b:=Rd.eW b;have i:=hr y;rw[z]at i;have i:=fp i;generalize f:A y=vy at i;cases i with
 |@str sb _ B p =>
 have a:sb.size=0:=by
  have:sb.data.toList.length=0:=by grind
  rw[iB]at this;exact this
 have l:=Lib.run_firstCells_string (P:=P) s.w ie.size sb;rw[a]at l;have j:(Builtin.firstCells ie.size 0 (.string sb)).events P s.w #[]=#[]:=rfl;refine⟨.slice af 0 0,?_,Rd.val rfl,?_⟩
 .rw[cW n,b,f];simp[nO,Builtin.append_,run_underlying m,run_underlying g,sizeOf,typeInfo,h,Builtin.lenOf,a,l]
 .rw[cW n,b,f];simp[nO,Builtin.append_,run_underlying m,run_underlying g,sizeOf,typeInfo,h,Builtin.lenOf,a,l,j]
def Q2{f:aP}{fn:Func}{ps:Array ay}(Y:P.underlying t=aa (.slice E))(hf:P.funcs[f]?=aa fn)(C:(fn.name== "runtime.NumGoroutine")=ae)(hb:fn.body.isNone=ab)(K:Extern.findNext fn=af)(H:Extern.find fn=aa (Extern.BytealgMakeNoZero.makeNoZero ps #[t]))(ho:o.op=.call {callee:=.value fo,args:=#[x],argTypes:=jK})(M:η fo=.e (.one (.c (.fn (.func f) [] []))))(hx:η x=.e (.one (.c (.int .i64 n))))(h0:0<n)(Ya:n<=140737488355328)(hl:σ[l]?=aa (.cp (BB T E d v1 af xs k))):
  ∀s z,aD σ s->(∀y,dc σ s (z y) (η y))->∃(j:{p:Nat×Nat // n<=p.2}) (s':St) (v:aj),(aq z o).run P s.w=.ok (.value v) s'.w/\dc (σ.set l (.cp (BB T E d v1 (aa j.1) [] 0))) s' v (.e (.one (.v (nO (aa j.1) n)))) /\
   aD (σ.set l (.cp (BB T E d v1 (aa j.1) [] 0))) s'/\Step σ s (σ.set l (.cp (BB T E d v1 (aa j.1) [] 0))) s'/\ee s ((aq z o).events P s.w #[]):=by
 intro s z O hr;obtain⟨L,b,ch,r⟩:=BB.row (P:=P) O hl;have J:z fo=.func (.func f) #[] #[]:=by
  have g:=hr fo;rw[M]at g;have g:=fp g;generalize z fo=v at g;cases g with
  |fn fs cs a b f1 f2 c1 c2 d1 d2 =>
   grind
 have G:z x=.int .i64 n:=by have g:=hr x;rw[hx]at g;have g:=fp g;generalize z x=v at g;cases g;rfl
 obtain⟨cs,g,U,R⟩:=Lib.run_makeNoZero (P:=P) s.w ps t E Y n (by omega);have R:=R (by simp only[maxLen];omega);have B:(callFunc f #[.int .i64 n]).run P s.w=.ok (.value (.slice (aa ⟨s.w.heap.size,0,af⟩) n cs.size)) (s.w.drew.drew.alloc (.cells cs E)):=by rw[run_callFunc_extern hf C hb K H,g];rfl
 let w':aA:=s.w.drew.drew.alloc (.cells cs E);have W:w'.heap[s.w.heap.size]?=aa (.cells cs E (0,0)):=dt s.w.drew.drew _;have KB:w'.heap.size=s.w.heap.size+1:=by show(s.w.drew.drew.heap.push _).size=_;simp
 obtain⟨A,q1,q2,q3,q4⟩:=r.bb;have V:A=b:=by rw[r.v]at q1;grind
 subst V;have D:A<s.w.heap.size:=O.lt L (bD r.β) A r.mem;have I:s.w.heap.size≠A:=by omega
 obtain⟨t1,t2⟩:=O.jh (l:=l) (H':=BB T E d v1 (aa (s.w.heap.size,cs.size)) [] 0) (L':=⟨L.v,[A,s.w.heap.size]⟩) (w':=w') hl r.β rfl (by omega)
  (λu i K=>cC s.w.drew.drew _ i) (λu i=>by
   simp at i;rcases i with rfl|rfl
   .exact .inl r.mem
   grind)
  ⟨λu=>if u=A then aa (.cells #[if d then L.v else .pointer af,v1] T (0,0))else if u=s.w.heap.size then aa (.cells cs E (0,0))else af,⟨A,r.v,r.cell,by simp,I,by simp,by omega,by simp only[maxLen]at R;omega,by simp,⟨cs.toList,by simp[po],by simp[I,po]⟩,λu=>by
   grind⟩,λu o' i=>by
   by_cases e:u=A
   .subst e;simp only[bZ]at i;have:w'.heap[u]?=s.w.heap[u]?:=cC s.w.drew.drew _ D;rw[this,<-i];exact r.heap _ _ r.ch
   grind,λu=>by grind⟩ rfl rfl rfl
 refine⟨⟨(s.w.heap.size,cs.size),U⟩,_,_,?_,Rd.val rfl,t1,t2,?_⟩
 .simp[aq,ho,resolve,Deferred.ofValue,invoke,J,G,B,w',nO]
 .intro Z N;simp only[aq,ho,resolve,Deferred.ofValue,invoke,J,G]at N;have F:Z∈(callFunc f #[.int .i64 n]).events P s.w #[]:=by grind
  have Q:fn.name≠ "runtime.NumGoroutine":=by grind
  have S:fn.body=af:=by simpa using hb
  have key:∀es:Array Event,∀e∈(Extern.BytealgMakeNoZero.makeNoZero ps #[t] #[.int .i64 n]).events P s.w es,e∈es∨∃m,e=⟨.mark m,ae,ab⟩/\Go.Conc.Neutral m:=by
   intro es e H;change e∈Sem.events P (underlying _ >>= _) _ _ at H;have g:¬(n:Int)<0:=by omega
   have U:¬(281474976710656:Int)<(n:Int):=by omega
   have M4:e∈(askRoom (grownCap s.w n 0 E)).events P s.w.drew es:=by simpa[run_underlying Y,g,U,Question.forced,newRow,grownCap]using H
   grind[Go.Conc.events_askRoom]
  have:Z∈(Extern.BytealgMakeNoZero.makeNoZero ps #[t] #[.int .i64 n]).events P s.w ((#[]:Array Event).push ⟨.mark (.extern f),ae,ab⟩):=by have e:callFunc f #[.int .i64 n]=callFunc f #[.int .i64 n]:=rfl;simpa[callFunc,hf,Q,S,K,H,g]using F
  rcases key _ _ this with h|⟨m,rfl,hm⟩
  .simp at h;subst h;exact .inr ⟨f,rfl⟩
  .exact .inl hm
def Q3{B G:ay}(ho:o.op=.call {callee:=.builtin .unsafeString,args:=#[x,y],argTypes:=#[B,G]})(hp:P.underlying B=aa (.pointer E))(K:P.cellsOf E=1){g cap:Nat}(hl:σ[l]?=aa (.cp (BB T E d v1 (aa (g,cap)) xs k)))(hx:η x=.e (.one (.v (.pointer (aa ⟨g,0,af⟩)))))(hy:η y=.e (.one (.c (.int .i64 xs.length)))):
  bx P o η σ (.e (.one (.c (.str xs)))) (σ.set l (.cp (BB T E d v1 (aa (g,cap)) xs xs.length))):=by
 intro s I Y hr;obtain⟨L,b,ch,r⟩:=BB.row (P:=P) Y hl;obtain⟨a1,a2,a3,a4,a5,⟨M,a6,a7⟩,a8,V⟩:=r.at;have u:=hr x;rw[hx]at u;have u:=Rd.eW u;have t:I y=.int .i64 xs.length:=by have H:=hr y;rw[hy]at H;have H:=fp H;generalize I y=v at H;cases H;rfl
 have W:=r.heap _ _ a7;have p:aq I o=(do pure (.value (<-Builtin.unsafeString_ #[B,G] o.type #[I x,I y]))):=by simp[aq,ho,resolve,invoke,builtin]
 have hlen:(po xs++M).toArray.size=cap:=by grind
 by_cases h0:xs=[]
 .subst h0;have i:=Lib.run_unsafeString_none (P:=P) s.w B G o.type (aa ⟨g,0,af⟩);obtain⟨Q,t2⟩:=r.jh (xs':=[]) (fz':=0) (zs':=M) (w':=s.w) Y hl a6 a2 (by simp) rfl (λ_ _=>rfl) (by grind) rfl rfl rfl;refine⟨.value (.string .empty),_,?_,Rd.str rfl (by simp),Q,t2,?_⟩
  .rw[p,u,t];simp only[bL,cK];have:(Builtin.unsafeString_ #[B,G] o.type #[.pointer (aa ⟨g,0,af⟩),.int .i64 ([]:List UInt8).length]).run P s.w=_:=i;rw[this];rfl
  .rw[p,u,t];refine dX ?_;change ee s (Sem.events P (asInt (.int .i64 0) >>= _) _ _);simp[asInt,asIntOf,IntKind.max];exact .nil
 .have m:∀j x,xs[j]?=aa x->s.w.cell? ((⟨g,0,af⟩:Addr).add j)=aa (.int .u8 x.toNat):=by
   intro j x N;rw[dh];simp only[aU,W,bo];have uc:j<xs.length:=(b8.1 N).1;have:(po xs)[j]?=aa (.int .u8 x.toNat):=by simp[po,N]
   grind
  have A:s.w.shape? g=aa (E,cap):=by simp only[World.shape?,W];grind
  have i:=Lib.run_unsafeString_row (P:=P) s.w B G o.type E hp K g cap A xs h0 a2 (by omega) m;have f:xs.length≠0:=by grind
  have Yb:(s.w.freeze ⟨g,0,af⟩ xs.length).heap[g]?=aa (.cells (po xs++M).toArray E (0,xs.length)):=by simp only[World.freeze,f,bJ,x7,bZ,W,lR];grind
  obtain⟨Q,t2⟩:=r.jh (xs':=xs) (fz':=xs.length) (zs':=M) (w':=s.w.freeze ⟨g,0,af⟩ xs.length) Y hl a6 a2 (aZ _) (by simp[World.freeze,f]) (λb' oH=>by
   simp only[World.freeze,f,bJ,x7]
   grind) Yb (by simp[World.freeze,f]) (by simp[World.freeze,f]) (by simp[World.freeze,f])
  refine⟨.value (.string ⟨xs.toArray⟩),_,?_,Rd.str (by simp) (by omega),Q,t2,?_⟩
  .rw[p,u,t];simp only[bL,cK,i];rfl
  .rw[p,u,t];refine dX λe z=>?_;have J:¬(xs.length:Int)<0:=by omega
   have U:¬(9223372036854775807:Int)<(xs.length:Int):=by omega
   have n:=Lib.liesAt_bytes (P:=P) K (cap / P.cellsOf E) xs.length (by grind);have F:IntKind.i64.max=9223372036854775807:=rfl;have Yc:=Lib.run_loadBytes (P:=P) s.w xs ⟨g,0,af⟩ .empty m;have R:∀(D:List UInt8) (a:Nat) (acc:ByteArray) (es:Array Event),(∀j x,D[j]?=aa x->s.w.cell? ⟨g,a+j,af⟩=aa (.int .u8 x.toNat))->∀e∈(loadBytes ⟨g,a,af⟩ acc D.length).events P s.w es,e∈es∨∃j,e=yd g j:=by
    intro D;induction D with
    |nil=>intro a acc es _ e z;exact .inl (by simpa[loadBytes]using z)
    |cons y D ih =>
     intro a acc es K e z;have C:=K 0 y rfl;simp only[gT]at C;have Yd:(load ⟨g,a,af⟩).run P s.w=.ok (.int .u8 y.toNat) s.w:=by grind[run_load]
     simp only[gd,loadBytes,aJ,Yd,aO,yg C,dh]at z;rcases ih (a+1) _ _ (λj x N=>by have:=K (j+1) x (by grind);grind) e z with h|h
     .grind
     grind
   have O:(variablesAt ⟨g,0,af⟩ E xs.length).run P s.w=.ok ab s.w:=by simp[variablesAt,A,n]
   have Z:∀es,(variablesAt ⟨g,0,af⟩ E xs.length).events P s.w es=es:=λes=>by simp[variablesAt,A,n]
   have S:e∈(loadBytes ⟨g,0,af⟩ .empty xs.length).events P s.w #[]:=by change e∈Sem.events P (asInt (.int .i64 (xs.length:Int)) >>= _) _ _ at z;simpa[asInt,asIntOf,F,J,U,f,elemOf,run_underlying hp,O,Z,Yc]using z
   rcases R xs 0 .empty #[] (λj x N=>by grind[dh]) e S with h|⟨j,rfl⟩
   .grind
   .exact nP (bD r.β) V
end
section
variable {X:Cx P}{p:List (Nat×TI)}{T:ay}{g:Bool}{v1:aj}{bf:Option (Nat×Nat)}{xs:List UInt8}{i:Nat}
def bx.exact{r:aj}{d:D}(c:η x=.e (.one (.v v)))(h:∀(a:aC->aj) w,a x=v->(aq a o).run P w=.ok (.value r) w/\(aq a o).events P w #[]=#[])(f:∀σ s,dc σ s r d):bx P o η σ d σ:=by refine .quiet λs a hh hr=>?_;have b:=hr x;rw[c]at b;have b:=Rd.eW b;obtain⟨h1,h2⟩:=h a s.w b;grind
def bx.sZ(h:o.op=.call {callee:=.builtin .len,args:=#[x],argTypes:=jK})(b:jK[0]?=aa t)(j:P.underlying t=aa (.slice E)){a:Option Addr}{c:Nat}(f:η x=.e (.one (.v (.slice a n c))))(k:n<=9223372036854775807):bx P o η σ (.e (.one (.c (.int .i64 n)))) σ :=
  .exact f (λl w d=>by constructor<;>simp[aq,h,resolve,invoke,builtin,Builtin.len_,d,run_underlying j,goInt,b]) (λ_ _=>Rd.int (by simp only[bq];omega))
def bx.KG(h:o.op=.call {callee:=.builtin .cap,args:=#[x],argTypes:=jK})(b:jK[0]?=aa t)(j:P.underlying t=aa (.slice E)){a:Option Addr}{c:Nat}(f:η x=.e (.one (.v (.slice a n c))))(k:c<=9223372036854775807):bx P o η σ (.e (.one (.c (.int .i64 c)))) σ :=
  .exact f (λl w d=>by constructor<;>simp[aq,h,resolve,invoke,builtin,Builtin.cap_,d,run_underlying j,goInt,b]) (λ_ _=>Rd.int (by simp only[bq];omega))
def bx.Q4(h:o.op=.call {callee:=.builtin .unsafeSliceData,args:=#[x],argTypes:=jK}){c:Nat}(b:η x=.e (.one (.v (.slice af n c)))):bx P o η σ (.e (.one (.v (.pointer af)))) σ :=
  .exact b (λd w a=>by
    have e:Builtin.unsafeSliceData_ jK o.type #[.slice af n c]=pure (.pointer af):=rfl
    constructor<;>simp[aq,h,resolve,invoke,builtin,a,e]) (λ_ _=>Rd.val rfl)
def bx.Q5(h:o.op=.call {callee:=.builtin .unsafeSliceData,args:=#[x],argTypes:=jK}){a:Addr}{c:Nat}(f:η x=.e (.one (.v (.slice (aa a) n c))))(b:c≠0):bx P o η σ (.e (.one (.v (.pointer (aa a))))) σ :=
  .exact f (λj w d=>by
    obtain⟨m,rfl⟩:=Nat.exists_eq_succ_of_ne_zero b;have e:Builtin.unsafeSliceData_ jK o.type #[.slice (aa a) n (m+1)]=pure (.pointer (aa a)):=rfl
    constructor<;>simp[aq,h,resolve,invoke,builtin,d,e]) (λ_ _=>Rd.val rfl)
def bx.Q6(h:o.op=.slice t x af (aa y) af)(u:P.underlying t=aa (.slice E)){ie:TypeInfo}(hi:P.info? E=aa ie){a:Addr}{c:Nat}(C:η x=.e (.one (.v (.slice (aa a) n c))))(z:η y=.e (.one (.c (.int .i64 k))))(B:k<=n)(l:n<=c)(q:c≠0)(A:a.add 0=a):bx P o η σ (.e (.one (.v (.slice (aa a) k c)))) σ:=by
  refine .quiet λs m hh hr=>?_;have b:=hr x;rw[C]at b;have b:=Rd.eW b;have d:m y=.int .i64 k:=by have h1:=hr y;rw[z]at h1;have h1:=fp h1;generalize m y=v at h1;cases h1;rfl
  have hl:((af:Option aj)=af/\(af:Option Int)=af)∨∃k j,(af:Option aj)=aa (.int k j)/\(af:Option Int)=aa j:=.inl ⟨rfl,rfl⟩;have hh:(aa (Value.int .i64 k)=af/\(aa (k:Int))=af)∨∃k' j,aa (Value.int .i64 k)=aa (.int k' j)/\(aa (k:Int))=aa j:=.inr ⟨_,_,rfl,rfl⟩;have r:au (gh n af (aa (k:Int))):=by simp[gh,B]
  obtain⟨hb,_,_⟩:=mM (P:=P) (isS:=ab) l hl hh r s.w;have f:=oK (P:=P) (isS:=ab) l hl hh r s.w;simp only[cU,bF]at hb;refine⟨.slice (aa a) k c,?_,Rd.val rfl,?_⟩
  · simp[aq,h,b,d,Instr.sliceAt,run_underlying u,Instr.slice,hb,sizeOf,typeInfo,hi,q,A]
  · simp[aq,h,b,d,Instr.sliceAt,run_underlying u,Instr.slice,hb,f,sizeOf,typeInfo,hi,q]
def bx.copyV{f:ay}(h:o.op=.call {callee:=.builtin .copy,args:=#[x,y],argTypes:=#[t,f]})(l:P.underlying t=aa (.slice E)){ie:TypeInfo}(hi:P.info? E=aa ie){a:Addr}{c:Nat}(k:η x=.e (.one (.v (.slice (aa a) 0 c))))(j:η y=.e (.one (.v (.slice af 0 0)))):bx P o η σ (.e (.one (.c (.int .i64 0)))) σ:=by
  refine .quiet λs m hh hr=>?_;have b:=hr x;rw[k]at b;have b:=Rd.eW b;have d:=hr y;rw[j]at d;have d:=Rd.eW d;refine⟨.int .i64 0,?_,Rd.int (by simp[bq]),?_⟩<;>
  simp[aq,h,resolve,invoke,builtin,Builtin.copy_,b,d,run_underlying l,sizeOf,typeInfo,hi,Builtin.lenOf,Builtin.firstCells,storeCells,goInt]
def bx.Q7{j k:ay}(m:o.op=.call {callee:=.builtin .unsafeString,args:=#[x,y],argTypes:=#[j,k]})(n:η x=.e (.one (.v (.pointer af))))(l:η y=.e (.one (.c (.int .i64 ((0:Nat):Int))))):bx P o η σ (.e (.one (.c (.str [])))) σ:=by
  refine .mL λs d hh hr=>?_;have a:=hr x;rw[n]at a;have a:=Rd.eW a;have f:d y=.int .i64 0:=by have h1:=hr y;rw[l]at h1;have h1:=fp h1;generalize d y=v at h1;cases h1;rfl
  have h:aq d o=(do pure (.value (<-Builtin.unsafeString_ #[j,k] o.type #[d x,d y]))):=by simp[aq,m,resolve,invoke,builtin]
  have b:=Lib.run_unsafeString_none (P:=P) s.w j k o.type af;refine⟨.string .empty,?_,Rd.str rfl (by simp),?_⟩
  · rw[h,a,f]
    simp only[bL,cK,b];rfl
  · rw[h,a,f]
    refine dX ?_;change ee s (Sem.events P (asInt (.int .i64 0) >>= _) _ _);simp[asInt,asIntOf,IntKind.max];exact .nil
def bx.Ye(m:σ[l]?=aa (.cp (BB T E g v1 bf xs i))){c dst:ay}(h:o.op=.convert c dst x)(q:P.underlying c=aa (.pointer T))(t:P.underlying dst=aa .unsafePointer){j:TypeInfo}(hj:P.info? T=aa j)(k:j.size≠0)(v:η x=.e (.one (.ptr l 0))):bx P o η σ (.e (.one (.ptr l 0))) σ:=by
  refine .quiet λs u hh hr=>?_;obtain⟨L,b,ch,r⟩:=BB.row (P:=P) hh m;have d:=hr x;rw[v]at d;have n:=r.ptr d;have f:s.w.shape? b=aa (T,2):=by simp[World.shape?,r.heap _ _ r.ch]
  have a:=Lib.run_to_unsafe (P:=P) s.w ⟨b,0,af⟩ q t hj k f (by simp);refine⟨u x,by simp[aq,h,n,a],d,?_⟩;have:(convert c dst (.pointer (aa ⟨b,0,af⟩))).events P s.w #[]=#[]:=by simp[convert,run_underlying q,run_underlying t,Conv.unsafePointer,Conv.seenAt,viewAt,cellsIn,f,sizeOf,typeInfo,hj,k]
  simp[aq,h,n,a,this]
def bx.Q8(n:σ[l]?=aa (.cp (BB T E g v1 bf xs i))){d dst:ay}(h:o.op=.convert d dst x)(t:P.underlying d=aa .unsafePointer)(u:P.underlying dst=aa (.pointer T)){j:TypeInfo}(hj:P.info? T=aa j)(m:j.size≠0)(a:liesAt P P.depth T (2 / P.cellsOf T) 0 T 1=ab)(y:η x=.e (.one (.ptr l 0))):bx P o η σ (.e (.one (.ptr l 0))) σ:=by
  refine .quiet λs v hh hr=>?_;obtain⟨L,b,ch,r⟩:=BB.row (P:=P) hh n;have f:=hr x;rw[y]at f;have q:=r.ptr f;have k:s.w.shape? b=aa (T,2):=by simp[World.shape?,r.heap _ _ r.ch]
  have c:=Lib.run_from_unsafe (P:=P) s.w ⟨b,0,af⟩ t u hj k a;refine⟨v x,by simp[aq,h,q,c],f,?_⟩;have:(convert d dst (.pointer (aa ⟨b,0,af⟩))).events P s.w #[]=#[]:=by simp[convert,run_underlying t,run_underlying u,Conv.unsafePointer,Conv.seenAt,viewAt,variablesAt,k,sizeOf,typeInfo,hj,m,a]
  simp[aq,h,q,c,this]
def bx.Q9{f:aP}{fn:Func}(y:P.funcs[f]?=aa fn)(j:(fn.name== "runtime.NumGoroutine")=ae)(hb:fn.body.isNone=ab)(r:Extern.findNext fn=af)(t:Extern.find fn=aa Extern.AbiNoEscape.same)(u:o.op=.call {callee:=.value fo,args:=#[x],argTypes:=jK})(q:η fo=.e (.one (.c (.fn (.func f) [] [])))){d:D}(C:η x=d):bx P o η σ d σ:=by
  refine .mL λs l hh hr=>?_;have m:l fo=.func (.func f) #[] #[]:=by
    have h1:=hr fo;rw[q]at h1;have h1:=fp h1;generalize l fo=v at h1;cases h1 with
    | fn fs cs a b z A c1 c2 d1 d2 =>
      grind
  have k:(callFunc f #[l x]).run P s.w=.ok (.value (l x)) s.w:=by rw[run_callFunc_extern y j hb r t];rfl
  have n:=kU (P:=P) y j hb r t #[l x] (λ_ _=>rfl) s.w #[];refine⟨l x,?_,by grind,λB h=>?_⟩
  · simp[aq,u,resolve,Deferred.ofValue,invoke,m,k]
  · simp[aq,u,resolve,Deferred.ofValue,invoke,m,n]at h
    subst h;exact .inr ⟨_,rfl⟩
end
def rM{α j:Type}{f:α->j}:∀{l:List α},(l.map f).Nodup->∀{a b:α},a∈l->b∈l->f a=f b->a=b
 |[],_,_,_,h,_,_=>by grind
 |x::r,c,a,b,i,k,e=>by
  simp only[oE,List.nodup_cons]at c;rcases dD.1 i with g|g<;>rcases dD.1 k with d|d
  .grind
  .grind
  .grind
  .exact rM c.2 g d e
def jE{B:ba}{r:List ba}(h:B≠.pK)(k:l7 r=ab):l7 (B::r)=ab:=by cases B<;>first|exact k|grind
section
variable {X:Cx P}
def AK.g9{Q a:Post}(h:∀e φ σ,Q e φ σ->a e φ σ):∀{K:List It}{e:Exit}{φ:Fr}{σ:List ba},AK X N Q K e φ σ->AK X N a K e φ σ
 |[],e,φ,σ,q=>h e φ σ q
 |.code c::K,.normal,φ,σ,q=>AW.mono q λ_ _ _ q=>AK.g9 h q
 |.code c::K,.exit _,φ,σ,q=>AK.g9 (K:=K) h q
 |.code c::K,.ret,φ,σ,q=>AK.g9 (K:=K) h q
 |.code c::K,.panic _,φ,σ,q=>AK.g9 (K:=K) h q
 |.code c::K,.goto _,φ,σ,q=>AK.g9 (K:=K) h q
 |.code c::K,.outgrown,φ,σ,q=>AK.g9 (K:=K) h q
 |.blk id::K,.exit Gy,φ,σ,q=>by
  simp only[AK]at q⊢;split
  .rename_i e;rw[bt e]at q;exact AK.g9 (K:=K) h q
  .rename_i e;rw[bh e]at q;exact AK.g9 (K:=K) h q
 |.blk id::K,.normal,φ,σ,q=>AK.g9 (K:=K) h q
 |.blk id::K,.ret,φ,σ,q=>AK.g9 (K:=K) h q
 |.blk id::K,.panic _,φ,σ,q=>AK.g9 (K:=K) h q
 |.blk id::K,.goto _,φ,σ,q=>AK.g9 (K:=K) h q
 |.blk id::K,.outgrown,φ,σ,q=>AK.g9 (K:=K) h q
 |.ops all rest::K,.normal,φ,σ,q=>iO.mono q λ_ _ q=>AK.g9 h q
 |.ops all rest::K,.exit _,φ,σ,q=>AK.g9 (K:=K) h q
 |.ops all rest::K,.ret,φ,σ,q=>AK.g9 (K:=K) h q
 |.ops all rest::K,.panic _,φ,σ,q=>AK.g9 (K:=K) h q
 |.ops all rest::K,.goto _,φ,σ,q=>AK.g9 (K:=K) h q
 |.ops all rest::K,.outgrown,φ,σ,q=>AK.g9 (K:=K) h q
def AK.HF{id:Nat}{A:Fr->List ba->Prop}{c b a:List It}(h1:jV id c=af)(h2:jV id b=aa a)(k:AK X N Qf a .normal φ σ):
  AK X N (DS A (AK X N Qf b)) (.code (.exit id)::c) .normal φ σ :=
 AK.g9 (λe φ' σ' q=>by cases e<;>exact q) (AK.leave (X:=X) (N:=N) (Qr:=Qf) (A:=A) (φ:=φ) (σ:=σ) h1 h2 k)
end
section
variable {X:Cx P}
def AK.mg{fn:Func}{h:Nat}{σ':ι->List ba}(i:ι)(ks:List Nat){cs:List A}{t:Tmp}{b:TI}(n:fn.results.toList=[.cell t ty])(hi:bz T ty=aa b)(o:b.agg=ab)(k:look φ t=.e (.one (.ptr l 0)))(hl:eh l σ=aa (.cells E cs))(a:av cs.length b.size=ab)(g:gK l ks=ae)(d:BC (.e (.agg cs)) (ij ks (res i))=aa ps)(r:au ps)(c:uh ks.length (res i)=ab)(p:jB ks σ=aa (σ' i))(f:kh (σ' i)=ab)(m:dF ks=ab)(q:∀j,j<h->ks[j]?=aa j):
  AK X N (λe φ σ1=>∃j,HT T fn h (res j) (σ' j) e φ σ1) (.code .ret::K) .normal φ σ :=
 AK.ret ⟨i,.inl rfl,ks,l,E,cs,t,ty,b,ps,af,nofun,n,hi,o,bT a,k,cT hl,Ar g,d,r,c,p,f,m,q⟩
def AK.Ns{fn:Func}{k:Nat}{σ':ι->List ba}(i:ι)(ks:List Nat){cs:List A}{t u:Tmp}{b:TI}{x:E1}(o:fn.results.toList=[.cell t ty,.tmp u])(hi:bz T ty=aa b)(p:b.agg=ab)(m:look φ t=.e (.one (.ptr l 0)))(s:look φ u=.e x)(hl:eh l σ=aa (.cells E cs))(a:av cs.length b.size=ab)(g:gK l ks=ae)(d:BC (.fe [.agg cs,x]) (ij ks (res i))=aa ps)(v:au ps)(c:uh ks.length (res i)=ab)(q:jB ks σ=aa (σ' i))(f:kh (σ' i)=ab)(n:dF ks=ab)(r:∀j,j<k->ks[j]?=aa j):
  AK X N (λe φ σ1=>∃j,HT T fn k (res j) (σ' j) e φ σ1) (.code .ret::K) .normal φ σ :=
 AK.ret ⟨i,.inl rfl,ks,l,E,cs,t,ty,b,ps,aa (u,x),λ_ h=>by cases h;exact s,o,hi,p,bT a,m,cT hl,Ar g,d,v,c,q,f,n,r⟩
def Ev.As(g:c6 P T){f:aP}{fn:Func}{args:List D}{res:D}(d:P.funcs[f]?=aa fn)(a:(fn.name== "runtime.NumGoroutine")=ae)(hb:fn.body=aa c)(b:bn args.length fn.ntmps=ab)(h:Fits args σ->AK X fn.ntmps (λe φ σ1=>∃_:Unit,HT T fn σ.length res σ' e φ σ1) [.code c] .normal (iL 0 args) σ):Ev X f args σ res σ' :=
 (dK.nW (ι:=Unit) (σ':=λ_=>σ') (res:=λ_=>res) g d a hb b h).EO
end
section
variable {X:Cx P}
def AK.RP{x:ι->D}{σ':ι->List ba}(h:oS X N all o φ σ x σ')(g:fD N o.dst=ab)(k:∀i,AK X N Qf (.ops all rest::K) .normal (kV o.dst (x i) φ) (σ' i)):AK X N Qf (.ops all (o::rest)::K) .normal φ σ:=by
  intro s a f hh b kk cs S idx hb kX hQ;cases idx with
  | nil=>exact kX.elim
  | cons j idx =>
  refine h s a f hh b kk cs S j idx hb kX.1 λi v s' h1 h2 h3=>?_;refine k i s' _ ?_ h2 b kk cs S idx hb kX.2 λc σ2 s2 a2 q d e st=>hQ c σ2 s2 a2 q d e (h3.trans st);cases l:o.dst with
  | none=>exact f.mono h3 hh.len
  | some t=>exact(f.mono h3 hh.len).put (iw g t l) h1
def oS.oX[X.gY]{f:aP}(Kw:dK X f cu [] res σ1){Dt:List D}(Zp:Ag all φ o=ab)(ho:o.op=.call {callee:=.value fo,args:=xs,argTypes:=jK})(hf:er (bH φ fo)=aa (f,cap))(hl:iX σ (xs.toList.map (bH φ)++fu cap) Dt)(U:uj Dt (gp [] cu)=aa ps)(Zq:au ps)(Zr:lq 0 cu=ab)(T:∀j,KI (res j)=ab)(lA:∀j,zL (σ1 j)=ab):oS X N all o φ σ res (λj=>σ++σ1 j):=by
  intro s a R hh b kx cs S i idx hb hi hQ;have WV:=dJ R fo;unfold er at hf;split at hf
  case h_2=>cases hf
  case h_1 f' Kz he =>
    cases hf;rw[he]at WV;have I:=fp WV;generalize y:a.eval fo=fv at I;cases I with
    | fn fs lZ Zs Vn f1 f2 h1 h2 r1 r2 =>
      have Vo:fs=[]:=jo Zs;subst Vo;have Y:cd σ s lZ (fu cap):=l4 (λj c hj=>⟨f2 j,h2 j (by grind),r2 j c hj⟩) Vn;have E:cd σ s (xs.toList.map a.eval++lZ) (xs.toList.map (bH φ)++fu cap):=(oM (dJ R) xs.toList).append Y;generalize M5:xs.toList.map a.eval++lZ=vs at E;obtain⟨⟨fn,RK,Hy,Q⟩,J⟩:=Kw;have uA:∀w,(aq a.eval o).run P w=.ok (.enter f vs.toArray) w:=λw=>by grind[iK]
      have Vp:∀w,(aq a.eval o).events P w #[]=#[]:=λw=>(iK ho RK Hy Q y w).2;refine .next rfl λg Vf=>?_;have hr:=X.hZ Vf;have e:=hh.rely hr;have Zt:=R.rely hr hh;have W:cd σ g vs (xs.toList.map (bH φ)++fu cap):=E.mono hr.stepW.ext hh.len;obtain⟨B,M',hBL,m1,m2,m3,m4,m5⟩:=hl g vs e W;let sc:St:={g with β:=[],M:=M',own:=λb=>g.own b∨∃L∈g.β,b∈L.bs}
      have Zu:aD [] sc:=by
        refine⟨m3,rfl,by simp,by grind,by grind,λb hb=>⟨?_,by grind⟩⟩;rcases hb with hb|⟨L',p,hb⟩
        · exact(e.own b hb).1
        · exact e.lt L' p b hb
      have Vq:ey g sc:=by refine⟨rfl,m1,λb hb o=>m2 b (λG=>by grind) o,m3,λb hb=>?_⟩;grind
      have z:cd [] sc vs cu:=by have a3:=tG U Zq m5;exact(cd.sub (ks:=[]) (σ:=σ) (σ':=[]) (s:={g with M:=M'}) (β':=[]) rfl rfl a3 Zr).mono (σ:=[]) (s:={g with β:=[],M:=M'}) (σ':=[]) (s':=sc) ⟨λ_ _ _ h=>h,λl B L G hL=>by grind⟩ rfl
      refine⟨_,g,_,qz hi (Hu Zp _ _ _ Zt) hb (uA g.w),⟨⟨σ,σ,e,e,.refl _ _⟩,ee.seen (by rw[Vp];exact .nil)⟩,.ghost Vq (J sc vs z Zu S _ λj fr v s2 EJ l5 Gr nU=>?_)⟩;refine rD (cs:=cs) (c:=b.aT a (.inRegion all.toArray (i::idx)::kx)) Gr EJ λt Z=>?_;have q:=Gr.rely Z;have n:=nU.trans Z.stepW;have O:=l5.mono Z.stepW.ext Gr.len
      classical
      let F:Mem:=λb o=>if B b then g.M b o else t.M b o;have r:∀b,(g.own b∨∃L∈g.β,b∈L.bs)->t.own b:=λb hb=>by rw[n.own];exact hb
      have WW:lT t {t with M:=F}:=by
        refine⟨rfl,rfl,rfl,λb o v y=>?_,λb o v y=>?_⟩
        · grind
        grind
      refine .forget Cx.gY.ok WW ?_;have WX:∀b o v,F b o=aa v->t.M b o=aa v:=WW.less;let s5:St:={t with M:=F,β:=g.β++t.β,own:=g.own}
      have WY:∀b o v,g.M b o=aa v->F b o=aa v:=λb o v y=>by
        by_cases d:B b
        · grind
        · simp only[F,d,bJ];exact n.mem b o v (m1 b o v y)
      have WZ:∀b,b<g.w.heap.size->∀o,F b o=g.M b o:=λb hb o=>by
        by_cases d:B b
        · grind
        · simp only[F,d,bJ]
          rw[n.iq b hb (by grind) o];grind
      have V:t.β.length=(σ1 j).length:=q.len;have ex:Ext σ g (σ++σ1 j) s5:=by
        refine⟨WY,λl B L G hL=>⟨B,L,?_,?_,.refl _ _⟩⟩
        · grind
        grind
      have K:g.w.heap.size<=t.w.heap.size:=n.size;have x:∀(l:Nat) (L':Loc),(g.β++t.β)[l]?=aa L'->(l<g.β.length/\g.β[l]?=aa L')∨(g.β.length<=l/\t.β[l-g.β.length]?=aa L'):=λl L' h=>by grind
      have Zv:aD (σ++σ1 j) s5:=by
        refine⟨λb o v y=>q.mem b o v (WX b o v y),by simp[s5,e.len,V],?_,?_,?_,?_⟩
        · intro l B L' G p
          rcases x l L' p with⟨uc,h1⟩|⟨QL,h1⟩
          · rw[jq (by rw[<-e.len];exact uc)]at G
            exact(e.box l B L' G h1).carry ex e.len λm d=>⟨n.keep m (.inr ⟨L',bD h1,d⟩),WZ m (e.lt L' (bD h1) m d)⟩
          · rw[fh (by rw[<-e.len];exact QL),<-e.len]at G
            have Zw:=q.box _ B L' G h1;rcases zM (lA j) B (bD G)with⟨H,rfl⟩|rfl
            · obtain⟨ch,c1,c2,c3,c4⟩:=Zw
              refine⟨ch,c1,c2,c3,λm d o=>?_⟩;grind
            · trivial
        · intro l l' L1 L2 Zx Zy m C A
          rcases x l L1 Zx with⟨uc,h1⟩|⟨QL,h1⟩<;>rcases x l' L2 Zy with⟨Zz,h2⟩|⟨ZA,h2⟩
          · exact e.eH l l' L1 L2 h1 h2 m C A
          · exact absurd A ((q.own m (r m (.inr ⟨L1,bD h1,C⟩))).2 L2 (bD h2))
          · exact absurd C ((q.own m (r m (.inr ⟨L2,bD h2,A⟩))).2 L1 (bD h1))
          · have:=q.eH _ _ L1 L2 h1 h2 m C A;omega
        · intro L' p m d
          rcases eO.1 p with h|h
          · exact cA (e.lt L' h m d) K
          · exact q.lt L' h m d
        · intro m d
          refine⟨cA (e.own m d).1 K,λL' p=>?_⟩;rcases eO.1 p with h|h
          · exact(e.own m d).2 L' h
          · exact(q.own m (r m (.inl d))).2 L' h
      have ZB:ey {t with M:=F} s5:=by refine⟨rfl,λ_ _ _ h=>h,λ_ _ _=>rfl,λb o v y=>q.mem b o v (WX b o v y),λm d=>?_⟩;grind
      have ZC:cJ σ g (σ++σ1 j) s5:=by
        refine⟨K,λm d=>n.keep m (.inl d),WY,λm d _ o=>WZ m d o,λL' p m d=>?_,ex.box,n.os,n.tape,n.output,rfl⟩;rcases eO.1 p with h|h
        · grind
        · rcases n.tB L' h m d with h1|⟨L0,h1,_⟩
          · grind
          grind
      refine .ghost ZB ?_;have u:=kI (b:=b) (a:=a) (k:=kx) all.toArray i idx v;rw[hi]at u;simp only[nK]at u;rw[u];exact hQ j v s5 (KJ (T j) O) Zv (hr.stepW.trans ZC)
def AK.oX[X.gY]{ι:Type}{fo:aC}{xs:Array aC}{jK:Array ay}{f:aP}{cap:List C}{cu:List D}{res:ι->D}{σ1:ι->List ba}(d:dK X f cu [] res σ1){c:List D}(i:Ag all φ o=ab)(k:o.op=.call {callee:=.value fo,args:=xs,argTypes:=jK})(l:er (bH φ fo)=aa (f,cap))(hl:iX σ (xs.toList.map (bH φ)++fu cap) c){ps:List Prop}(b:uj c (gp [] cu)=aa ps)(h:au ps)(g:lq 0 cu=ab)(a:∀j,KI (res j)=ab)(e:∀j,zL (σ1 j)=ab)(m:fD N o.dst=ab)(kk:∀j,AK X N Qf (.ops all rest::K) .normal (kV o.dst (res j) φ) (σ++σ1 j)):AK X N Qf (.ops all (o::rest)::K) .normal φ σ:=.RP (oS.oX d i k l hl b h g a e) m kk
def AK.HD[X.gY]{f:aP}(d:dK X f cu [] res σ1)(m p:Nat){u:aj}(l:Ag all φ o=ab)(q:o.op=.call {callee:=.value fo,args:=xs,argTypes:=jK})(r:er (bH φ fo)=aa (f,cap))(t:(xs.toList.map (bH φ)++fu cap)[p]?=aa (.e (.one (.v u))))(hl:gY σ m u k n es)(b:uj ((xs.toList.map (bH φ)++fu cap).set p (.e (.one (.c (.sl ae k n es))))) (gp [] cu)=aa ps)(i:au ps)(h:lq 0 cu=ab)(a:∀j,KI (res j)=ab)(g:∀j,zL (σ1 j)=ab)(s:fD N o.dst=ab)(kk:∀j,AK X N Qf (.ops all rest::K) .normal (kV o.dst (res j) φ) (σ++σ1 j)):AK X N Qf (.ops all (o::rest)::K) .normal φ σ :=
  AK.oX d l q r ((iX.refl _ _).step p m t hl) b i h a g s kk
end
section
variable {X:Cx P}
def oS.OJ{x:ι->D}{σ':ι->List ba}(l:o.guard=af)(h:jk P N o φ σ x σ'):oS X N all o φ σ x σ':=by intro s a f hh b k cs S i rest hb hi hK;refine yF hb hi (dC l) λp d=>?_;have c:=hh.rely d;obtain⟨j,n,s',v,h1,h2,m,g,e,q⟩:=h p a (f.rely d hh) c;exact⟨n,s',v,h1,h2,⟨⟨σ,σ' j,c,g,e⟩,q⟩,hK j v s' m g (d.stepW.trans (e.nT c))⟩
def oS.zR{f:aP}(n:dK X f cu σs res σ1)(ks:List Nat)(y:o.guard=af)(B:o.op=.call {callee:=.value fo,args:=xs,argTypes:=jK})(r:er (bH φ fo)=aa (f,cap))(h:∀s vs,cd σ s vs (xs.toList.map (bH φ)++fu cap)->cd σ s vs (gp ks cu))(u:lq ks.length cu=ab)(t:jB ks σ=aa σs)(D:cx σs=ab)(x:∀j,cx (σ1 j)=ab)(C:dF ks=ab)(v:∀j,bn ks.length (σ1 j).length=ab):
  oS X N all o φ σ (λj=>ij (ks++kW σ.length ((σ1 j).length-ks.length)) (res j)) (λj=>dL ks (σ1 j) σ):=by
 intro s a m hh b kk cs S i rest hb hi hK;have l:=dJ m fo;unfold er at r;split at r
 case h_2=>cases r
 case h_1 f' Kz he =>
  cases r;rw[he]at l;have e:=fp l;generalize A:a.eval fo=fv at e;cases e with
  |fn fs lZ hl Dk f1 f2 h1 h2 r1 r2 =>
   have z:fs=[]:=jo hl;subst z;have k:cd σ s lZ (fu cap):=l4 (λj c hj=>⟨f2 j,h2 j (by grind),r2 j c hj⟩) Dk;have p:cd σ s (xs.toList.map a.eval++lZ) (gp ks cu):=h s _ ((oM (dJ m) xs.toList).append k);obtain⟨fn,q,g,d⟩:=n.1;exact rC hb hi (dC y) hh (λw=>(iK B q g d A w).1) (λw=>(iK B q g d A w).2) n p u t D x C (λj=>dy (v j)) hK
def oS.yo{f:aP}(b:dK X f cu σs res σ1)(ks:List Nat)(i:o.guard=af)(l:o.op=.call {callee:=.value fo,args:=xs,argTypes:=jK})(m:er (bH φ fo)=aa (f,cap))(a:nq (xs.toList.map (bH φ)++fu cap)=gp ks cu)(g:lq ks.length cu=ab)(d:jB ks σ=aa σs)(n:cx σs=ab)(e:∀j,cx (σ1 j)=ab)(k:dF ks=ab)(c:∀j,bn ks.length (σ1 j).length=ab):
  oS X N all o φ σ (λj=>ij (ks++kW σ.length ((σ1 j).length-ks.length)) (res j)) (λj=>dL ks (σ1 j) σ):=.zR b ks i l m (λ_ _ h=>a▸qB h) g d n e k c
def oS.mP{f:aP}(b:dK X f cu σs res σ1)(ks:List Nat)(k:o.guard=af)(m:o.op=.call {callee:=.value fo,args:=xs,argTypes:=jK})(n:er (bH φ fo)=aa (f,cap))(a:uj (xs.toList.map (bH φ)++fu cap) (gp ks cu)=aa ps)(i:au ps)(g:lq ks.length cu=ab)(d:jB ks σ=aa σs)(p:cx σs=ab)(e:∀j,cx (σ1 j)=ab)(l:dF ks=ab)(c:∀j,bn ks.length (σ1 j).length=ab):
  oS X N all o φ σ (λj=>ij (ks++kW σ.length ((σ1 j).length-ks.length)) (res j)) (λj=>dL ks (σ1 j) σ):=.zR b ks k m n (λ_ _ h=>tG a i h) g d p e l c
def jk.fresh(h:kQ P o x y E ie){Z m:Nat}{tx:Bool}{es':Nat->List C}(V:ie.size=k)(Q:bH φ x=.e (.one (.c (.sl ab Z 0 es))))(hy:bH φ y=.e (.one (.c (.sl tx k m es'))))(K:0<m)(hb:m*ie.bytes<=140737488355328)(hgn:∀i,i<m->∀c∈es' i,s8 c=ab):
  jk P N o φ σ (ι:={q:s9×List aj // gZ k m es' q.2}) (λq=>.e (.one (.v (rz q.1.1 m)))) (λq=>σ++[.cp (iv E k q.1.1 m q.1.2)]):=by
 intro s ρ hf hh;obtain⟨t,t2,i,i2,ho,hi,Y,G,I⟩:=h.op;have h1:=dJ hf x;rw[Q]at h1;have n:=Rd.tz (k:=Z) (k':=ie.size) (.inr rfl) (fp h1);have h2:=dJ hf y;rw[hy]at h2;have h2:=fp h2;obtain⟨a,cap,vs,U,BQ,Ky,ht,hF,Lh⟩:=n.flat;have T:cap=0:=ht rfl;subst T;rw[U]at n;have J:Rd s.M (ρ.eval y) (.sl tx ie.size m es'):=by grind
 obtain⟨f,S,g,d,F,R,z,r⟩:=gX (P:=P) (ty:=o.type) hi Y G I h.elem hh n J (by omega) (by grind) h.bytes;have Kw:=ir (P:=P) (ty:=o.type) hi Y G I h.elem hh n J (by omega) (by grind) h.bytes;have e0:cD 0 es es'=es':=by funext i;simp[cD]
 rw[V,bo,e0]at d;rw[V]at z;rw[bo]at F r;have D:gZ k m es' f:=⟨d.len,d.width,λi hi j c hj=>by
  obtain⟨u,L,W⟩:=d.rd i hi j c hj
  grind[oL]⟩
 have A:∀x∈f,cO x=ab:=λx Q=>by
  obtain⟨p,hp,rfl⟩:=dz Q;have hk:0<k:=by grind
  have M3:=d.len;have hi:p / k<m:=rv (by grind);have O:p / k*k+p % k=p:=oz p k;have hj:p % k<(es' (p / k)).length:=by rw[d.width _ hi];exact jy _ hk
  obtain⟨u,L,W⟩:=D.at' _ hi _ _ (bd hj);rw[O,bd hp]at L;cases L;exact(W s.M).cell
 let w':aA:=s.w.drew.alloc (.cells (f++S).toArray E);have hB:eG (σ++[.cp (iv E k (.row s.w.heap.size g) m f)]) {s with w:=w',β:=s.β++[⟨.nilFunc,[s.w.heap.size]⟩]} (.cp (iv E k (.row s.w.heap.size g) m f)) ⟨.nilFunc,[s.w.heap.size]⟩:=by
  refine⟨λB=>if B=s.w.heap.size then aa (.cells (f++S).toArray E (0,0))else af,⟨rfl,A,d.len,F,R,S,z,rfl⟩,λB o l=>?_,λB=>?_,λB l o=>?_⟩
  .by_cases e:B=s.w.heap.size
   .subst e;simp only[bZ]at l;cases l;exact dt s.w.drew _
   grind
  .by_cases e:B=s.w.heap.size<;>simp[e]
  .simp at l;subst l;cases K:s.M s.w.heap.size o with
   |none=>rfl
   |some v=>have:=hh.block K;omega
 have KB:w'.heap.size=s.w.heap.size+1:=by show(s.w.drew.heap.push _).size=_;simp
 have H:aD σ {s with w:=w'}/\Step σ s σ {s with w:=w'} :=
  hh.grow (by omega) (λb hb=>cC s.w.drew _ hb) (λb hb o=>rfl) (λb hb o v K=>by have:=hh.block K;omega) rfl rfl rfl
 obtain⟨g1,g2⟩:=H.1.gC H.2 rfl hh hB (λb hb=>by grind)
 refine⟨⟨(.row s.w.heap.size g,f),D⟩,.value (.slice (aa ⟨s.w.heap.size,0,af⟩) m g),_,_,?_,.inl rfl,Rd.val rfl,g1,g2,?_⟩
 .rw[cW ho,U];simp[r];rfl
 grind[cW,dX]
def AK.fresh{x y:aC}{E:ay}{ie:TI}(h:kQ P o x y E ie){n k m:Nat}{tx:Bool}{es es':Nat->List C}(d:ie.size=k)(l:bH φ x=.e (.one (.c (.sl ab n 0 es))))(b:bH φ y=.e (.one (.c (.sl tx k m es'))))(g:0<m)(hb:m*ie.bytes<=140737488355328)(a:∀i,i<m->∀c∈es' i,s8 c=ab)(f:o.guard=af)(j:fD N o.dst=ab)(kk:∀q:{q:s9×List aj // gZ k m es' q.2},AK X N Qf (.ops all rest::K) .normal (kV o.dst (.e (.one (.v (rz q.1.1 m)))) φ) (σ++[.cp (iv E k q.1.1 m q.1.2)])):AK X N Qf (.ops all (o::rest)::K) .normal φ σ :=
 AK.hand _ _ f j (jk.fresh h d l b g hb a) kk
def AK.spare(E:ay)(k:Nat)(kk:AK X N Qf (.code c::K) .normal φ (σ++[.cp (iv E k (.nil af) 0 [])])):AK X N Qf (.code c::K) .normal φ σ:=by refine AK.ghost (λs a d hh=>?_) kk;obtain⟨e,b⟩:=hh.gC (B:=.cp (iv E k (.nil af) 0 [])) (L:=⟨.nilFunc,[]⟩) (.refl _ _) rfl hh ⟨λ_=>af,⟨rfl,by simp,by simp,rfl,rfl⟩,by simp,by simp,by simp⟩ (by simp);exact⟨{s with β:=s.β++[⟨.nilFunc,[]⟩]},rfl,⟨d.size,d.defers.imp λ_ h1=>h1.mono b.ext,λu=>(d.slot u).mono b.ext hh.len⟩,e,b⟩
end
def uk(l k n:Nat)(es:Nat->List C):A->A×List Prop
 |.bp l' (.sl g k' o m)=>match av l' l with
  |true=>match av k' k with
   |true=>(.c (.sl ae k m (um o es)),[g=n,o+m<=n])
   |false=>(.bp l' (.sl g k' o m),[])
  |false=>(.bp l' (.sl g k' o m),[])
 |a=>(a,[])
def mQ(l k n:Nat)(es:Nat->List C):List A->List A×List Prop
 |[]=>([],[])
 |a::r=>match uk l k n es a with
  |(a',p)=>match mQ l k n es r with
   |(r',q)=>(a'::r',jC p q)
def BV(l k n:Nat)(es:Nat->List C):E1->E1×List Prop
 |.one a=>match uk l k n es a with|(a',p)=>(.one a',p)
 |.agg cs=>match mQ l k n es cs with|(b,p)=>(.agg b,p)
def BW(l k n:Nat)(es:Nat->List C):D->D×List Prop
 |.e x=>match BV l k n es x with|(a,p)=>(.e a,p)
 |d=>(d,[])
def uo(l k n:Nat)(es:Nat->List C):Fr->Fr×List Prop
 |[]=>([],[])
 |(t,d)::r=>match BW l k n es d with
  |(a,p)=>match uo l k n es r with
   |(r',q)=>((t,a)::r',jC p q)
def gi(l k n:Nat)(es:Nat->List C):Nat->List ba->List ba×List Prop
 |_,[]=>([],[])
 |i,b::r=>match gi l k n es (i+1) r with
  |(r',q)=>match av i l with
   |true=>(.dead::r',q)
   |false=>match b with
    |.cells E cs=>match mQ l k n es cs with|(a,p)=>(.cells E a::r',jC p q)
    |b=>(b::r',q)
section
variable {s2:St}{E:Nat}
structure iy(σ:List ba)(s:St)(l k n:Nat)(es:Nat->List C)(σ':List ba)(s2:St):Prop where
 keep:∀v a,fU σ s v a->fU σ' s2 v a
 GV:∀v k' o m,fU σ s v (.bp l (.sl n k' o m))->k'=k->o+m<=n->Rd s2.M v (.sl ae k m (um o es))
def iy.a(h:iy σ s l k n es σ' s2){v:aj}{a:A}(b:au (uk l k n es a).2)(r:fU σ s v a):fU σ' s2 v (uk l k n es a).1:=by
 unfold uk at b⊢;split
 .rename_i l' g k' o m;split
  .rename_i e1;split
   .rename_i e2;simp only[e1,e2]at b;have e1:=bT e1;have e2:=bT e2;subst e1;obtain⟨rfl,h2⟩:g=n/\o+m<=n:=b;exact h.GV v _ _ _ r e2 h2
   .exact h.keep v _ r
  .exact h.keep v _ r
 .exact h.keep v _ r
def iy.ls(h:iy σ s l k n es σ' s2):∀{vs:List aj}{cs:List A},au (mQ l k n es cs).2->dH σ s vs cs->dH σ' s2 vs (mQ l k n es cs).1
 |[],[],_,_=>trivial
 |[],_::_,_,r=>r.elim
 |_::_,[],_,r=>r.elim
 |v::vs,c::cs,b,r=>by simp only[mQ]at b⊢;rw[au.cat]at b;exact⟨h.a b.1 r.1,h.ls b.2 r.2⟩
def iy.e(h:iy σ s l k n es σ' s2){x:E1}(b:au (BV l k n es x).2)(r:mE σ s v x):mE σ' s2 v (BV l k n es x).1:=by
 cases x with
 |one a=>exact h.a b r
 |agg cs=>obtain⟨vs,d,c⟩:=r;exact⟨vs,d,h.ls b c⟩
def iy.d(h:iy σ s l k n es σ' s2)(hl:s.β.length=σ.length)(b:Ext σ s σ' s2){v:aj}{d:D}(a:au (BW l k n es d).2)(r:dc σ s v d):dc σ' s2 v (BW l k n es d).1:=by
 cases d with
 |e x=>exact h.e a r
 |fe xs=>exact r.mono b hl
 |any=>trivial
def iy.f(h:iy σ s l k n es σ' s2)(hl:s.β.length=σ.length)(c:Ext σ s σ' s2):∀{φ:Fr}{t:Nat}{v:aj},au (uo l k n es φ).2->dc σ s v (look φ t)->dc σ' s2 v (look (uo l k n es φ).1 t)
 |[],_,_,_,_=>trivial
 |(u,d)::r,t,v,b,a=>by
  simp only[uo]at b⊢;rw[au.cat]at b;simp only[look]at a⊢;cases hb:av u t with
  |true=>rw[hb]at a;exact h.d hl c b.1 a
  |false=>rw[hb]at a;exact h.f hl c b.2 a
theorem pR:∀{σ:List ba}{i j:Nat},(gi l k n es i σ).1[j]?=match σ[j]? with
  |none=>af
  |some b=>aa (match av (i+j) l with|true=>.dead|false=>match b with|.cells E cs=>.cells E (mQ l k n es cs).1|b=>b)
 |[],i,j=>by simp[gi]
 |b::r,i,0=>by simp only[gi,gT,j4];grind
 |b::r,i,j+1=>by
  have a:=pR (σ:=r) (i:=i+1) (j:=j);have e:i+1+j=i+(j+1):=by omega
  rw[e]at a;simp only[gi,mF];grind
def uq:∀{σ:List ba}{i j:Nat}{E:ay}{cs:List A},au (gi l k n es i σ).2->σ[j]?=aa (.cells E cs)->i+j≠l->au (mQ l k n es cs).2
 |[],i,j,_,_,_,a,_=>by grind
 |b::r,i,0,E,cs,d,a,c=>by simp at a;subst a;simp only[gi]at d;grind[Nat.eq_of_beq_eq_true,au.cat]
 |b::r,i,j+1,E,cs,d,a,c=>by simp at a;refine uq (σ:=r) (i:=i+1) (j:=j) ?_ a (by omega);simp only[gi]at d;grind[au.cat]
theorem pT:∀{σ:List ba}{i:Nat},(gi l k n es i σ).1.length=σ.length
 |[],_=>rfl
 |b::r,i=>by simp only[gi];have a:=pT (σ:=r) (i:=i+1);grind
def aD.ur(hh:aD σ s)(F:σ[l]?=aa (.buf E k n es))(hq:au (gi l k n es 0 σ).2):
  ∃s2:St,s2.w=s.w/\aD (gi l k n es 0 σ).1 s2/\Step σ s (gi l k n es 0 σ).1 s2/\iy σ s l k n es (gi l k n es 0 σ).1 s2:=by
 have D:l<σ.length:=(b8.1 F).1;have R:s.β[l]?=aa (s.β[l]'(by rw[hh.len];exact D)):=bd _;generalize s.β[l]'(by grind)=L at R;have I:=hh.box _ _ L F R;obtain⟨M',m1,m2,m3,m4⟩:∃M':Mem,(∀b o v,s.M b o=aa v->M' b o=aa v)/\(∀b,b∉L.bs->∀o,M' b o=s.M b o)/\(∀b o v,M' b o=aa v->s.w.cell? ⟨b,o,af⟩=aa v) /\
   (∀v k' o m,fU σ s v (.bp l (.sl n k' o m))->k'=k->o+m<=n->Rd M' v (.sl ae k m (um o es))):=by
  rcases I with⟨rfl,rfl⟩|⟨b,c0,vs,zs,rfl,hw,BK,Uk,Ky,Y,hM⟩
  .refine⟨s.M,λ_ _ _ h=>h,λ_ _ _=>rfl,hh.mem,λv k' o m r e A=>?_⟩;obtain⟨lv,⟨a,a0,cap,c0,y,h1,h2,G,J,Q⟩,_,V⟩:=r;grind[Rd.iV]
  .let M':Mem:=λq o=>if q=b then vs[o]? else s.M q o;have W:∀q o v,s.M q o=aa v->M' q o=aa v:=λq o v y=>by grind
   refine⟨M',W,λq oH o=>?_,λq o v y=>?_,λv k' o m r e A=>?_⟩
   .grind
   .by_cases e:q=b
    .subst e;simp only[M',bZ]at y;simp only[aU,hw];grind
    .simp only[M',e,bJ]at y;exact hh.mem q o v y
   .subst e;obtain⟨lv,⟨a,a0,cap,c1,y,h1,h2,G,J,Q⟩,_,V⟩:=r;obtain⟨L',f,K⟩:=(V _ _ _ _ F).2 rfl;rw[R]at f;cases f;rw[J]at K;cases K;rw[y];have g:∀i,i<m->∀j c,(um o es i)[j]?=aa c->∃u,vs[(o+i)*k'+j]?=aa u/\Rd s.M u c:=λi hi j c hj=>by rw[tH]at hj;exact Y.rd (o+i) (by omega) j c hj
    refine .sl b (o*k') (λi j=>(vs[(o+i)*k'+j]?).getD ah) h1 (by omega) (by simp) (λi hi=>by rw[tH];exact Y.width _ (by omega)) (λhm=>?_) (λi hi j c hj=>?_) (λi hi j c hj=>?_)
    .grind
    .grind
    .obtain⟨u,u1,u2⟩:=g i hi j c hj;rw[u1];exact u2.mono W
 obtain⟨C,q2⟩:=hh.gV (M':=M') (w':=s.w) (B':=.dead) (L':=⟨L.v,[]⟩) F R ar (aZ _) (λ_ _ _=>rfl) (λb _ hb o=>m2 b hb o) m1 m3 (by simp) rfl rfl rfl ar;let s2:St:=⟨s.β.set l ⟨L.v,[]⟩,M',s.w,s.own⟩
 have g:∀i B,σ[i]?=aa B->i≠l->(gi l k n es 0 σ).1[i]?=aa (match B with|.cells E cs=>.cells E (mQ l k n es cs).1|b=>b):=λi B hi zC=>by grind[pR,Nat.eq_of_beq_eq_true]
 have H:(gi l k n es 0 σ).1[l]?=aa .dead:=by
  rw[pR,F];have:av (0+l) l=ab:=by rw[bo];exact j9 l
  grind
 have uu:Step (σ.set l .dead) s2 (gi l k n es 0 σ).1 s2:=by
  refine⟨aZ _,λ_ _ _=>rfl,λ_ _ _ h=>h,λ_ _ _ _=>rfl,λL' f b hb=>.inr ⟨L',f,hb⟩,λi B L' hi f=>?_,rfl,rfl,rfl,rfl⟩;by_cases e:i=l
  .subst e;rw[fJ D]at hi;cases hi;exact⟨.dead,L',H,f,rfl⟩
  .rw[j5 (λh=>e h.symm)]at hi;refine⟨_,L',g i B hi e,f,?_⟩;cases B<;>first|exact hX.refl _ _|rfl
 have st:=q2.trans uu;have Z:iy σ s l k n es (gi l k n es 0 σ).1 s2:=⟨λv a r=>r.mono st.ext hh.len,λv k' o m r e A=>m4 v k' o m r e A⟩
 refine⟨s2,rfl,⟨C.mem,by rw[pT,<-hh.len];grind,λi B L' hi f=>?_,C.eH,C.lt,C.own⟩,st,Z⟩;by_cases e:i=l
 .subst e;rw[H]at hi;cases hi;trivial
 .have z:i<σ.length:=by grind[pT]
  have x:=bd z;have U:s.β[i]?=aa L':=by grind
  have T:=hh.box i _ L' x U;have p:=C.box i _ L' (by rw[j5 (λh=>e h.symm)];exact x) f;have d:=g i _ x e;rw[hi]at d;have d:=qm d;generalize hBe:σ[i]=B0 at *;cases B0 with
  |cells E0 cs =>
   subst d;obtain⟨b,vs,h1,h2,G,Q⟩:=T;obtain⟨q,Uq,O,Ur,_,S⟩:=p;rw[h1]at O;cases O;exact⟨b,vs,h1,h2,Z.ls (uq hq x (by omega)) G,S⟩
  |vec=>subst d;exact p
  |cp=>subst d;exact p
  |dead=>subst d;trivial
  |loop N φ r =>
   subst d;obtain⟨l1,tmps,fn,df,h1,h2,G,Q,h5⟩:=p;exact⟨l1,tmps,fn,df,h1,h2,G,λt=>(Q t).mono uu.ext C.len,h5⟩
  |pK=>subst d;exact p
  |buf=>subst d;exact p
end
section
variable {X:Cx P}{φ':Fr}
def AK.ur(l:Nat){E k n:Nat}{es:Nat->List C}{ps qs:List Prop}(hl:eh l σ=aa (.buf E k n es))(i:uo l k n es φ=(φ',ps))(d:gi l k n es 0 σ=(σ',qs))(m:au ps)(j:au qs)(kk:AK X N Qf (.code c::K) .normal φ' σ'):AK X N Qf (.code c::K) .normal φ σ:=by refine AK.ghost (λs a e hh=>?_) kk;obtain⟨s2,h1,h2,b,g⟩:=hh.ur (cT hl) (by grind);rw[d]at h2 b g;refine⟨s2,h1,⟨e.size,e.defers.imp λ_ h=>h.mono b.ext,λt=>?_⟩,h2,b⟩;have:=g.f hh.len b.ext (φ:=φ) (t:=t) (by grind) (e.slot t);grind
end
def fb(a:Nat->Option Obj):Mem:=λb o=>match a b with
 |some (.cells cs _ _)=>cs[o]?
 |_=>af
def PM(K:Mem->Prop):aj->(Nat->Option Obj)->Prop:=λu a=>u=.nilFunc/\(∀b o,a b=aa o->∃cs E,o=.cells cs E (0,0))/\K (fb a)
section
variable {X:Cx P}{d:List It}
def AK.merge(i j:Nat){H1 H2:aj->(Nat->Option Obj)->Prop}(T:i≠j)(hi:σ[i]?=aa (.cp H1))(hj:σ[j]?=aa (.cp H2))(h1:∀v ch,H1 v ch->v=.nilFunc)(h:∀v f v2 k,H1 v f->H2 v2 k->(∀b,(f b).isSome=ab->(k b).isSome=ab->False)->H .nilFunc λb=>(f b).or (k b))(kk:AK X N Qf (.code c::d) .normal φ ((σ.set i (.cp H)).set j .dead)):AK X N Qf (.code c::d) .normal φ σ:=by
 refine AK.ghost (λs a V hh=>?_) kk;have Y:i<σ.length:=(b8.1 hi).1;have W:j<σ.length:=(b8.1 hj).1;have G:i<s.β.length:=by rw[hh.len];grind
 have E:j<s.β.length:=by rw[hh.len];grind
 obtain⟨z,m⟩:∃L,s.β[i]?=aa L:=⟨_,bd G⟩;obtain⟨p,n⟩:∃L,s.β[j]?=aa L:=⟨_,bd E⟩;have Z:=hh.box i _ z hi m;have bj:=hh.box j _ p hj n;have vi:z.v=.nilFunc:=by obtain⟨ch,hH,_⟩:=Z;grind
 let s':St:={s with β:=(s.β.set i ⟨.nilFunc,z.bs++p.bs⟩).set j ⟨p.v,[]⟩}
 have F:∀l,((σ.set i (.cp H)).set j .dead)[l]?=if l=j then aa .dead else if l=i then aa (.cp H)else σ[l]?:=λl=>by grind
 have C:∀l,s'.β[l]?=if l=j then aa ⟨p.v,[]⟩else if l=i then aa ⟨.nilFunc,z.bs++p.bs⟩else s.β[l]?:=λl=>by grind
 have mi:=bD m;have mj:=bD n;have M:∀L∈s'.β,∀b∈L.bs,∃y∈s.β,b∈y.bs:=λL g b hb=>by grind
 have ex:Ext σ s ((σ.set i (.cp H)).set j .dead) s':=by
  refine⟨λ_ _ _ h=>h,λl B L r g=>?_⟩;rw[F,C];by_cases e:l=j
  .subst e;rw[hj]at r;cases r;rw[n]at g;cases g;exact⟨.dead,⟨p.v,[]⟩,by simp,by simp,rfl⟩
  .by_cases I:l=i
   .subst I;rw[hi]at r;cases r;rw[m]at g;cases g;exact⟨.cp H,⟨.nilFunc,z.bs++p.bs⟩,by simp[e],by simp[e],vi.symm⟩
   .exact⟨B,L,by grind,by grind,.refl _ _⟩
 have st:Step σ s ((σ.set i (.cp H)).set j .dead) s' :=
  ⟨aZ _,λ_ _ _=>rfl,λ_ _ _ h=>h,λ_ _ _ _=>rfl,λL h b hb=>.inr (M L h b hb),ex.box,rfl,rfl,rfl,rfl⟩
 obtain⟨f,a1,a2,a3,a4⟩:=Z;obtain⟨k,b1,b2,b3,b4⟩:=bj;have U:∀b,(f b).isSome=ab->(k b).isSome=ab->False:=λb K J=>T (hh.eH i j z p m n b ((a3 b).2 K) ((b3 b).2 J));refine⟨s',rfl,⟨V.size,V.defers.imp λ_ h1=>h1.mono ex,λu=>(V.slot u).mono ex hh.len⟩,⟨hh.mem,by simp[s',hh.len],?_,?_,λL g b hb=>?_,λb hb=>⟨(hh.own b hb).1,λL g S=>?_⟩⟩,st⟩
 .intro l B L r g;rw[F]at r;rw[C]at g;split at r
  .cases r;trivial
  .rename_i e;rw[bh e]at g;split at r
   .rename_i I;rw[bt I]at g;cases r;cases g;refine⟨λb=>(f b).or (k b),h _ f _ k a1 b1 U,λb o hb=>?_,λb=>?_,λb hb o=>?_⟩
    .cases h1:f b with
     |some x=>grind
     |none=>grind
    .grind
    grind
   .rename_i I;rw[bh I]at g;exact(hh.box l B L r g).carry ex hh.len λb hb=>⟨rfl,λ_=>rfl⟩
 .intro l l' L1 L2 K J b hb oH;rw[C]at K J;have key:∀l L,(if l=j then aa (⟨p.v,[]⟩:Loc)else if l=i then aa ⟨.nilFunc,z.bs++p.bs⟩else s.β[l]?)=aa L->b∈L.bs->(l=i/\(b∈z.bs∨b∈p.bs))∨(l≠i/\l≠j/\∃y,s.β[l]?=aa y/\b∈y.bs):=λl L q hb=>by
   split at q
   .grind
   .split at q
    .grind
    grind
  rcases key l L1 K hb with⟨e1,t⟩|⟨n1,R,L3,t,D⟩<;>rcases key l' L2 J oH with⟨e2,w⟩|⟨n2,O,L4,w,A⟩
  .grind
  .rcases t with t|t
   .exact absurd (hh.eH _ _ _ _ m w b t A).symm n2
   .exact absurd (hh.eH _ _ _ _ n w b t A).symm O
  .rcases w with w|w
   .exact absurd (hh.eH _ _ _ _ m t b w D).symm n1
   .exact absurd (hh.eH _ _ _ _ n t b w D).symm R
  .exact hh.eH _ _ _ _ t w b D A
 .obtain⟨y,Q,h1⟩:=M L g b hb;exact hh.lt y Q b h1
 .obtain⟨y,Q,h1⟩:=M L g b S;exact(hh.own b hb).2 y Q h1
def u6(M M':Mem):Prop:=∀b o v,M b o=aa v->M' b o=aa v
def PM.add{K s:Mem->Prop}{bf:s9}{xs:List aj}(m:∀M M',u6 M M'->K M->(∀b cap,bf=.row b cap->∀j v,xs[j]?=aa v->M' b j=aa v)->s M'):
  ∀v c t f,PM K v c->iv E k bf n xs t f->(∀b,(c b).isSome=ab->(f b).isSome=ab->False)->PM s .nilFunc λb=>(c b).or (f b):=by
 rintro v c t f ⟨_,h2,p⟩ q A;have g:u6 (fb c) (fb λb=>(c b).or (f b)):=λb o v i=>by
  cases h:c b with
  |none=>simp[fb,h]at i
  |some x=>simpa[fb,h]using i
 cases bf with
 |nil a =>
  obtain⟨_,_,_,_,rfl⟩:=q;exact⟨rfl,λb o hb=>h2 b o (by grind),m _ _ g p λb cap e=>by cases e⟩
 |row b cap =>
  obtain⟨_,y,q3,q4,w,B,z,rfl⟩:=q;refine⟨rfl,λr o hb=>?_,m _ _ g p λr l e j v hj=>?_⟩
  .cases h:c r with
   |some x=>grind
   |none =>
    grind
  .cases e;have u:c b=af:=by
    cases h:c b with
    |none=>rfl
    |some x=>grind
   have hl:j<xs.length:=(b8.1 hj).1;simp only[fb,u,Option.none_or,bZ];grind
def PM.start{xs:List aj}{a:Option Addr}{K:Mem->Prop}(c:∀M,K M):∀v ch,iv E k (.nil a) n xs v ch->PM K v ch:=by rintro v ch ⟨h1,_,_,_,rfl⟩;exact⟨h1,λb o hb=>by grind,c _⟩
def PM.Du{c:Nat}{K:Mem->Prop}{u:aj}(hl:σ[c]?=aa (.cp (PM K)))(m:∀M,K M->Rd M u (.sl ae k n es)):gY σ c u k n es:=by
 intro s hh;have e:c<s.β.length:=by rw[hh.len];grind
 have g:=bd e;generalize s.β[c]=L at g;obtain⟨ch,⟨h1,h2,l⟩,j,i,p⟩:=hh.box c _ L hl g;have f:∀b o v,fb ch b o=aa v->b∈L.bs/\s.w.cell? ⟨b,o,af⟩=aa v:=λb o v a=>by
  cases h:ch b with
  |none=>simp[fb,h]at a
  |some x =>
   obtain⟨cs,E,rfl⟩:=h2 b x h;have q:=j b _ h;simp only[fb,h]at a;exact⟨(i b).2 (by simp[h]),by simpa[aU,q]using a⟩
 refine⟨L,λb o=>(s.M b o).or (fb ch b o),g,λb o v a=>by grind,λb hb o=>?_,λb o v a=>?_,p,(m _ l).mono λb o v a=>?_⟩
 .cases h:fb ch b o with
  |none=>simp[h]
  |some v=>grind
 .cases h:s.M b o with
  |some v'=>simp only[h,Option.some_or]at a;cases a;exact hh.mem b o v h
  |none=>grind
 grind
def iv.RU{bf:s9}{xs:List aj}(hl:σ[l]?=aa (.cp (iv E k bf n xs)))(g:0<n)(s:St)(hh:aD σ s):∃b cap,bf=.row b cap/\n<=cap/\cap<=9223372036854775807:=by
 have c:l<s.β.length:=by rw[hh.len];grind
 obtain⟨ch,e,_⟩:=hh.box l _ _ hl (bd c);cases bf with
 |nil a=>obtain⟨_,_,_,f,_⟩:=e;omega
 |row b cap=>obtain⟨_,_,_,f,h,_⟩:=e;grind
end
section
variable {X:Cx P}
def dK.zE{f:aP}{args:List D}{a b:C}{ok:Bool}{es:ι->Nat->List C}{K:ι->Mem->Prop}(es':Nat->List C)(h:dK X f args [] (λ_=>.fe [.agg [.bp 0 (.sl n k 0 n),.c a,.c b],.one (.c (.bool ok))]) (λi=>[.buf E k n (es i),.cp (PM (K i))]))(hK:∀i M M',u6 M M'->K i M->K i M')(z:∀i M,K i M->∀j,j<n->(es' j).length=k/\∀(p:Nat) (c:C),(es' j)[p]?=aa c->∃T,(es i j)[p]?=aa T/\∀v M0,Rd M0 v T->Rd M v c):
  dK (ι:=aj) X f args [] (λv=>.fe [.agg [.c (.val v),.c a,.c b],.one (.c (.bool ok))]) (λv=>[.dead,.cp (PM λM=>Rd M v (.sl ae k n es'))]):=by
 refine⟨h.1,λs vs hr hh S cs hS=>h.2 s vs hr hh S cs λi fr v s' hl l5 iQ st=>?_⟩;have hlen:s'.β.length=2:=iQ.len;obtain⟨t,L1,R⟩:∃t L1,s'.β=[t,L1]:=by
  match hq:s'.β with
  |[A,B]=>grind
  |[]=>grind
  |[_]=>grind
  |_::_::_::_=>grind
 have Q:s'.β[0]?=aa t:=by grind
 have g1:s'.β[1]?=aa L1:=by grind
 obtain⟨ch,⟨p1,p2,p3⟩,p4,p5,p6⟩:=iQ.box 1 _ L1 rfl g1;have b0:=iQ.box 0 _ t rfl Q;obtain⟨ws,rfl,hw⟩:=l5
 match ws,hw with
 |[w0,w1],⟨G,F,_⟩ =>
 obtain⟨us,rfl,J⟩:=G
 match us,J with
 |[u0,u1,u2],⟨H,V,I,_⟩ =>
 obtain⟨lv,⟨a',a0,cap,T,rfl,k1,k2,k3,k4,k5⟩,_,O⟩:=H;obtain⟨_,O⟩:=O E k n (es i) rfl;obtain⟨L0',e0,e1⟩:=O rfl;rw[Q]at e0;cases e0;rw[k4]at e1;have ZJ:∀x,x∈t.bs->x∈L1.bs->False:=λx h1 h2=>absurd (iQ.eH 0 1 t L1 Q g1 x h1 h2) (by decide);obtain⟨m,q1,q2,q3,q4⟩:∃m:Nat->Option Obj,(∀x o,m x=aa o->s'.w.heap[x]?=aa o/\∃cs E,o=.cells cs E (0,0))/\(∀x,x∈t.bs↔(m x).isSome=ab)/\(∀x∈t.bs,∀o,s'.M x o=af) /\
   (∀d,(∀x,(m x).isSome=ab->d x=m x)->K i (fb d)->Rd (fb d) (.slice a' n cap) (.sl ae k n es')):=by
  rcases b0 with⟨rfl,rfl⟩|⟨bb,c1,xs,zs,rfl,z1,z2,z3,z4,z5,z6⟩
  .exact⟨λ_=>af,by simp,by simp,by simp,λd _ _=>.sl 0 0 (λ_ _=>ah) k1 (by omega) (λh=>by cases h) (λi hi=>by omega) (λh=>by omega) (λi hi=>by omega) λi hi=>by omega⟩
  .cases e1;refine⟨λx=>if x=bb then aa (.cells (xs++zs).toArray E (0,0))else af,λx o g=>?_,λx=>by by_cases e:x=bb<;>simp[e],λx g o=>?_,λd hc N=>?_⟩
   .grind
   .grind
   .have W:d bb=aa (.cells (xs++zs).toArray E (0,0)):=by grind
    refine .sl bb 0 (λi' j'=>xs.getD (i'*k+j') ah) k1 (by omega) (λh=>by cases h) (λj hj=>(z i _ N j hj).1) (λh=>?_) (λj hj p c hp=>?_) λj hj p c hp=>?_
    .grind
    .obtain⟨c2,h1,h2⟩:=(z i _ N j hj).2 p c hp;obtain⟨v,v1,v2⟩:=z5.rd j hj p c2 h1;have uc:=(b8.1 v1).1;simp only[fb,W,gO,bo];grind
    .obtain⟨c2,h1,h2⟩:=(z i _ N j hj).2 p c hp;obtain⟨v,v1,v2⟩:=z5.rd j hj p c2 h1;grind
 let d:Nat->Option Obj:=λx=>(ch x).or (m x);have U:∀x,(m x).isSome=ab->d x=m x:=λx g=>by
  have:ch x=af:=by
   cases h:ch x with
   |none=>rfl
   |some y=>grind
  grind
 have Z:u6 (fb ch) (fb d):=λx o v hv=>by
  cases h:ch x with
  |none=>simp[fb,h]at hv
  |some y=>simpa[fb,h,d]using hv
 let s2:St:={s' with β:=[⟨t.v,[]⟩,⟨.nilFunc,L1.bs++t.bs⟩]}
 have r:∀L∈s2.β,∀x∈L.bs,∃L'∈s'.β,x∈L'.bs:=λL q x g=>by rw[R];simp only[s2,dD,oA,or_false]at q;grind
 have hG:ey s' s2:=⟨rfl,λ_ _ _ h=>h,λ_ _ _=>rfl,iQ.mem,λx g=>g.imp id λ⟨L,q,g⟩=>r L q x g⟩
 refine .ghost hG (hS (.slice a' n cap) fr _ s2 (hl.mono λ_ _ _ h=>h) ⟨_,rfl,⟨_,rfl,Rd.val rfl,V,I,ar⟩,F,ar⟩ ⟨iQ.mem,rfl,λl B L u q=>?_,λl l' A B h1 h2 x g Nk=>?_,λL q x g=>?_,λx g=>⟨(iQ.own x g).1,λL q Y=>?_⟩⟩
  ⟨st.size,st.keep,st.mem,λx g hn o=>st.iq x g hn o,λL q x g=>?_,λl B L u=>by grind,st.os,st.tape,st.output,st.own⟩)
 .match l,u,q with
  |0,u,q=>cases u;trivial
  |1,u,q =>
   cases u;cases q;refine⟨d,⟨rfl,λx o g=>?_,q4 d U (hK i _ _ Z p3)⟩,λx o g=>?_,λx=>?_,λx g o=>?_⟩
   .cases h:ch x with
    |some y=>simp only[d,h,Option.some_or]at g;exact p2 x o (h.trans g)
    |none=>simp only[d,h,Option.none_or]at g;exact(q1 x o g).2
   .cases h:ch x with
    |some y=>grind
    |none=>grind
   .grind
   grind
  |l+2,u,q=>grind
 .match l,l',h1,h2 with
  |0,0,_,_=>rfl
  |1,1,_,_=>rfl
  |0,1,h1,_=>grind
  |1,0,_,h2=>grind
  |l+2,_,h1,_=>grind
  |_,l+2,_,h2=>grind
 .obtain⟨L',h1,h2⟩:=r L q x g;exact iQ.lt L' h1 x h2
 .obtain⟨L',h1,h2⟩:=r L q x Y;exact(iQ.own x g).2 L' h1 h2
 .obtain⟨L',h1,h2⟩:=r L q x g;exact st.tB L' h1 x h2
end
section
variable {X:Cx P}{c:Type}{x:c->Nat->D}{S:c->(Nat->Bool)->List ba}{Inv:c->(Nat->Bool)->Prop}
def gL(X:Cx P)(N:Nat)(all:List aB)(φ:Fr){c:Type}(x:c->Nat->D)(S:c->(Nat->Bool)->List ba)(Inv:c->(Nat->Bool)->Prop)(i:Nat)(o:aB):Prop :=
 ∀b (D:Nat->Bool),Inv b D->(∀j,fM all i j=ab->D j=ab)->(∀j,(j=i∨fM all j i=ab)->D j=ae)->oS X N all o (kC all φ (x b) i) (S b D) (λq:{a:c // (∀j,D j=ab->x a j=x b j)/\Inv a (fg i D)}=>x q.1 i) (λq=>S q.1 (fg i D))
def Hg{P:aK}(X:Cx P)(N:Nat)(all:List aB)(φ:Fr){c:Type}(x:c->Nat->D)(S:c->(Nat->Bool)->List ba)(Inv:c->(Nat->Bool)->Prop):List aB->Nat->Prop
 |[],_=>True
 |o::r,i=>gL X N all φ x S Inv i o/\Hg X N all φ x S Inv r (i+1)
theorem Hg.get{all:List aB}:∀{l:List aB}{k:Nat},Hg X N all φ x S Inv l k->∀i o,l[i]?=aa o->gL X N all φ x S Inv (k+i) o
 |[],_,_,i,o,h=>by grind
 |p::r,k,h,0,o,a=>by simp at a;subst a;exact h.1
 |p::r,k,h,i+1,o,a=>by have:=Hg.get h.2 i o (by grind);grind
def AK.OC{id:Nat}(q:P.follows Departure.mixedOrders=ab)(x:c->Nat->D)(S:c->(Nat->Bool)->List ba)(Inv:c->(Nat->Bool)->Prop)(d:c)(j:Inv d λ_=>ae)(p:S d (λ_=>ae)=σ)(e:ma ops.toList=ab)(b:sD ops.toList 0=ab)(g:n6 N ops.toList=ab)(one:Hg X N ops.toList φ x S Inv ops.toList 0)(k:∀a D,Inv a D->(∀i,i<ops.toList.length->D i=ab)->AK X N Qf K .normal (K9 ops.toList φ (x a)) (S a D)):AK X N Qf (.code (.region id ops ab)::K) .normal φ σ:=by
 have:=AW.reg (X:=X) (N:=N) (φ:=φ) (σ:=σ) q (all:=ops.toList) ops.toList.length x S Inv d j p e b g (aZ _)
  (λi h1 h2=>absurd h2 (ly.2 h1)) (λa D _ _ i h1 h2=>absurd h2 (ly.2 h1))
  (λa D i o m n _ l f h=>by have h1:=one.get i o n;rw[bo]at h1;exact h1 a D m (uJ h i o n f) (DJ h l))
  (Q:=AK X N Qf K) (λa D m r=>by rw[tv];exact .nil (k a D m r)) id
 rw[pE]at this;exact this
theorem gL.of(h:∀d (D:Nat->Bool),Inv d D->(∀j,fM all i j=ab->D j=ab)->(∀j,(j=i∨fM all j i=ab)->D j=ae)->Inv d (fg i D)/\OA X N all o (kC all φ (x d) i) (S d D) (x d i) (S d (fg i D))):gL X N all φ x S Inv i o:=by intro d D e h1 h2 s a f hh b k cs SS idx rest hb hi hK;obtain⟨g,l⟩:=h d D e h1 h2;exact l s a f hh b k cs SS idx rest hb hi λv s' r1 r2 r3=>hK ⟨d,λ_ _=>rfl,g⟩ v s' r1 r2 r3
def gL.YS(h:∀e (D:Nat->Bool),Inv e D->(∀j,fM all i j=ab->D j=ab)->(∀j,(j=i∨fM all j i=ab)->D j=ae) ->
  ∃(ι:Type) (y:ι->Go.AM.D) (σ':ι->List ba),oS X N all o (kC all φ (x e) i) (S e D) y σ'/\∀j,∃d,((∀q,D q=ab->x d q=x e q)/\Inv d (fg i D))/\y j=x d i/\σ' j=S d (fg i D)):gL X N all φ x S Inv i o:=by intro e D g h1 h2 s a f hh b k cs SS idx rest hb hi hK;obtain⟨ι,y,σ',n,l⟩:=h e D g h1 h2;refine n s a f hh b k cs SS idx rest hb hi λj v s' r1 r2 r3=>?_;obtain⟨d,m,p2,p3⟩:=l j;rw[p2]at r1;rw[p3]at r1 r2 r3;exact hK ⟨d,m⟩ v s' r1 r2 r3
end
section
variable {X:Cx P}{x:Option ι->Nat->D}{s:Option ι->Bool->Bool->Bool->List ba}{m f e d:Nat}
abbrev SO(s:Option ι->Bool->Bool->Bool->List ba)(f e d:Nat):Option ι->(Nat->Bool)->List ba:=λa D=>s a (D f) (D e) (D d)
abbrev uK(ι:Type)(m:Nat):Option ι->(Nat->Bool)->Prop:=λa D=>a.isSome=D m
def gL.quiet(j:av m i=ae)(h1:av f i=ae)(h2:av e i=ae)(k:av d i=ae)(h:∀g a b c,OA X N all o (kC all φ (x g) i) (s g a b c) (x g i) (s g a b c)):
  gL X N all φ x (SO s f e d) (uK ι m) i o:=by grind[gL.of,pV]
def gL.OD(r:av m i=ae)(h1:av f i=ae)(h2:av e i=ae)(l:av d i=ae)(n:fM all i m=ab)(h:∀j a b c,OA X N all o (kC all φ (x (aa j)) i) (s (aa j) a b c) (x (aa j) i) (s (aa j) a b c)):
  gL X N all φ x (SO s f e d) (uK ι m) i o:=by
 refine gL.of λg D q p _=>⟨?_,?_⟩
 .grind [pV]
 .show OA X N all o _ (s g (D f) (D e) (D d)) _ (s g (fg i D f) (fg i D e) (fg i D d));rw[pV h1,pV h2,pV l];have k:=p m n;cases g with
  |none=>grind
  |some j=>exact h _ _ _ _
def gL.qo(n:c6 P T)(hC:bA X CT)(k:au obs)(h:∀g a b c,wv T CT [] all (kC all φ (x g) i) (s g a b c) o=aa (x g i,af,obs):=by intro g a b c;cases g<;>cases a<;>cases b<;>cases c<;>rfl)(l:av m i=ae:=by rfl)(h1:av f i=ae:=by rfl)(h2:av e i=ae:=by rfl)(j:av d i=ae:=by rfl):gL X N all φ x (SO s f e d) (uK ι m) i o:=.quiet l h1 h2 j λg a b c=>OA.eval n hC (h g a b c) k
def gL.qe(k:c6 P T)(hC:bA X CT)(h:∀g a b c,wv T CT [] all (kC all φ (x g) i) (s g a b c) o=aa (x g i,af,[]):=by intro g a b c;cases g<;>cases a<;>cases b<;>cases c<;>rfl)(j:av m i=ae:=by rfl)(h1:av f i=ae:=by rfl)(h2:av e i=ae:=by rfl)(l:av d i=ae:=by rfl):gL X N all φ x (SO s f e d) (uK ι m) i o:=.qo (obs:=[]) k hC ar h j h1 h2 l
def gL.qs(k:c6 P T)(hC:bA X CT)(h:∀j a b c,wv T CT [] all (kC all φ (x (aa j)) i) (s (aa j) a b c) o=aa (x (aa j) i,af,[]):=by intro j a b c;cases a<;>cases b<;>cases c<;>rfl)(g:av m i=ae:=by rfl)(h1:av f i=ae:=by rfl)(h2:av e i=ae:=by rfl)(l:av d i=ae:=by rfl)(n:fM all i m=ab:=by rfl):gL X N all φ x (SO s f e d) (uK ι m) i o:=.OD g h1 h2 l n λj a b c=>OA.dg k hC (h j a b c)
def gL.UR(g:av m e=ae)(h1:av f e=ae)(i:av d e=ae)(c:fM all d e=ab)(h:∀b a,OA X N all o (kC all φ (x b) e) (s b a ae ae) (x b e) (s b a ab ae)):gL X N all φ x (SO s f e d) (uK ι m) e o:=by grind[gL.of,pV,Aa]
def gL.US(l:av m d=ae)(h1:av f d=ae)(h2:av e d=ae)(b:fM all d m=ab)(p:fM all d f=ab)(n:fM all d e=ab)(h:∀j,OA X N all o (kC all φ (x (aa j)) d) (s (aa j) ab ab ae) (x (aa j) d) (s (aa j) ab ab ab)):gL X N all φ x (SO s f e d) (uK ι m) d o:=by
 refine gL.of λg D k c i=>?_;have a:=c m b;cases g with
 |none=>grind
 |some j =>
  grind[pV,Aa]
end
section
variable {X:Cx P}{d:List It}
def dK.RV{f:aP}{args:List D}{H:ι->aj->(Nat->Option Obj)->Prop}(h:dK X f args [] res (λi=>[.dead,.cp (H i)]))(y:∀i v ch,H i v ch->v=.nilFunc)(J:∀i,ij [] (res i)=res i)(q:∀i,uh 0 (res i)=ab)(M:lq 0 args=ab)(r:gp [] args=args):
  dK X f args [.cp (iv E k (.nil af) 0 [])] res (λi=>[.cp (H i)]):=by
 refine⟨h.1,λs vs hr hh S cs hS=>?_⟩;have u:s.β.length=1:=hh.len;obtain⟨e,N⟩:∃e,s.β=[e]:=by
  match z:s.β with
  |[A]=>grind
  |[]=>grind
  |_::_::_=>grind
 have w:s.β[0]?=aa e:=by grind
 obtain⟨O,c1,c2,c3,c4⟩:=hh.box 0 _ e rfl w;obtain⟨Q,_,_,_,rfl⟩:=c1;have G:∀b,b∉e.bs:=λb hb=>by grind
 let j:St:={s with β:=[]}
 have I:ey s j:=⟨rfl,λ_ _ _ h=>h,λ_ _ _=>rfl,hh.mem,λb hb=>hb.imp id λ⟨L,a,_⟩=>by grind⟩
 have t:aD [] j:=⟨hh.mem,rfl,by simp,by grind,by grind,λb hb=>⟨(hh.own b hb).1,by grind⟩⟩
 have c:cd [] j vs args:=by rw[<-r]at hr;exact cd.sub (ks:=[]) (σ:=[.cp (iv E k (.nil af) 0 [])]) (σ':=[]) (s:=s) (β':=[]) rfl rfl hr M
 refine .ghost I (h.2 j vs c t S cs λi fr v s' hl l5 iQ st=>?_);have n:s'.β.length=2:=iQ.len;obtain⟨A,B,x⟩:∃A B,s'.β=[A,B]:=by
  match z:s'.β with
  |[A,B]=>grind
  |[]=>grind
  |[_]=>grind
  |_::_::_::_=>grind
 have F:s'.β[1]?=aa B:=by grind
 obtain⟨ch,d1,d2,d3,d4⟩:=iQ.box 1 _ B rfl F;have K:=y i _ _ d1;let s2:St:={s' with β:=[B]}
 have g:∀L∈s2.β,L∈s'.β:=λL a=>by grind
 have m:ey s' s2:=⟨rfl,λ_ _ _ h=>h,λ_ _ _=>rfl,iQ.mem,λb hb=>hb.imp id λ⟨L,a,hb⟩=>⟨L,g L a,hb⟩⟩
 have p:dc [.cp (H i)] s2 v (res i):=by rw[<-J i]at l5;have:=dc.sub (ks:=[]) (σ:=[.dead,.cp (H i)]) (σ':=[]) (s:=s') (β':=[]) rfl rfl l5 (q i);exact this.mono (σ:=[]) (s:={s' with β:=[]}) (σ':=[.cp (H i)]) (s':=s2) ⟨λ_ _ _ h=>h,λl B L K=>by grind⟩ rfl
 refine .ghost m (hS i fr v s2 (hl.mono λ_ _ _ h=>h) p ⟨iQ.mem,rfl,λl C L hC a=>?_,λl l' C D h1 h2 b hb oH=>?_,λL a b hb=>iQ.lt L (g L a) b hb,λb hb=>⟨(iQ.own b hb).1,λL a=>(iQ.own b hb).2 L (g L a)⟩⟩
  ⟨st.size,st.keep,st.mem,λb hb _ o=>st.iq b hb (by grind) o,λL a b hb=>?_,λl C L hC a=>?_,st.os,st.tape,st.output,st.own⟩)
 .match l,hC,a with
  |0,hC,a=>cases hC;cases a;exact⟨ch,d1,d2,d3,d4⟩
  |l+1,hC,_=>grind
 .match l,l',h1,h2 with
  |0,0,_,_=>rfl
  |l+1,_,h1,_=>grind
  |_,l+1,_,h2=>grind
 .rcases st.tB L (g L a) b hb with h1|⟨L1,h1,_⟩
  .grind
  grind
 .match l,hC,a with
  |0,hC,a =>
   cases hC;rw[w]at a;cases a;exact⟨_,B,rfl,rfl,by show B.v=e.v;grind⟩
  |l+1,hC,_=>grind
def AK.Ls(l i j:Nat){K:Mem->Prop}{E0:ay}{cs:List A}{R cl:C}(TN:l≠i)(hl:eh l σ=aa (.cp (PM K)))(hi:eh i σ=aa (.cells E0 cs))(hj:eh j cs=aa (.c R))(hK:∀M M',K M->u6 M M'->∀v,Rd M' v R->Rd M' v cl)(kk:AK X N Qf (.code c::d) .normal φ ((σ.set l (.cp (iv E k (.nil af) 0 []))).set i (.cells E0 (cs.set j (.c cl))))):AK X N Qf (.code c::d) .normal φ σ:=by
 refine AK.ghost (λs a O hh=>?_) kk;have hl:=cT hl;have hi:=cT hi;have T:=cT hj;have F:l<s.β.length:=by rw[hh.len];grind
 have I:=bd F;generalize s.β[l]=L at I;obtain⟨ch,⟨h1,h2,h3⟩,Y,S,V⟩:=hh.box l _ L hl I;let M':Mem:=λb o=>(s.M b o).or (fb ch b o);have q:∀b o v,fb ch b o=aa v->b∈L.bs/\s.w.cell? ⟨b,o,af⟩=aa v:=λb o v f=>by
  cases h:ch b with
  |none=>simp[fb,h]at f
  |some x =>
   obtain⟨cs,E,rfl⟩:=h2 b x h;have hw:=Y b _ h;simp only[fb,h]at f;exact⟨(S b).2 (by simp[h]),by simpa[aU,hw]using f⟩
 have m1:∀b o v,s.M b o=aa v->M' b o=aa v:=λb o v f=>by grind
 have W:∀b,b∉L.bs->∀o,M' b o=s.M b o:=λb hb o=>by
  cases h:fb ch b o with
  |none=>grind
  |some v=>grind
 have Z:∀b o v,M' b o=aa v->s.w.cell? ⟨b,o,af⟩=aa v:=λb o v f=>by
  cases h:s.M b o with
  |some v'=>simp only[M',h,Option.some_or]at f;cases f;exact hh.mem b o v h
  |none=>grind
 have m4:=hK _ M' h3 λb o v f=>by have:=V b (q b o v f).1 o;simp[M',this,f]
 obtain⟨n,Q⟩:=hh.gV (M':=M') (w':=s.w) (B':=.cp (iv E k (.nil af) 0 [])) (L':=⟨.nilFunc,[]⟩) hl I h1.symm (aZ _) (λ_ _ _=>rfl) (λb _ hb o=>W b hb o) m1 Z (by simp) rfl rfl rfl
  ⟨λ_=>af,⟨rfl,by simp,by simp,rfl,rfl⟩,by simp,by simp,by simp⟩
 have r:(σ.set l (.cp (iv E k (.nil af) 0 [])))[i]?=aa (.cells E0 cs):=by grind
 generalize W2:(⟨s.β.set l ⟨.nilFunc,[]⟩,M',s.w,s.own⟩:St)=s1 at n Q;have D:i<s1.β.length:=by rw[n.len];grind
 have g:=bd D;generalize s1.β[i]=L2 at g;obtain⟨b,vs,J,m,H,hM⟩:=n.box i _ L2 r g;obtain⟨u,hu,hr⟩:=H.get T;have t:s1.M=M':=by grind
 have G:s1.β.set i L2=s1.β:=by apply gR;grind
 obtain⟨U,t2⟩:=n.gV (M':=s1.M) (w':=s1.w) (B':=.cells E0 (cs.set j (.c cl))) (L':=L2) r g rfl (aZ _) (λ_ _ _=>rfl) (λ_ _ _ _=>rfl) (λ_ _ _ h=>h) n.mem (λb hb=>⟨.inl hb,n.lt L2 (bD g) b hb⟩) rfl rfl rfl (by
   rw[G];have ex:Ext (σ.set l (.cp (iv E k (.nil af) 0 []))) s1 ((σ.set l (.cp (iv E k (.nil af) 0 []))).set i (.cells E0 (cs.set j (.c cl)))) s1:=by
    refine⟨λ_ _ _ h=>h,λp B L z y=>?_⟩;by_cases e:i=p
    .subst e;rw[r]at z;cases z;exact⟨_,L,fJ (by grind),y,rfl⟩
    .exact⟨B,L,by grind,y,.refl _ _⟩
   refine⟨b,vs,J,m,dH.set (H.mono ex n.len) hu ?_,hM⟩;show Rd s1.M u cl;rw[t];exact m4 u (t▸hr))
 have st:=Q.trans t2;exact⟨_,by grind,⟨O.size,O.defers.imp λ_ h1=>h1.mono st.ext,λu=>(O.slot u).mono st.ext hh.len⟩,U,st⟩
def AK.rU(l i j:Nat){K:Mem->Prop}{E0:ay}{cs:List A}{cl:C}(a:l≠i)(hl:eh l σ=aa (.cp (PM K)))(hi:eh i σ=aa (.cells E0 cs))(hj:eh j cs=aa (.c (.val v)))(b:∀M,K M->Rd M v cl)(kk:AK X N Qf (.code c::d) .normal φ ((σ.set l (.cp (iv E k (.nil af) 0 []))).set i (.cells E0 (cs.set j (.c cl))))):AK X N Qf (.code c::d) .normal φ σ :=
 AK.Ls l i j a hl hi hj (λ_ _ h le _ r=>by rw[Rd.eW r];exact(b _ h).mono le) kk
end
section
variable {X:Cx P}{n:List It}
def AK.RX(l i j:Nat){E0:ay}{Z:Nat}{cs:List A}{J:Nat->List C}(k1:Nat)(Cc:Nat->List C)(TN:l≠i)(hl:eh l σ=aa (.cp (iv E k (.nil af) 0 [])))(hi:eh i σ=aa (.cells E0 cs))(hj:eh j cs=aa (.c (.sl ab Z 0 J)))(kk:∀v,AK X N Qf (.code c::n) .normal φ ((σ.set l (.cp (PM λM=>Rd M v (.sl ae k1 0 Cc)))).set i (.cells E0 (cs.set j (.c (.val v)))))):AK X N Qf (.code c::n) .normal φ σ:=by
 refine AW.BO (ι:=aj) (φ':=λ_=>φ) (σ':=λv=>(σ.set l (.cp (PM λM=>Rd M v (.sl ae k1 0 Cc)))).set i (.cells E0 (cs.set j (.c (.val v))))) (λs a U hh=>?_) kk;have hl:=cT hl;have hi:=cT hi;have hJ:=cT hj;have o:i<s.β.length:=by rw[hh.len];grind
 have z:=bd o;generalize s.β[i]=Li at z;obtain⟨b0,ZK,hLb,O,H,_⟩:=hh.box i _ Li hi z;obtain⟨v,N4,T⟩:=H.get hJ;obtain⟨a0,cap,vs1,rfl,n1,n2,_,_,_⟩:=(show Rd s.M v (.sl ab Z 0 J)from T).flat;have hK:∀M:Mem,Rd M (.slice a0 0 cap) (.sl ae k1 0 Cc):=λM=>.sl 0 0 (λ_ _=>ah) n1 n2 (λh=>by cases h) (λi hi=>by omega) (λh=>by omega) (λi hi=>by omega) λi hi=>by omega
 have I:l<s.β.length:=by rw[hh.len];grind
 have Q:=bd I;generalize s.β[l]=L at Q;obtain⟨ch,hs,h4,h5,h6⟩:=hh.box l _ L hl Q;obtain⟨y,W⟩:=hh.gV (M':=s.M) (w':=s.w) (B':=.cp (PM λM=>Rd M (.slice a0 0 cap) (.sl ae k1 0 Cc))) (L':=L) hl Q rfl (aZ _) (λ_ _ _=>rfl) (λ_ _ _ _=>rfl) (λ_ _ _ h=>h) hh.mem (λb hb=>⟨.inl hb,hh.lt L (bD Q) b hb⟩) rfl rfl rfl
  ⟨ch,PM.start hK _ _ hs,h4,h5,h6⟩
 have r:(σ.set l (.cp (PM λM=>Rd M (.slice a0 0 cap) (.sl ae k1 0 Cc))))[i]?=aa (.cells E0 cs):=by grind
 generalize W2:(⟨s.β.set l L,s.M,s.w,s.own⟩:St)=s1 at y W;have Y:i<s1.β.length:=by grind
 have t:s1.β[i]?=aa Li:=by grind
 obtain⟨b,vs,S,q,V,hM⟩:=y.box i _ Li r t;have K:s1.β.set i Li=s1.β:=by apply gR;grind
 have R:vs[j]?=aa (.slice a0 0 cap):=by grind
 obtain⟨t1,t2⟩:=y.gV (M':=s1.M) (w':=s1.w) (B':=.cells E0 (cs.set j (.c (.val (.slice a0 0 cap))))) (L':=Li) r t rfl (aZ _) (λ_ _ _=>rfl) (λ_ _ _ _=>rfl) (λ_ _ _ h=>h) y.mem (λb hb=>⟨.inl hb,y.lt Li (bD t) b hb⟩) rfl rfl rfl (by
   rw[K];have ex:Ext (σ.set l (.cp (PM λM=>Rd M (.slice a0 0 cap) (.sl ae k1 0 Cc)))) s1 ((σ.set l (.cp (PM λM=>Rd M (.slice a0 0 cap) (.sl ae k1 0 Cc)))).set i (.cells E0 (cs.set j (.c (.val (.slice a0 0 cap)))))) s1:=by
    refine⟨λ_ _ _ h=>h,λp B L G F=>?_⟩;by_cases e:i=p
    .subst e;rw[r]at G;cases G;exact⟨_,L,fJ (by grind),F,rfl⟩
    .exact⟨B,L,by grind,F,.refl _ _⟩
   exact⟨b,vs,S,q,dH.set (V.mono ex y.len) R (Rd.val rfl),hM⟩)
 have st:=W.trans t2;exact⟨.slice a0 0 cap,_,by grind,⟨U.size,U.defers.imp λ_ h1=>h1.mono st.ext,λu=>(U.slot u).mono st.ext hh.len⟩,t1,st⟩
end
section
variable {X:Cx P}{x:Option ι->Nat->D}{s:Option ι->Bool->Bool->Bool->List ba}{m f g d:Nat}
def gL.pre(t:av m f=ae)(h2:av g f=ae)(r:av d f=ae)(e:fM all m f=ab)(l:fM all d f=ab)(h:∀b,OA X N all o (kC all φ (x af) f) (s af ae b ae) (x af f) (s af ab b ae)):gL X N all φ x (SO s f g d) (uK ι m) f o:=by
 refine gL.of λp D q u a=>?_;have c:=a m (.inr e);have i:=a d (.inr l);have k:=a f (.inl rfl);cases p with
 |some j=>grind
 |none=>grind[pV,Aa]
def gL.Vt(h1:av f m=ae)(h2:av g m=ae)(w:av d m=ae)(u:fM all m f=ab)(r:fM all d m=ab)(i:∀j q,q=m∨fM all q m=ab∨x (aa j) q=x af q)(h:∀b,oS X N all o (kC all φ (x af) m) (s af ab b ae) (λj=>x (aa j) m) (λj=>s (aa j) ab b ae)):gL X N all φ x (SO s f g d) (uK ι m) m o:=by
 refine gL.YS λc D v p a=>?_;have e:=a m (.inl rfl);have l:=p f u;have k:=a d (.inr r);have t:c=af:=by
  cases c with
  |none=>rfl
  |some j=>grind
 grind[Aa,pV]
def gL.last(a:av m d=ae)(h1:av f d=ae)(h2:av g d=ae)(e:fM all d m=ab)(b:fM all d f=ab)(c:fM all d g=ab)(h:∀j,OA X N all o (kC all φ (x (aa j)) d) (s (aa j) ab ab ae) (x (aa j) d) (s (aa j) ab ab ab)):gL X N all φ x (SO s f g d) (uK ι m) d o:=.US a h1 h2 e b c h
end
theorem Rd.Ff{t:Bool}(h:Rd M v (.sl t k n es)):∃a cap b off,v=.slice a n cap/\n<=cap/\cap<=9223372036854775807/\(0<n->a=aa ⟨b,off,af⟩)/\(∀i,i<n->(es i).length=k)/\∀i,i<n->∀j c,(es i)[j]?=aa c->∃u,M b (off+i*k+j)=aa u/\Rd M u c:=by
 cases h with
 |@sl a _ cap _ _ _ b off f e hb ht hk ha hm hr=>exact⟨a,cap,b,off,rfl,e,hb,ha,hk,λi hi j c hj=>⟨_,hm i hi j c hj,hr i hi j c hj⟩⟩
def Rd.RY{a:Option Addr}{cap:Nat}(h1:n<=cap)(h2:cap<=9223372036854775807)(f:0<n->a=aa ⟨b,off,af⟩)(e:∀i,i<n->(es i).length=k)(g:∀i,i<n->∀j c,(es i)[j]?=aa c->∃u,M b (off+i*k+j)=aa u/\Rd M u c):Rd M (.slice a n cap) (.sl ae k n es):=by
 refine .sl b off (λi j=>(M b (off+i*k+j)).getD ah) h1 h2 (λh=>by cases h) e f (λi hi j c hj=>?_) λi hi j c hj=>?_
 .grind
 grind
section
variable {X:Cx P}{d:List It}
def AK.RZ{b:List It}(φ':ι->Fr)(σ':ι->List ba)(h:(∀(i:ι)(a:Fr)(ps:List Prop),pn a (φ' i)=aa ps->au ps->AK X N Qf (.code c::b) .normal a (σ' i))->AK X N Qf K .normal φ σ)(k:∀i,AK X N Qf (.code c::b) .normal (φ' i) (σ' i)):AK X N Qf K .normal φ σ :=
 h λi _ _ h1 h2=>AW.le (k i) (cG h1 h2)
def iX.agg{ds:List D}(p q x:Nat){cs:List A}{u:aj}(J:ds[p]?=aa (.e (.agg cs)))(y:cs[q]?=aa (.c (.val u)))(hl:gY σ x u k n es):iX σ ds (ds.set p (.e (.agg (cs.set q (.c (.sl ae k n es)))))):=by
 intro s vs hh hr;obtain⟨L,o,m,w,z,E,F,H⟩:=hl s hh;refine⟨λb=>b∈L.bs,o,λb hb=>⟨L,bD m,hb⟩,w,z,E,F,?_⟩;have e1:Ext σ s σ {s with M:=o}:=⟨w,λl B L G m=>⟨B,L,G,m,.refl _ _⟩⟩
 have t:=hr.mono e1 hh.len;obtain⟨C,i⟩:=cd.get t;have f:p<vs.length:=by grind
 have h:=i p;rw[J,bd f]at h;obtain⟨I,r,g⟩:=h;obtain⟨v,a,j⟩:=g.get y;rw[Rd.eW (show Rd o v (.val u)from j)]at a;refine cd.setAt t (bd f) ⟨I,r,dH.set g a H⟩
theorem PM.of{K:Mem->Prop}{p:Prop}(hl:σ[l]?=aa (.cp (PM K)))(h:∀M,K M->p)(s:St)(hh:aD σ s):p:=by
 have a:l<s.β.length:=by rw[hh.len];grind
 obtain⟨ch,⟨_,_,b⟩,_⟩:=hh.box l _ _ hl (bd a);grind
def jk.OW(F:c6 P T)(l:Nat){K:Mem->Prop}{i:TI}(h:o.op=.load t x)(hi:bz T t=aa i)(G:∀v,lU i [.c (.val v)]=aa (.one (.c (.val v))))(Q:bH φ x=.e (.one (.v (.pointer (aa ⟨b,off,af⟩)))))(hl:σ[l]?=aa (.cp (PM K)))(S:∀M,K M->∃w,M b off=aa w/\cO w=ab):jk P N o φ σ (λw:aj=>.e (.one (.v w))) (λw=>σ.set l (.cp (PM λM=>K M/\M b off=aa w))):=by
 intro s a V hh;have r:=dJ V x;rw[Q]at r;have r:=Rd.eW r;have q:l<s.β.length:=by rw[hh.len];grind
 have u:=bd q;generalize s.β[l]=L at u;obtain⟨ch,⟨h1,h2,J⟩,I,D,W⟩:=hh.box l _ L hl u;obtain⟨w,B,U⟩:=S _ J;obtain⟨cs,E,A,z⟩:∃cs E,ch b=aa (.cells cs E (0,0))/\cs[off]?=aa w:=by
  cases e:ch b with
  |none=>simp[fb,e]at B
  |some x =>
   obtain⟨cs,E,rfl⟩:=h2 b x e;exact⟨cs,E,rfl,by simpa[fb,e]using B⟩
 have y:b∈L.bs:=(D b).2 (by grind);have m:=I b _ A;obtain⟨O,R⟩:=hh.jh (l:=l) (H':=PM λM=>K M/\M b off=aa w) (L':=L) (w':=s.w) hl u rfl (aZ _) (λ_ _ _=>rfl) (λ_ hb=>.inl hb) ⟨ch,⟨h1,h2,J,B⟩,I,D⟩ rfl rfl rfl;have f:∀(j:Nat) (v:aj),[w][j]?=aa v->s.w.cell? ⟨b,off+j,af⟩=aa v:=by
  intro j v hj
  match j,hj with
  |0,hj=>cases hj;simp[aU,m,z]
 obtain⟨v,g,C⟩:=lF (s:=⟨s.β.set l L,s.M,s.w,s.own⟩) (σ:=σ.set l (.cp (PM λM=>K M/\M b off=aa w))) (P:=P) (F t i hi) (b:=b) (off:=off) (vs:=[w]) (cs:=[.c (.val w)]) f ⟨Rd.val U,ar⟩ (G w);have g:(loadVar t ⟨b,off,af⟩).run P s.w=.ok v s.w:=g;have e1:aq a.eval o=(do pure (.value (<-loadVar t ⟨b,off,af⟩))):=by simp[aq,h,r,Instr.loadAt,Instr.sureAddr]
 refine⟨w,.value v,_,v,by rw[e1];simp[g],.inl rfl,C,O,R,λH p=>?_⟩;rw[e1]at p;have k:H∈(loadVar t ⟨b,off,af⟩).events P s.w #[]:=by simpa[g]using p
 obtain⟨j,hj,rfl⟩:=iD (F t i hi) (n:=1) (λj hj=>⟨w,f j w (by grind)⟩) (by have:=nV (G w);grind) H k;exact nP (bD u) y
def Mem.up(M:Mem)(b o:Nat)(u:aj):Mem:=λc a=>if c=b/\a=o then aa u else M c a
def jk.DZ(V:c6 P T)(l:Nat){K:Mem->Prop}{c:C}{i:TI}(h:o.op=.store t x y)(hi:bz T t=aa i)(W2:i.size=1)(hx:bH φ x=.e (.one (.v (.pointer (aa ⟨b,off,af⟩)))))(hy:bH φ y=.e (.one (.c c)))(hg:s8 c=ab)(hl:σ[l]?=aa (.cp (PM K)))(hK:∀M,K M->∃w,M b off=aa w):jk P N o φ σ (ι:={u:aj // ∀M,Rd M u c}) (λ_=>.any) (λu=>σ.set l (.cp (PM λM'=>∃M,K M/\M'=M.up b off u.1))):=by
 intro s a Z hh;have A:=dJ Z x;rw[hx]at A;have A:=Rd.eW A;have g:=kJ (show kg (bH φ y)=aa [.c c] by rw[hy];rfl) (dJ Z y);generalize R:(a.eval y).cells.toList=vs at g;obtain⟨u,rfl⟩:∃u,vs=[u]:=by
  match vs,g with
  |[u],_=>grind
  |_::_::_,h=>exact h.2.elim
 have hu:Rd s.M u c:=g.1;have U:∀M,Rd M u c:=λM=>oL hg hu;have H:l<s.β.length:=by rw[hh.len];grind
 have S:=bd H;generalize s.β[l]=L at S;obtain⟨ch,⟨h1,h2,Y⟩,h4,h5,h6⟩:=hh.box l _ L hl S;obtain⟨w,hw⟩:=hK _ Y;obtain⟨cs,E,O,RI⟩:∃cs E,ch b=aa (.cells cs E (0,0))/\cs[off]?=aa w:=by
  cases e:ch b with
  |none=>simp[fb,e]at hw
  |some x =>
   obtain⟨cs,E,rfl⟩:=h2 b x e;exact⟨cs,E,rfl,by simpa[fb,e]using hw⟩
 have I:b∈L.bs:=(h5 b).2 (by grind);have k:=h4 b _ O;have q:off<cs.size:=by grind
 have z:=run_storeCells_at P b off E [u] 0 cs s.w k (show off+0+1<=cs.size from q) g.cell;simp only[gT,eE]at z;have Q:=setRow_heap s.w b cs (cs.toList.take off++[u]++cs.toList.drop (off+1)).toArray E (0,0) k;generalize D:(cs.toList.take off++[u]++cs.toList.drop (off+1)).toArray=T2 at z Q;have G:∀j,T2[j]?=if j=off then aa u else cs[j]?:=λj=>by rw[<-D];grind
 have J:∀f F,fb (λf=>if f=b then aa (.cells T2 E (0,0))else ch f) f F=(fb ch).up b off u f F:=λf F=>by
  by_cases e:f=b
  .subst e;simp only[fb,bZ,Mem.up,aF,O,G]
  .simp only[fb,bh e,Mem.up,e,false_and,bJ]
 obtain⟨t1,t2⟩:=hh.jh (l:=l) (H':=PM λM'=>∃M,K M/\M'=M.up b off u) (L':=L) (w':=s.w.setRow b T2) hl S rfl (by simp)
  (λf n hn=>setRow_other s.w b f _ (λe=>hn (by grind))) (λf n=>.inl n)
  ⟨λf=>if f=b then aa (.cells T2 E (0,0))else ch f,⟨h1,λf o n=>by
   grind,_,Y,funext λf=>funext λF=>J f F⟩,λf o n=>by
   grind[setRow_other],λf=>by grind⟩ rfl rfl rfl
 have B:(a.eval y).cells.size=i.size:=by grind
 have e1:aq a.eval o=(do storeVar t ⟨b,off,af⟩ (a.eval y);pure .skip):=by simp[aq,h,A,Instr.storeAt,Instr.sureAddr]
 refine⟨⟨u,U⟩,.skip,_,ah,?_,.inr ⟨rfl,rfl⟩,ar,t1,t2,?_⟩
 .simp[aq,h,A,Instr.storeAt,Instr.sureAddr,storeVar,(V t i hi).run_sizeOf,B,R,z]
 .intro W m;rw[e1]at m;have p:W∈(storeCells ⟨b,off,af⟩ (a.eval y).cells.toList).events P s.w #[]:=by
   simp only[storeVar,aJ,(V t i hi).run_sizeOf,B,aO,events_sizeOf,dn,eN,bJ,bL,b6,Sem.events_pure]at m;generalize(storeCells ⟨b,off,af⟩ (a.eval y).cells.toList).run P s.w=r at m;cases r with
   |ok v w'=>simpa using m
   |halt x w'=>simpa using m
  rw[R]at p;rcases dW [u] 0 cs s.w #[] k (show off+0+1<=cs.size from q) g.cell W p with Kn|⟨j,_,_,rfl⟩
  .grind
  .exact ky (bD S) I (h6 b I _)
end
section
open Go.Conc
def fW(s:St):Prop:=∀b o v,s.M b o=aa v->s.w.cell? ⟨b,o,af⟩=aa v
def kT(c:Nat->Prop):Go.Loc->Prop
  | .cell a=>c a.block
  | .obj r=>c r
  | _=>False
structure Clear(c:Nat->Prop)(s:St):Prop where
  own:∀b,c b->¬s.own b
  β:∀b,c b->∀L∈s.β,b∉L.bs
  M:∀b,c b->∀o,s.M b o=af
  lt:∀b,c b->b<s.w.heap.size
section
variable {c:Nat->Prop}
def Clear.step(h:Clear c s)(st:Step σ s σ' s'):Clear c s':=by
  refine⟨λb hb=>by rw[st.own];exact h.own b hb,λb hb L e a=>?_,λb hb o=>by rw[st.iq b (h.lt b hb) (h.β b hb)];exact h.M b hb o,λb hb=>cA (h.lt b hb) st.size⟩;rcases st.tB L e b a with h1|⟨f,d,h1⟩
  · exact absurd (h.lt b hb) (ly.2 h1)
  · exact h.β b hb f d h1
theorem Clear.ghost(h:Clear c s)(k:ey s s'):Clear c s':=by
  have d:∀b,c b->¬(s'.own b∨∃L∈s'.β,b∈L.bs):=λb hb e=>by
    rcases k.blk b e with e|⟨L,a,e⟩
    · exact h.own b hb e
    · exact h.β b hb L a e
  exact⟨λb hb e=>d b hb (.inl e),λb hb L a e=>d b hb (.inr ⟨L,a,e⟩),λb hb o=>by rw[k.iq b (h.β b hb)];exact h.M b hb o,λb hb=>by rw[k.w];exact h.lt b hb⟩
def Clear.forget(h:Clear c s)(k:lT s s'):Clear c s':=by
  refine⟨λb hb=>by rw[k.own];exact h.own b hb,λb hb=>by rw[k.β];exact h.β b hb,λb hb o=>?_,λb hb=>by rw[k.w];exact h.lt b hb⟩;cases e:s'.M b o with
  | none=>rfl
  | some v=>rw[<-k.less b o v e,h.M b hb o]
def Clear.at(h:Clear c s)(d:Nat):Clear c {s with w:=s.w.at d}:=⟨h.own,h.β,h.M,h.lt⟩
def fW.at(h:fW s)(d:Nat):fW {s with w:=s.w.at d}:=h
theorem fW.ghost(k:ey s s'):fW s':=λb o v a=>by rw[k.w];exact k.cell b o v a
def fW.forget(h:fW s)(k:lT s s'):fW s':=λb o v a=>by rw[k.w];exact h b o v (k.less b o v a)
def fW.lt(h:fW s){o:Nat}(a:s.M b o=aa v):b<s.w.heap.size:=by
  have:=h b o v a;rcases cv b s.w.heap.size with h1|h1
  · exact h1
  · simp[aU,x4 h1]at this
def b5.at(h:fW s)(d:Nat):b5 s {s with w:=s.w.at d}:=⟨rfl,rfl,rfl,aZ _,λ_ _=>rfl,h,rfl,rfl,rfl⟩
def N5{e:Event}(l:aD σ s)(n:Clear c s)(g:nz s e){B:Nat}(o:s.w.heap.size<=B):EvL (kT c) B e:=by
  obtain⟨k,wr,q⟩:=e;cases k with
  | cell a =>
    obtain⟨i,j,b⟩:=g;simp only at i j b;subst i;have key:¬c a.block/\a.block<s.w.heap.size:=by
      rcases b with b|⟨⟨L,h,b⟩,_⟩|⟨_,v,b⟩
      · exact b.elim
      · exact⟨λx=>n.β _ x L h b,l.lt L h _ b⟩
      · refine⟨λx=>?_,fW.lt l.mem b⟩
        rw[n.M _ x]at b;cases b
    exact evL_cell a wr key.1 (cA key.2 o)
  | obj r =>
    obtain⟨i,j⟩:=g;simp only at i j;subst i;obtain⟨L,h,b⟩:=j.resolve_left id;refine⟨λx d p=>?_,by simp,by simp,?_⟩
    · simp[aH,MemAct.touch?]at d
      subst d;exact absurd b (n.β _ p L h)
    · simp[aH,MemAct.low,Loc.low]
      exact cA (l.lt L h _ b) o
  | mark m =>
    simp only[nz]at g;rcases g with rfl|⟨f,rfl⟩
    · exact⟨λx d=>by simp[aH,MemAct.touch?]at d,by simp,by simp,by simp[aH,MemAct.low]⟩
    · exact⟨λx d=>by simp[aH,MemAct.touch?]at d,by simp,by simp,by simp[aH,MemAct.low]⟩
  | _=>exact g.elim
end
def qA(t:Trace):Prop:=∀a,NoRelease a t
def qA.app{t:Trace}(h:qA t){g:Nat}{fn:aP}{pos:String}{es:Array Event}(b:∀e∈es,∀a,e.loc≠.mark (.release a)):qA (t++MemOp.ofEvents g fn pos es) :=
  λa=>(h a).app λop lA hx=>by grind[Go.Conc.mem_ofEvents,Go.ConcR.loc_of_ofEvent]
def BN{e:Event}(d:nz s e)(a:Addr):e.loc≠.mark (.release a):=by intro b;obtain⟨loc,wr,g⟩:=e;simp only at b;subst b;rcases d with h|⟨f,h⟩<;>cases h
def ua{e:Event}(d:e.mute=ab)(a:Addr):e.loc≠.mark (.release a):=by intro b;obtain⟨loc,wr,f⟩:=e;simp only at b;subst b;simp[Event.mute]at d
def Q1(P:aK)(g:ak)(s:St)(T:ak->St->Prop):Prop :=
  ∀(c:Nat->Prop) (f:Array ak) (sl:Option (Nat×Nat)) (t:Trace) (q:Nat->Nat),fW s->f[0]?=aa g->Leavers P t f q->Past (kT c) s.w.heap.size t->Clear c s->qA t ->
    ∃(N:Nat) (b:Nat->Prop) (a:Array ak) (g':ak) (s':St) (e:Option (Nat×Nat)) (d:Trace) (h:Nat->Nat),
      runNT P N (crowd f s.w sl) t=(.next (crowd a s'.w e),d)/\fW s'/\a[0]?=aa g'/\Leavers P d a h/\Past (kT b) s'.w.heap.size d/\Clear b s'/\qA d/\T g' s'
def Cx.beside(P:aK):Cx P:={main:=ab,rely:=λs s'=>b5 s s'/\∃d,s'={s with w:=s.w.at d},wm:=Q1 P,hZ:=λh=>h.1,zI:=True}
instance (P:aK):(Cx.beside P).gY:=⟨ar⟩
theorem runNT_add{P:aK}:∀(N M:Nat) {m a:Machine} {t b:Trace},runNT P N m t=(.next a,b)->runNT P (N+M) m t=runNT P M a b
  | 0,M,m,a,t,b,h=>by simp[runNT]at h;grind
  | N+1,M,m,a,t,b,h=>by
    rw[show N+1+M=(N+M)+1 by omega];simp only[runNT]at h⊢;cases d:stepT P m with
    | mk r ops =>
      rw[d]at h;cases r with
      | next m1=>exact runNT_add N M h
      | ended o w=>grind
def e9.beside{P:aK}{S:ak->St->Prop}{g:ak}{s:St}(h:e9 (Cx.beside P) S g s):Q1 P g s S:=by
  induction h with
  | stop h=>intro c b sl t q A u o r v G;exact⟨0,c,b,_,_,sl,t,q,rfl,A,u,o,r,v,G,h⟩
  | ghost hg _ O =>
    intro c b sl t q A u o r v G;have:=O c b sl t q (.ghost hg) u o (by rw[hg.w];exact r) (v.ghost hg) G
    rwa [hg.w]at this
  | forget _ hg _ O =>
    intro c b sl t q A u o r v G;have:=O c b sl t q (A.forget hg) u o (by rw[hg.w];exact r) (v.forget hg) G
    rwa [hg.w]at this
  | wm hj _ O =>
    intro c b sl t q A u o r v G;obtain⟨N,l,f,g',s',m,E,K,h1,h2,h3,h4,h5,h6,X2,h7⟩:=hj c b sl t q A u o r v G;obtain⟨M,X3,X4,g2,s2,X5,t2,q2,k1,R⟩:=O g' s' h7 l f m E K h2 h3 h4 h5 h6 X2;exact⟨N+M,X3,X4,g2,s2,X5,t2,q2,by grind[runNT_add],R⟩
  | @step g s Z ns ne hr h1 h2 _ O =>
    intro c b sl t q;have key:∀(n:Nat) (b:Array ak) (d:Nat) (sl:Option (Nat×Nat)) (t:Trace) (q:Nat->Nat),Go.ConcN.sumTo b.size q<=n->fW s->b[0]?=aa g->Leavers P t b q->Past (kT c) s.w.heap.size t->Clear c s->qA t ->
        ∃(N:Nat) (l:Nat->Prop) (f:Array ak) (g':ak) (s':St) (m:Option (Nat×Nat)) (E:Trace) (K:Nat->Nat),
          runNT P N (crowd b (s.w.at d) sl) t=(.next (crowd f s'.w m),E)/\fW s'/\f[0]?=aa g'/\Leavers P E f K/\Past (kT l) s'.w.heap.size E/\Clear l s'/\qA E/\S g' s':=by
      intro n;induction n with
      | zero=>?_
      | succ n X6=>?_
      all_goals
        intro b d sl t q G A u o r v F;have X7:∀g∈b,awake g:=by
          intro x hx;obtain⟨i,hi,rfl⟩:=Array.mem_iff_getElem.1 hx;rcases nI i with rfl|B
          · grind[awake_of]
          · exact awake_of ((o.old i _ B (fx hi)).status.elim .inl λx=>.inr (.inr x))
        obtain⟨i,x,d2,m,hi,hg,J⟩:=crowd_pick (P:=P) (w:=s.w.at d) (sl:=sl) X7 ⟨0,g,u,hr⟩;rw[show(s.w.at d).at d2=s.w.at d2 from rfl]at J;rcases nI i with rfl|B
        · obtain rfl:x=g:=by grind
          have C:(Cx.beside P).rely s {s with w:=s.w.at d2}:=⟨b5.at A d2,d2,rfl⟩;have hgo:=h1 _ C;obtain⟨⟨σ,σ',hh,iQ,st⟩,V⟩:=h2 _ C;have p:=runT_crowd_go (P:=P) (sl:=m) (i:=0) hi (show aG P (0==0) x (s.w.at d2)=_ from hgo)
          have KB:((b.map (woken P x (Z {s with w:=s.w.at d2}) (ns {s with w:=s.w.at d2}).w)).setIfInBounds 0 (Z {s with w:=s.w.at d2})).size=b.size:=by simp
          have U:0<b.size:=(gN.1 u).1;have X:Clear c {s with w:=s.w.at d2}:=v.at d2;obtain⟨N,l,f,g',s',D,E,K,k1,R⟩:=O _ C c ((b.map (woken P x (Z {s with w:=s.w.at d2}) (ns {s with w:=s.w.at d2}).w)).setIfInBounds 0 (Z {s with w:=s.w.at d2})) m
            (t++MemOp.ofEvents 0 x.frame.fn x.frame.place (ne {s with w:=s.w.at d2})) q iQ.mem (by grind)
            ⟨λj y hj hy=>by
              have zC:0≠j:=by omega
              rw[rn zC,Array.getElem?_map]at hy;obtain⟨z,hz,rfl⟩:=rq.1 hy;have H:=o.old j z hj hz;rw[woken_quitsD H,Deaf_other t (by omega) _ (λop lA=>by grind[Go.Conc.mem_ofEvents])];exact H,λj hj=>by
              rw[Deaf_other t (g':=0) (by grind) _ (λop lA=>by grind[Go.Conc.mem_ofEvents])]
              exact o.above j (by grind)⟩
            ((r.mono st.size).own λe W=>N5 hh X (V e W) st.size) (X.step st) (F.app λe W a=>BN (V e W) a)
          exact⟨N+1,l,f,g',s',D,E,K,by simp only[runNT,J,p];exact k1,R⟩
        · have H:=o.old i x B hi
          have Ul:(i==0)=ae:=by grind
          have U:i<b.size:=(gN.1 hi).1;cases L:q i with
          | zero=>rw[L]at H;rw[H.1]at hg;cases hg
          | succ k =>
            rw[L]at H;rcases H with⟨hf,_⟩|⟨_,g',es,Y,Q,hq'⟩
            · grind
            have X8:Go.ConcN.sumTo b.size (Go.ConcN.upd q i k)+(k+1)=Go.ConcN.sumTo b.size q+k:=by have:=Go.ConcN.sumTo_upd q k id U;simpa[L]using this
            first
            | (exfalso;omega)
            | (have p:=runT_crowd_go (P:=P) (sl:=m) (i:=i) hi (by rw[Ul];exact Q (s.w.at d2))
               have KB:((b.map (woken P x g' (s.w.at d2))).setIfInBounds i g').size=b.size:=by simp
               obtain⟨N,l,f,g2,s',D,E,K,k1,R⟩:=X6 ((b.map (woken P x g' (s.w.at d2))).setIfInBounds i g') d2 m (t++MemOp.ofEvents i x.frame.fn x.frame.place es) (Go.ConcN.upd q i k) (by grind) A
                (by grind[woken_run])
                ⟨λj y hj hy=>by
                  by_cases I:i=j
                  · grind[Go.ConcN.upd_same,Deaf_own]
                  · rw[rn I,Array.getElem?_map]at hy
                    obtain⟨z,hz,rfl⟩:=rq.1 hy;have T:=o.old j z hj hz;rw[woken_quitsD T,Go.ConcN.upd_ne q k (Ne.symm I),Deaf_other t I _ (λop lA=>by grind[Go.Conc.mem_ofEvents])];exact T,λj hj=>by
                  rw[Deaf_other t (g':=i) (by grind) _ (λop lA=>by grind[Go.Conc.mem_ofEvents])]
                  exact o.above j (by grind)⟩
                (r.mute (by omega) Y) v (F.app λe W a=>ua (Y e W) a)
               exact⟨N+1,l,f,g2,s',D,E,K,by simp only[runNT,J,p];exact k1,R⟩)
    intro A u o r v F;have:=key _ b s.w.drawn sl t q (aZ _) A u o r v F
    rwa [show s.w.at s.w.drawn=s.w from rfl]at this
inductive Rk where
 |leaf
 |node (f:St->Rk)
def Rk.lt:Rk->Rk->Prop
 |_,.leaf=>False
 |x,.node f=>∃s,x=f s∨Rk.lt x (f s)
def Rk.acc:∀r:Rk,Acc Rk.lt r
 |.leaf=>⟨_,λ_ h=>h.elim⟩
 |.node f=>⟨_,λ_ ⟨s,e⟩=>e.elim (λe=>e▸Rk.acc (f s)) λh=>(Rk.acc (f s)).inv h⟩
def Rk.nat:Nat->Rk
 |0=>.leaf
 |n+1=>.node λ_=>Rk.nat n
def Rk.B7(n:Nat)(s:St):Rk.lt (Rk.nat n) (Rk.nat (n+1)):=⟨s,.inl rfl⟩
def Vec(j:Nat)(a D:Nat->Rk):Prop:=∃i,i<j/\Rk.lt (a i) (D i)/\∀k,k≠i->a k=D k
def Hi:∀j,WellFounded (Vec j)
 |0=>⟨λ_=>⟨_,λ_ ⟨i,h,_⟩=>absurd h (gA i)⟩⟩
 |j+1=>by
  have f:=Hi j;have key:∀a:Rk,∀D:Nat->Rk,D j=a->Acc (Vec (j+1)) D:=by
   intro a;induction Rk.acc a with
   |intro a _ l =>
    intro D;induction f.apply D with
    |intro D _ b =>
     intro m;refine⟨_,λg h=>?_⟩;obtain⟨i,hi,d,k⟩:=h;rcases cv i j with e|e
     .exact b g ⟨i,e,d,k⟩ (by grind)
     grind
  exact⟨λD=>key _ D rfl⟩
section
def jD(X:Cx P)(E:St->St->Array Event->Prop)(S:ak->St->Prop):Rk->ak->St->Prop
 |.leaf,g,s=>S g s
 |.node f,g,s=>S g s∨(∃s',(ey s s'∨(X.zI/\lT s s'))/\jD X E S (f s) g s') ∨
   (g.status=.running/\∀a,X.rely s a->∃g' s' es,aG P X.main g a.w=.go g' s'.w es/\(pJ a s' es∨E a s' es)/\jD X E S (f a) g' s')
variable {X:Cx P}{E:St->St->Array Event->Prop}{c:ak->St->Prop}
def dT(X:Cx P)(E:St->St->Array Event->Prop)(S:ak->St->Prop)(g:ak)(s:St):Prop:=∃r,jD X E S r g s
theorem dT.ghost(h:ey s s')(k:dT X E S g s'):dT X E S g s:=by obtain⟨r,k⟩:=k;exact⟨.node λ_=>r,.inr (.inl ⟨s',.inl h,k⟩)⟩
def dT.forget(hl:X.zI)(h:lT s s')(k:dT X E S g s'):dT X E S g s:=by obtain⟨r,k⟩:=k;exact⟨.node λ_=>r,.inr (.inl ⟨s',.inr ⟨hl,h⟩,k⟩)⟩
def dT.step(e:g.status=.running)(h:∀a,X.rely s a->∃g' s' es,aG P X.main g a.w=.go g' s'.w es/\(pJ a s' es∨E a s' es)/\dT X E S g' s'):dT X E S g s:=by
 classical
 have hh:∀a,∃r:Rk,X.rely s a->∃g' s' es,aG P X.main g a.w=.go g' s'.w es/\(pJ a s' es∨E a s' es)/\jD X E S r g' s':=by
  intro a;by_cases b:X.rely s a
  .obtain⟨g',s',es,h1,h2,r,d⟩:=h a b;exact⟨r,λ_=>⟨g',s',es,h1,h2,d⟩⟩
  .exact⟨.leaf,λh=>absurd h b⟩
 exact⟨.node λa=>Classical.choose (hh a),.inr (.inr ⟨e,λa b=>Classical.choose_spec (hh a) b⟩)⟩
def dT.bind(h:dT X E S g s)(k:∀g s,S g s->dT X E c g s):dT X E c g s:=by
 obtain⟨r,h⟩:=h;induction r generalizing g s with
 |leaf=>exact k g s h
 |node f a =>
  rcases h with h|⟨s',h1,h2⟩|⟨b,h⟩
  .grind
  .rcases h1 with h1|⟨hl,h1⟩
   .exact .ghost h1 (a _ h2)
   .exact .forget hl h1 (a _ h2)
  .exact .step b λd e=>by grind
def e9.YT(hj:∀g s T,¬X.wm g s T)(h:e9 X S g s):dT X E S g s:=by
 induction h with
 |stop h=>exact⟨.leaf,h⟩
 |step ng ns ne hr h1 h2 _ a=>exact .step hr λb d=>⟨_,_,_,h1 b d,.inl (h2 b d),a b d⟩
 |ghost hg _ a=>exact .ghost hg a
 |forget hl hg _ a=>exact .forget hl hg a
 |wm hjj _ _=>grind
def jD.norm(I:St->Prop)(k:∀s s',ey s s'->I s->I s')(m:X.zI->∀s s',lT s s'->I s->I s'):∀{r:Rk}{g:ak}{s:St},jD X E S r g s->I s ->
  (∃s',I s'/\S g s')∨(g.status=.running/\∃s',I s'/\∀a,X.rely s' a->∃g' s2 es r',aG P X.main g a.w=.go g' s2.w es/\(pJ a s2 es∨E a s2 es)/\jD X E S r' g' s2/\Rk.lt r' r)
 |.leaf,_,s,h,hi=>.inl ⟨s,hi,h⟩
 |.node f,g,s,h,hi=>by
  rcases h with h|⟨s',h1,h2⟩|⟨p,h⟩
  .grind
  .have j:I s':=h1.elim (λx=>k s s' x hi) λx=>m x.1 s s' x.2 hi;rcases jD.norm I k m h2 j with l|⟨l,s2,q,o⟩
   .grind
   .refine .inr ⟨l,s2,q,λa d=>?_⟩;obtain⟨g',e,es,r',k1,i,b,n⟩:=o a d;exact⟨g',e,es,r',k1,i,b,s,.inr n⟩
  .refine .inr ⟨p,s,hi,λa d=>?_⟩;obtain⟨g',e,es,k1,i,b⟩:=h a d;exact⟨g',e,es,f a,k1,i,b,a,.inl rfl⟩
def dT.goes{R:aA->aA->Prop}{D:aA->aA->Array Event->Prop}{Stop:ak->aA->Prop}(I:St->Prop)(j:∀s a,I s->X.rely s a->I a)(e:∀s a,I s->X.rely s a->R s.w a.w)(m:∀s es,I s->∀w',D s.w w' es->w'=s.w/\(pJ s s es∨E s s es))(i:∀s,I s->X.rely s s)(k:∀g s,I s->Stop g s.w->dT X E S g s):
  ∀(n:Nat) (g:ak) (s:St),I s->Goes P X.main R D Stop n g s.w->dT X E S g s
 |0,g,s,hi,h=>k g s hi (h s.w (e s s hi (i s hi)))
 |n+1,g,s,hi,h=>by
  rcases h with h|⟨o,h⟩
  .grind
  .refine .step o λa l=>?_;have h1:=h a.w (e s a hi l);have d:=j s a hi l;cases b:aG P X.main g a.w with
   |go g' w' es =>
    rw[b,goes_go]at h1;obtain⟨q,p⟩:=h1;obtain⟨rfl,f⟩:=m a es d w' q;exact⟨g',a,es,rfl,f,dT.goes I j e m i k n g' a d p⟩
   |_=>rw[b]at h1;exact h1.elim
end
theorem b5.ghost(h:b5 s {s with w:=w})(k:ey s s'):b5 s' {s' with w:=w}:=by
 refine⟨rfl,rfl,rfl,by rw[k.w];exact h.size,λb hb=>by rw[k.w];exact h.keep b (k.blk b hb),λb o v d=>?_,by rw[k.w];exact h.os,by rw[k.w];exact h.tape,by rw[k.w];exact h.output⟩;have f:=k.cell b o v d;by_cases hb:∃L∈s.β,b∈L.bs
 .have:=h.keep b (.inr hb);simp only[aU]at f⊢;grind
 .have:s.M b o=aa v:=by rw[<-k.iq b (λL e a=>hb ⟨L,e,a⟩)];exact d
  exact h.mem b o v this
def b5.forget(h:b5 s {s with w:=w})(k:lT s s'):b5 s' {s' with w:=w} :=
 ⟨rfl,rfl,rfl,by rw[k.w];exact h.size,λb hb=>by rw[k.w];exact h.keep b (by rw[<-k.own,<-k.β];exact hb),λb o v a=>h.mem b o v (k.less b o v a),by rw[k.w];exact h.os,by rw[k.w];exact h.tape,by rw[k.w];exact h.output⟩
def b5.uL(h:fW s):b5 s s:=⟨rfl,rfl,rfl,aZ _,λ_ _=>rfl,h,rfl,rfl,rfl⟩
def b5.trans'(h:b5 s {s with w:=w}):b5 {s with w:=w} {s with w:=w}:=b5.uL h.mem
def b5.trans{s a s2:St}(h:b5 s a)(k:b5 a s2):b5 s s2 :=
 ⟨k.β.trans h.β,k.M.trans h.M,k.own.trans h.own,gB h.size k.size,λb hb=>by rw[k.keep b (by rw[h.own,h.β];exact hb),h.keep b hb],λb o v d=>k.mem b o v (by rw[h.M];exact d),k.os.trans h.os,k.tape.trans h.tape,k.output.trans h.output⟩
end
section
open Go.Conc
open Go.ConcN (fork_knows RelBy)
open Go.ConcR (stA smA)
def kZ:Go.Loc->Option Nat
 |.cell a=>aa a.block
 |.obj r=>aa r
 |_=>af
def Ac{l:Go.Loc}(h:l.isMemory=ab):∃b,kZ l=aa b:=by cases l<;>simp[Go.Loc.isMemory]at h<;>exact⟨_,rfl⟩
def EU{x:MemAct}{a:Touch}{B:Nat}(h:x.touch?=aa a)(g:x.low B)(c:kZ a.loc=aa b):b<B:=by
 cases x with
 |access e =>
  simp[MemAct.touch?]at h;subst h;simp only at c;obtain⟨loc,wr,i⟩:=e;cases loc<;>simp[kZ]at c<;>subst c<;>exact g
 |mark m =>
  cases m<;>simp[MemAct.touch?]at h<;>subst h<;>simp[kZ]at c<;>subst c<;>exact g
 |_=>simp[MemAct.touch?]at h
structure Lay where
 Sh:Nat->Prop
 T0:Nat
 Wg:Nat
 C:Nat
 base:Nat
 kc:Nat
def qM(Y:Lay)(d:Nat->Nat)(a:Touch):Prop :=
 (∃ad,a.loc=.cell ad/\ad.block=Y.Wg/\a.kind≠.plain)∨(∃b,kZ a.loc=aa b/\d b=0/\b≠Y.Wg/\b≠Y.C/\¬Y.Sh b/\a.kind=.plain)
def pr(Y:Lay)(d:Nat->Nat)(f:Mem)(x:Nat)(a:Touch):Prop :=
 (∃ad,a.loc=.cell ad/\ad.block=Y.Wg/\a.kind=.atomic) ∨
 (a.kind=.plain/\((∃b,kZ a.loc=aa b/\d b=Y.base+x)∨(∃o,a.loc=.cell ⟨Y.C,o,af⟩/\Y.kc*x<=o/\o<Y.kc*x+Y.kc)∨(a.write=ae/\∃b o v,a.loc=.cell ⟨b,o,af⟩/\f b o=aa v)))
structure TL(Y:Lay)(d:Nat->Nat)(f:Nat->Mem)(t:Trace)(j B:Nat):Prop where
 base:1<=Y.base
 Gu:d Y.Wg=0
 hC:d Y.C=0
 ne:Y.C≠Y.Wg
 Ng:¬Y.Sh Y.Wg
 OE:¬Y.Sh Y.C
 Gv:∀b,Y.Sh b->d b=0
 ms:∀x,x<j->∀b o v,f x b o=aa v->d b=0/\b≠Y.C/\b≠Y.Wg/\¬Y.Sh b
 T0:Y.T0<=t.size
 nr:∀said,¬Race said t
 seen:∀op∈t,op.act.low B
 old:∀i a,i<Y.T0->touchAt t i=aa a->a.loc.isMemory=ab->Knows t 0 i∨(kT Y.Sh a.loc/\a.kind=.atomic)
 OF:∀x,x<j->∀i a,i<Y.T0->touchAt t i=aa a->a.loc.isMemory=ab->Knows t (Y.base+x) i∨(kT Y.Sh a.loc/\a.kind=.atomic)
 EV:∀i a b,i<Y.T0->touchAt t i=aa a->kZ a.loc=aa b->d b=0
 new:∀i a,Y.T0<=i->touchAt t i=aa a->a.loc.isMemory=ab->(t.g? i=aa 0/\qM Y d a)∨(∃x,x<j/\t.g? i=aa (Y.base+x)/\pr Y d (f x) x a)
 mw:∀x,x<j->∀i a,Y.T0<=i->touchAt t i=aa a->t.g? i=aa 0->a.write=ab->∀b o v,a.loc=.cell ⟨b,o,af⟩->f x b o=aa v->Knows t (Y.base+x) i
 over:∀i g,i<Y.T0->t.g? i=aa g->g≠0->t.counts i->∃k,t.g? k=aa 0/\HappensBefore t i k
section
variable {Y:Lay}{d hm':Nat->Nat}{f:Nat->Mem}{t u:Trace}{B B':Nat}
theorem tL{a:Touch}{g:Nat}(h:touchAt t i=aa a)(b:t.g? i=aa g):Knows t g i:=by
 obtain⟨x,c,_⟩:=touch_of h;have:x.g=g:=by simpa[Trace.g?,c]using b
 grind[knows_own]
def TL.low(h:TL Y d f t j B){a:Touch}(g:touchAt t i=aa a)(hb:kZ a.loc=aa b):b<B:=by obtain⟨x,e,c⟩:=touch_of g;exact EU c (h.seen x (tp e)) hb
def TL.rH(h:TL Y d f t j B)(hh:∀b,b<B->hm' b=d b)(p:B<=B')(r:Y.Wg<B)(hC:Y.C<B)(s:∀b,Y.Sh b->b<B)(q:∀x,x<j->∀b o v,f x b o=aa v->b<B):TL Y hm' f t j B':=by
 have e:∀i a,touchAt t i=aa a->qM Y d a->qM Y hm' a:=λi a c h1=>by
  rcases h1 with h1|⟨b,h1,h2,m⟩
  .exact .inl h1
  .exact .inr ⟨b,h1,by rw[hh b (h.low c h1)];exact h2,m⟩
 have g:∀x i a,touchAt t i=aa a->pr Y d (f x) x a->pr Y hm' (f x) x a:=λx i a c h1=>by
  rcases h1 with h1|⟨l,⟨b,h1,h2⟩|h1⟩
  .exact .inl h1
  .exact .inr ⟨l,.inl ⟨b,h1,by rw[hh b (h.low c h1)];exact h2⟩⟩
  .exact .inr ⟨l,.inr h1⟩
 refine⟨h.base,by rw[hh _ r];exact h.Gu,by rw[hh _ hC];exact h.hC,h.ne,h.Ng,h.OE,λb hb=>by rw[hh b (s b hb)];exact h.Gv b hb,λx n b o v k=>by rw[hh b (q x n b o v k)];exact h.ms x n b o v k,
  h.T0,h.nr,λop lA=>MemAct.low_mono p (h.seen op lA),h.old,h.OF,λi a b hi c hb=>by rw[hh b (h.low c hb)];exact h.EV i a b hi c hb,λi a hi c d=>?_,h.mw,h.over⟩
 rcases h.new i a hi c d with⟨h1,h2⟩|⟨x,h1,h2,m⟩
 .grind
 grind
def TL.La(h:TL Y d f t j B):Y.T0<=(t++u).size:=gB h.T0 (by simp)
theorem jL(h:i<t.size):(t++u).g? i=t.g? i:=by simp[Trace.g?,getElem?_append_old h]
def TL.qN(h:TL Y d f t j B)(u:Trace):∀i g,i<Y.T0->(t++u).g? i=aa g->g≠0->(t++u).counts i->∃k,(t++u).g? k=aa 0/\HappensBefore (t++u) i k:=by
 intro i g hi hg zC hc;have a:=cA hi h.T0;rw[jL a]at hg;obtain⟨k,b,hb⟩:=h.over i g hi hg zC ((counts_old a).1 hc);have c:k<t.size:=by unfold Trace.g? at b;grind
 exact⟨k,by grind[jL],hb_app u hb⟩
def Ad{c:Nat->Prop}{l:Go.Loc}(h:kT c l)(a:kZ l=aa b):c b:=by cases l<;>simp[kZ]at a<;>subst a<;>exact h
def TL.apart(h:TL Y d f t j B){x:Nat}(r:x<j){a b:Touch}{said:Bool}(l:qM Y d b)(n:pr Y d (f x) x a)(hl:a.loc=b.loc)(D:a.kind=.plain∨b.kind=.plain∨(said=ab/\a.kind=.said/\b.kind=.said))(G:b.kind=.plain->b.write=ab->∀m o v,b.loc=.cell ⟨m,o,af⟩->f x m o≠aa v)(q:a.write=ab∨b.write=ab):False:=by
 have s:=h.base;rcases n with⟨ad,e1,e2,e3⟩|⟨z,⟨c,e1,e2⟩|⟨o,e1,_⟩|⟨e1,m,o,v,e2,e3⟩⟩
 .rcases l with⟨i,e,g,k⟩|⟨c,e,g,k,_⟩
  .grind
  .rw[<-hl,e1]at e;simp only[kZ,dk]at e;grind
 .rcases l with⟨i,e,g,k⟩|⟨p,e,g,k,_⟩
  .rw[hl,e]at e1;simp only[kZ,dk]at e1;rw[<-e1,g,h.Gu]at e2;omega
  grind
 .rcases l with⟨i,e,g,k⟩|⟨p,e,g,k,w,_⟩
  .rw[<-hl,e1]at e;cases e;exact h.ne g
  .rw[<-hl,e1]at e;simp only[kZ,dk]at e;grind
 .obtain⟨F,A,C,E⟩:=h.ms x r m o v e3;rcases l with⟨i,e,g,k⟩|⟨p,e,g,k,w,_,y⟩
  .grind
  grind
def TL.app0(h:TL Y d f t j B)(G:∀op∈u,op.g=0)(hl:∀op∈u,op.act.low B)(F:∀op∈u,∀a,op.act.touch?=aa a->a.loc.isMemory=ab->qM Y d a)(N:∀op∈u,∀a,op.act.touch?=aa a->a.kind=.plain->a.write=ab->∀x,x<j->∀b o v,a.loc=.cell ⟨b,o,af⟩->f x b o≠aa v):TL Y d f (t++u) j B:=by
 have e:∀{i:Nat} {a:Touch},touchAt (t++u) i=aa a->(i<t.size/\touchAt t i=aa a)∨(t.size<=i/\(t++u).g? i=aa 0/\∃op∈u,op.act.touch?=aa a):=by
  intro i a k;obtain⟨x,p,A⟩:=touch_of k;rcases getElem?_append_cases p with⟨hi,H⟩|⟨hi,r⟩
  .grind [touchAt_of]
  .exact .inr ⟨hi,by simp[Trace.g?,p,G x r],x,r,A⟩
 refine⟨h.base,h.Gu,h.hC,h.ne,h.Ng,h.OE,h.Gv,h.ms,h.La,λsaid=>?_,seen_app h.seen hl,λi a hi k d=>?_,λx p i a hi k d=>?_,λi a b hi k hb=>?_,λi a hi k d=>?_,λx p i a hi k w z b o v l D=>?_,h.qN u⟩
 .refine noRace_append (h.nr said) G λi a k op lA b hb hc=>?_;have C:b.loc.isMemory=ab:=by rw[<-hc.1];exact hc.2.1
  have E:=F op lA b hb C;rcases cv i Y.T0 with hi|hi
  .rcases h.old i a hi k hc.2.1 with L|⟨J,M⟩
   .exact L
   .exfalso;obtain⟨c,m⟩:=Ac hc.2.1;have s:=Ad J m;rcases E with⟨ad,e1,e2,e3⟩|⟨K,e1,e2,e3,P,O,I⟩
    .rw[hc.1,e1]at m;simp only[kZ,dk]at m;rw[<-m,e2]at s;exact h.Ng s
    .rw[hc.1,e1]at m;grind
  .rcases h.new i a hi k hc.2.1 with⟨w,_⟩|⟨x,p,w,y⟩
   .grind [tL]
   .exact(h.apart p E y hc.1 hc.2.2.2 (λh1 h2=>N op lA b hb h1 h2 x p) hc.2.2.1).elim
 .have n:touchAt t i=aa a:=by rw[<-touchAt_old (u:=u) (cA hi h.T0)];exact k
  exact(h.old i a hi n d).imp (·.app u) id
 .have n:touchAt t i=aa a:=by rw[<-touchAt_old (u:=u) (cA hi h.T0)];exact k
  exact(h.OF x p i a hi n d).imp (·.app u) id
 .have n:touchAt t i=aa a:=by rw[<-touchAt_old (u:=u) (cA hi h.T0)];exact k
  exact h.EV i a b hi n hb
 .rcases e k with⟨h1,h2⟩|⟨_,h2,op,lA,q⟩
  .rw[jL h1];exact h.new i a hi h2 d
  grind
 .rcases e k with⟨h1,h2⟩|⟨_,h2,op,lA,q⟩
  .rw[jL h1]at w;exact(h.mw x p i a hi h2 w z b o v l D).app u
  .exfalso;rcases F op lA a q (by rw[l];rfl)with⟨ad,e1,e2,e3⟩|⟨K,_,_,_,_,_,I⟩
   .rw[l]at e1;cases e1;exact(h.ms x p b o v D).2.2.1 e2
   grind
def TL.appW(h:TL Y d f t j B){x:Nat}(A:x<j)(V:∀op∈u,op.g=Y.base+x)(hl:∀op∈u,op.act.low B)(ht:∀op∈u,∀a,op.act.touch?=aa a->a.loc.isMemory=ab->pr Y d (f x) x a):TL Y d f (t++u) j B:=by
 have WH:=h.base;have r:∀{i:Nat} {a:Touch},touchAt (t++u) i=aa a->(i<t.size/\touchAt t i=aa a)∨(t.size<=i/\(t++u).g? i=aa (Y.base+x)/\∃op∈u,op.act.touch?=aa a):=by
  intro i a q;obtain⟨y,z,O⟩:=touch_of q;rcases getElem?_append_cases z with⟨hi,Z⟩|⟨hi,I⟩
  .grind [touchAt_of]
  .exact .inr ⟨hi,by simp[Trace.g?,z,V y I],y,I,O⟩
 refine⟨h.base,h.Gu,h.hC,h.ne,h.Ng,h.OE,h.Gv,h.ms,h.La,λsaid=>?_,seen_app h.seen hl,λi a hi q d=>?_,λy z i a hi q d=>?_,λi a b hi q hb=>?_,λi a hi q d=>?_,λy z i a hi q G E b o v H K=>?_,h.qN u⟩
 .refine noRace_append (h.nr said) V λi a q op lA b hb hc=>?_;have U:b.loc.isMemory=ab:=by rw[<-hc.1];exact hc.2.1
  have D:=ht op lA b hb U;obtain⟨c,l⟩:=Ac hc.2.1;rcases cv i Y.T0 with hi|hi
  .rcases h.OF x A i a hi q hc.2.1 with S|⟨hs,hka⟩
   .exact S
   .exfalso;have n:=Ad hs l;rw[hc.1]at l;rcases D with⟨ad,e1,e2,e3⟩|⟨e0,⟨c',e1,e2⟩|⟨o,e1,_⟩|⟨e1,p,o,v,e2,e3⟩⟩
    .rw[e1]at l;simp only[kZ,dk]at l;rw[<-l,e2]at n;exact h.Ng n
    .rw[e1]at l;simp only[dk]at l;rw[<-l]at n;rw[h.Gv _ n]at e2;omega
    .rw[e1]at l;simp only[kZ,dk]at l;rw[<-l]at n;exact h.OE n
    .rw[e2]at l;simp only[kZ,dk]at l;rw[<-l]at n;exact(h.ms x A p o v e3).2.2.2 n
  .rcases h.new i a hi q hc.2.1 with⟨G,Q⟩|⟨y,z,G,J⟩
   ·
    by_cases F:a.write=ab/\∃p o v,a.loc=.cell ⟨p,o,af⟩/\f x p o=aa v
    .obtain⟨h1,p,o,v,h2,W⟩:=F;exact h.mw x A i a hi q G h1 p o v h2 W
    .exfalso;refine h.apart (said:=said) A Q D hc.1.symm ?_ (λ_ N p o v k K=>F ⟨N,p,o,v,k,K⟩) hc.2.2.1.symm;rcases hc.2.2.2 with S|S|⟨h1,h2,W⟩
     .grind
     .grind
     grind
   .by_cases T:y=x
    .grind [tL]
    .exfalso;obtain⟨k,_,E,L⟩:=hc;rcases J with⟨ad,e1,e2,e3⟩|⟨e0,⟨c1,e1,e2⟩|⟨o,e1,e1l,e1u⟩|⟨e1,p,o,v,e2,e3⟩⟩
     .rcases D with⟨C,e,m,w⟩|⟨f0,⟨c2,e,m⟩|⟨o,e,_⟩|⟨e,p,o,v,m,w⟩⟩
      .grind
      .rw[<-k,e1]at e;simp only[kZ,dk]at e;rw[<-e,e2,h.Gu]at m;omega
      .rw[<-k,e1]at e;cases e;exact h.ne e2
      .rw[<-k,e1]at m;cases m;exact(h.ms x A p o v w).2.2.1 e2
     .rcases D with⟨C,e,m,w⟩|⟨f0,⟨c2,e,m⟩|⟨o,e,_⟩|⟨e,p,o,v,m,w⟩⟩
      .rw[k,e]at e1;simp only[kZ,dk]at e1;rw[<-e1,m,h.Gu]at e2;omega
      .grind
      .rw[k,e]at e1;simp only[kZ,dk]at e1;rw[<-e1,h.hC]at e2;omega
      .rw[k,m]at e1;simp only[kZ,dk]at e1;rw[<-e1,(h.ms x A p o v w).1]at e2;omega
     .rcases D with⟨C,e,m,w⟩|⟨f0,⟨c2,e,m⟩|⟨R,e,P,M⟩|⟨e,p,R,v,m,w⟩⟩
      .rw[<-k,e1]at e;cases e;exact h.ne m
      .rw[<-k,e1]at e;simp only[kZ,dk]at e;rw[<-e,h.hC]at m;omega
      .rw[<-k,e1]at e;cases e;rcases Nat.lt_or_gt_of_ne T with h1|h1
       .have:=tq Y.kc (show y+1<=x from h1);grind
       .have:=tq Y.kc (show x+1<=y from h1);grind
      .rw[<-k,e1]at m;cases m;exact(h.ms x A _ _ v w).2.1 rfl
     .rcases D with⟨C,e,m,w⟩|⟨f0,⟨c2,e,m⟩|⟨R,e,P,M⟩|⟨e,b2,R,v',m,w⟩⟩
      .rw[<-k,e2]at e;cases e;exact(h.ms y z p o v e3).2.2.1 m
      .rw[<-k,e2]at e;simp only[kZ,dk]at e;rw[<-e,(h.ms y z p o v e3).1]at m;omega
      .rw[<-k,e2]at e;cases e;exact(h.ms y z _ _ v e3).2.1 rfl
      grind
 .have s:touchAt t i=aa a:=by rw[<-touchAt_old (u:=u) (cA hi h.T0)];exact q
  exact(h.old i a hi s d).imp (·.app u) id
 .have s:touchAt t i=aa a:=by rw[<-touchAt_old (u:=u) (cA hi h.T0)];exact q
  exact(h.OF y z i a hi s d).imp (·.app u) id
 .have s:touchAt t i=aa a:=by rw[<-touchAt_old (u:=u) (cA hi h.T0)];exact q
  exact h.EV i a b hi s hb
 .rcases r q with⟨h1,h2⟩|⟨_,h2,op,lA,X⟩
  .rw[jL h1];exact h.new i a hi h2 d
  grind
 .rcases r q with⟨h1,h2⟩|⟨_,h2,_⟩
  .rw[jL h1]at G;exact(h.mw y z i a hi h2 G E b o v H K).app u
  grind
def TL.mute(h:TL Y d f t j B){g:Nat}(q:∀op∈u,op.g=g)(hl:∀op∈u,op.act.low B)(r:∀op∈u,op.act.touch?=af):TL Y d f (t++u) j B:=by
 have old:∀{i:Nat} {a:Touch},touchAt (t++u) i=aa a->i<t.size/\touchAt t i=aa a:=by intro i a c;obtain⟨y,s,p⟩:=touch_of c;grind[touchAt_of]
 refine⟨h.base,h.Gu,h.hC,h.ne,h.Ng,h.OE,h.Gv,h.ms,h.La,λsaid=>noRace_append (h.nr said) q λi a _ op lA b hb _=>(by grind),seen_app h.seen hl,λi a hi c d=>(h.old i a hi (old c).2 d).imp (·.app u) id,
  λx l i a hi c d=>(h.OF x l i a hi (old c).2 d).imp (·.app u) id,λi a b hi c hb=>h.EV i a b hi (old c).2 hb,λi a hi c d=>?_,λx l i a hi c m k b o v e n=>?_,h.qN u⟩
 .rw[jL (old c).1];exact h.new i a hi (old c).2 d
 .rw[jL (old c).1]at m;exact(h.mw x l i a hi (old c).2 m k b o v e n).app u
def TL.fork(h:TL Y d f t j B){x y:MemOp}(n:x.g=0/\x.act=.go (Y.base+j))(m:y.g=Y.base+j/\y.act=.start)(A:Deaf t 0=0)(D:Deaf t (Y.base+j)=0)(G:∀b o v,f j b o=aa v->d b=0/\b≠Y.C/\b≠Y.Wg/\¬Y.Sh b):TL Y d f (t++#[x,y]) (j+1) B:=by
 have F:∀op∈#[x,y],op.act.touch?=af:=by
  intro op lA;simp only[List.mem_toArray,dD,oA,or_false]at lA;rcases lA with rfl|rfl
  .rw[n.2];rfl
  .rw[m.2];rfl
 have k:∀op∈#[x,y],op.act.low B:=by
  intro op lA;simp only[List.mem_toArray,dD,oA,or_false]at lA;rcases lA with rfl|rfl
  .rw[n.2];trivial
  .rw[m.2];trivial
 have old:∀{i:Nat} {a:Touch},touchAt (t++#[x,y]) i=aa a->i<t.size/\touchAt t i=aa a:=by intro i a c;obtain⟨z,q,E⟩:=touch_of c;grind[touchAt_of]
 have w:∀z,z<j+1->∀b o v,f z b o=aa v->d b=0/\b≠Y.C/\b≠Y.Wg/\¬Y.Sh b:=λz q b o v p=>by
  rcases cv z j with h1|h1
  .exact h.ms z h1 b o v p
  grind
 refine⟨h.base,h.Gu,h.hC,h.ne,h.Ng,h.OE,h.Gv,w,h.La,λsaid=>?_,seen_app h.seen k,λi a hi c d=>(h.old i a hi (old c).2 d).imp (·.app _) id,
  λz q i a hi c d=>?_,λi a b hi c hb=>h.EV i a b hi (old c).2 hb,λi a hi c d=>?_,λz q i a hi c r s b o v l p=>?_,h.qN _⟩
 .have e:t++#[x,y]=(t++#[x])++#[y]:=by grind
  rw[e];refine noRace_append (g:=Y.base+j) (noRace_append (g:=0) (h.nr said) (λop lA=>by grind) (λi a _ op lA b hb _=>?_)) (λop lA=>by grind) (λi a _ op lA b hb _=>?_)
  .grind
  grind
 .rcases cv z j with h1|h1
  .exact(h.OF z h1 i a hi (old c).2 d).imp (·.app _) id
  .obtain rfl:z=j:=by omega
   exact(h.old i a hi (old c).2 d).imp (fork_knows n m A D) id
 .rw[jL (old c).1];rcases h.new i a hi (old c).2 d with h1|⟨z,h1,h2⟩
  .grind
  grind
 .rw[jL (old c).1]at r;rcases cv z j with h1|h1
  .exact(h.mw z h1 i a hi (old c).2 r s b o v l p).app _
  .obtain rfl:z=j:=by omega
   exact fork_knows n m A D (tL (old c).2 r)
def TL.UT(h:TL Y d f t j B)(K:Deaf t 0=0)(H:NoRelease (stA Y.Wg) t){q:Nat}(I:t.act? q=aa (.mark (.acquire (stA Y.Wg))))(y:t.g? q=aa 0)(C:t.heard q)(N:∀x,x<j->∃r,RelBy (stA Y.Wg) t (Y.base+x) r/\r<q):Past (kT λb=>Y.Sh b∨b=Y.Wg) B t:=by
 have m:∀x,x<j->∀i,t.g? i=aa (Y.base+x)->t.counts i->HappensBefore t i q:=by
  intro x w i p v;obtain⟨r,c,E⟩:=N x w;have e:HappensBefore t r q:=.single (.inr ⟨.marked E (.inr c.act) I (λk _ _=>H k),c.heard,C⟩);have O:i<=r:=Nat.le_of_not_lt λn=>c.after i n p v;rcases cv i r with n|L
  .exact .trans (.single (.inl ⟨n,_,p,c.g⟩)) e
  grind
 have o:∀{l:Go.Loc},kT Y.Sh l->kT (λb=>Y.Sh b∨b=Y.Wg) l:=λ{l} hl=>by cases l<;>first|exact .inl hl|exact hl
 refine⟨h.nr,λi a s d=>?_,λi g p F v=>?_,K,h.seen⟩
 .rcases cv i Y.T0 with hi|hi
  .exact(h.old i a hi s d).imp id λ⟨h1,h2⟩=>⟨o h1,h2⟩
  .rcases h.new i a hi s d with⟨h1,_⟩|⟨x,w,p,G⟩
   .grind [tL]
   .rcases G with⟨ad,e1,e2,e3⟩|⟨P,_⟩
    .exact .inr ⟨by rw[e1];exact .inr e2,e3⟩
    .left;have v:t.counts i:=⟨a,s,d,.inl (by grind)⟩
     obtain⟨z,M,D⟩:=rq.1 y;exact⟨q,z,M,D,.inr (m x w i p v)⟩
 .rcases cv i Y.T0 with hi|hi
  .exact h.over i g hi p F v
  .obtain⟨a,s,d,J⟩:=v;rcases h.new i a hi s d with⟨h1,_⟩|⟨x,w,A,G⟩
   .grind
   .exact⟨q,y,m x w i A ⟨a,s,d,J⟩⟩
def TL.start{Y:Lay}{t:Trace}{B:Nat}{f:Nat->Mem}(e:Past (kT Y.Sh) B t)(n:Y.T0=t.size)(hb:1<=Y.base)(b:Y.C≠Y.Wg)(h:¬Y.Sh Y.Wg)(k:¬Y.Sh Y.C):TL Y (λ_=>0) f t 0 B :=
 ⟨hb,rfl,rfl,b,h,k,λ_ _=>rfl,λx c=>absurd c (gA x),by omega,e.clean,e.seen,λi a _ j d=>e.known i a j d,λx c=>absurd c (gA x),λ_ _ _ _ _ _=>rfl,
  λi a hi j _=>by
   obtain⟨x,c,_⟩:=touch_of j
   grind,λx c=>absurd c (gA x),λi g _ l b m=>e.over i g l b m⟩
end
end
section
open Go.Conc
open Go.ConcN (WD CTag Mode Vc Ssum pend phi cnt WgLive PayAt Has RW DWs WSit RelBy sumTo upd upd_same upd_ne AtR0 get_map_set get_map_set_same norel_of Deaf_still)
open Go.ConcR (KK WgAt stA smA rd wr mk Payload g_of_ofEvents)
def Cx.work(P:aK):Cx P:={main:=ae,rely:=b5,wm:=λ_ _ _=>False,hZ:=id,zI:=True}
def Cx.lead(P:aK)(ty:ay)(Wg:Nat):Cx P:={main:=ab,rely:=λs s'=>b5 s s'/\(WgLive ty Wg s.w->WgLive ty Wg s'.w),wm:=λ_ _ _=>False,hZ:=λh=>h.1,zI:=False}
instance (P:aK):(Cx.work P).gY:=⟨ar⟩
def E0:St->St->Array Event->Prop:=λ_ _ _=>False
def Es(Wg:Nat):St->St->Array Event->Prop:=λs s' es=>s'=s/\∃a:Addr,a.block=Wg/\(es=#[mk (.read a)]∨es=#[mk (.write a)])
def Nh:Nat->Go.Loc->Prop:=λ_ _=>False
variable [Payload]
structure Ru(C N lo k:Nat)(vs:Nat->aj)(w w':aA):Prop where
 tape:w'.tape=w.tape
 os:w'.os=w.os
 output:w'.output=w.output
 size:w'.heap.size=w.heap.size
 block:∀b,b≠C->w'.heap[b]?=w.heap[b]?
 pay:PayAt C N w'
 out:∀o,(o<lo∨lo+k<=o)->w'.cell? ⟨C,o,af⟩=w.cell? ⟨C,o,af⟩
 new:∀i,i<k->w'.cell? ⟨C,lo+i,af⟩=aa (vs i)
section
variable (P:aK)(ty:ay)(Y:Lay)(N:Nat)(val:Nat->Nat->aj)
def Hj(x:Nat)(g:ak)(s:St):Prop :=
 g.status=.running/\∀w1,b5 s {s with w:=w1}->PayAt Y.C N w1->WgLive ty Y.Wg w1 ->
  ∃g' w2 es,aG P ae g w1=.go g' w2 es/\Ru Y.C N (Y.kc*x) Y.kc (val x) w1 w2/\(∀e∈es,∃o,e=⟨.cell ⟨Y.C,o,af⟩,ab,ae⟩/\Y.kc*x<=o/\o<Y.kc*x+Y.kc) /\
   ∃m,Goes P ae (RW ty Y.Wg Y.C N 0 (Y.kc*x)) Go.ConcR.DC0 (AtR0 P ty Y.Wg Y.C N 0 (Y.kc*x+1) (val x 0)) m g' w2
end
structure k6(f:Nat->Nat)(r:Mem)(g:Nat)(s:St):Prop where
 blk:∀b,(s.own b∨∃L∈s.β,b∈L.bs)->f b=g/\b<s.w.heap.size
 M:∀b o v,s.M b o=aa v->(f b=g∨r b o=aa v)/\b<s.w.heap.size
structure iZ(Y:Lay)(f:Nat->Nat)(A:Nat->Mem)(j:Nat)(s:St):Prop where
 blk:∀b,(s.own b∨∃L∈s.β,b∈L.bs)->f b=0/\b≠Y.C/\b≠Y.Wg/\¬Y.Sh b/\b<s.w.heap.size
 M:∀b o v,s.M b o=aa v->f b=0/\b≠Y.C/\b≠Y.Wg/\¬Y.Sh b/\b<s.w.heap.size
 ms:∀x,x<j->∀b o v,A x b o=aa v->s.M b o=aa v
structure EW(Y:Lay)(f:Nat->Nat)(r:Mem)(y:Nat)(w w':aA):Prop where
 size:w.heap.size<=w'.heap.size
 blk:∀b,b<w.heap.size->f b=Y.base+y->w'.heap[b]?=w.heap[b]?
 cell:∀b o v,r b o=aa v->w.cell? ⟨b,o,af⟩=aa v->w'.cell? ⟨b,o,af⟩=aa v
 pay:∀o,Y.kc*y<=o->o<Y.kc*y+Y.kc->w'.cell? ⟨Y.C,o,af⟩=w.cell? ⟨Y.C,o,af⟩
 os:w'.os=w.os
 tape:w'.tape=w.tape
 output:w'.output=w.output
omit [Payload]in
def EW.refl(Y:Lay)(f:Nat->Nat)(r:Mem)(y:Nat)(w:aA):EW Y f r y w w:=⟨aZ _,λ_ _ _=>rfl,λ_ _ _ _ h=>h,λ_ _ _=>rfl,rfl,rfl,rfl⟩
omit [Payload]in
def EW.at(Y:Lay)(f:Nat->Nat)(r:Mem)(y:Nat)(w:aA)(d:Nat):EW Y f r y w (w.at d):=⟨aZ _,λ_ _ _=>rfl,λ_ _ _ _ h=>h,λ_ _ _=>rfl,rfl,rfl,rfl⟩
structure B8(Y:Lay)(f:Nat->Nat)(w w':aA):Prop where
 size:w.heap.size<=w'.heap.size
 blk:∀b,b<w.heap.size->f b=0->b≠Y.C->b≠Y.Wg->w'.heap[b]?=w.heap[b]?
 os:w'.os=w.os
 tape:w'.tape=w.tape
 output:w'.output=w.output
omit [Payload]in
def ja(h:w'.heap[b]?=w.heap[b]?)(o:Nat):w'.cell? ⟨b,o,af⟩=w.cell? ⟨b,o,af⟩:=by simp[aU,h]
omit [Payload]in
def b5.more(h:b5 s {s with w:=w})(u:w.heap.size<=w'.heap.size)(c:∀b,(s.own b∨∃L∈s.β,b∈L.bs)->w'.heap[b]?=w.heap[b]?)(W:∀b o v,s.M b o=aa v->w.cell? ⟨b,o,af⟩=aa v->w'.cell? ⟨b,o,af⟩=aa v)(l:w'.os=w.os)(p:w'.tape=w.tape)(z:w'.output=w.output):b5 s {s with w:=w'} :=
 ⟨rfl,rfl,rfl,gB h.size u,λb J=>by show w'.heap[b]?=_;rw[c b J];exact h.keep b J,λb o v q=>W b o v q (h.mem b o v q),l.trans h.os,p.trans h.tape,z.trans h.output⟩
section
variable {Y:Lay}{f hm':Nat->Nat}{A:Nat->Mem}{y:Nat}
omit [Payload]in
def k6.Hk(n:k6 f (A y) (Y.base+y) s)(h:b5 s {s with w:=w})(k:EW Y f (A y) y w w'):b5 s {s with w:=w'}:=by
 have u:=h.size;refine h.more k.size (λb c=>?_) (λb o v q K=>?_) k.os k.tape k.output
 .obtain⟨l,p⟩:=n.blk b c;exact k.blk b (cA p u) l
 .obtain⟨l,p⟩:=n.M b o v q;rcases l with l|l
  .rw[ja (k.blk b (cA p u) l) o];exact K
  .exact k.cell b o v l K
omit [Payload]in
def k6.rH{r:Mem}{g:Nat}(n:k6 f r g s)(h:s.w.heap.size<=w.heap.size)(X:∀b,b<w.heap.size->hm' b=f b):k6 hm' r g s :=
 ⟨λb c=>let ⟨l,p⟩:=n.blk b c;⟨by grind,p⟩,λb o v q=>let ⟨l,p⟩:=n.M b o v q;⟨by grind,p⟩⟩
omit [Payload]in
def iZ.Hk(n:iZ Y f A j s)(h:b5 s {s with w:=w})(k:B8 Y f w w'):b5 s {s with w:=w'}:=by
 have u:=h.size;refine h.more k.size (λb c=>?_) (λb o v q K=>?_) k.os k.tape k.output
 .obtain⟨l,p,z,H,D⟩:=n.blk b c;exact k.blk b (cA D u) l p z
 .obtain⟨l,p,z,H,D⟩:=n.M b o v q;rw[ja (k.blk b (cA D u) l p z) o];exact K
omit [Payload]in
def iZ.rH(n:iZ Y f A j s)(h:s.w.heap.size<=w.heap.size)(X:∀b,b<w.heap.size->hm' b=f b):iZ Y hm' A j s :=
 ⟨λb c=>let ⟨l,p,z,H,D⟩:=n.blk b c;⟨by grind,p,z,H,D⟩,
  λb o v q=>let ⟨l,p,z,H,D⟩:=n.M b o v q;⟨by grind,p,z,H,D⟩,n.ms⟩
omit [Payload]in
def k6.rely{r:Mem}{g:Nat}(n:k6 f r g s)(h:s.w.heap.size<=w.heap.size):k6 f r g {s with w:=w} :=
 ⟨λb c=>let ⟨l,p⟩:=n.blk b c;⟨l,cA p h⟩,λb o v q=>let ⟨l,p⟩:=n.M b o v q;⟨l,cA p h⟩⟩
omit [Payload]in
def iZ.rely(n:iZ Y f A j s)(h:s.w.heap.size<=w.heap.size):iZ Y f A j {s with w:=w} :=
 ⟨λb c=>let ⟨l,p,z,H,D⟩:=n.blk b c;⟨l,p,z,H,cA D h⟩,λb o v q=>let ⟨l,p,z,H,D⟩:=n.M b o v q;⟨l,p,z,H,cA D h⟩,n.ms⟩
omit [Payload]in
theorem k6.ghost{r:Mem}{g:Nat}(n:k6 f r g s)(k:ey s s'):k6 f r g s':=by
 refine⟨λb c=>by rw[k.w];exact n.blk b (k.blk b c),λb o v q=>?_⟩;rw[k.w];by_cases c:∃L∈s.β,b∈L.bs
 .obtain⟨l,p⟩:=n.blk b (.inr c);grind
 .exact n.M b o v (by rw[<-k.iq b (λL E t=>c ⟨L,E,t⟩)];exact q)
omit [Payload]in
def k6.forget{r:Mem}{g:Nat}(n:k6 f r g s)(k:lT s s'):k6 f r g s' :=
 ⟨λb c=>by rw[k.w];exact n.blk b (by rw[<-k.own,<-k.β];exact c),λb o v q=>by rw[k.w];exact n.M b o v (k.less b o v q)⟩
omit [Payload]in
theorem iZ.ghost(n:iZ Y f A j s)(k:ey s s'):iZ Y f A j s':=by
 refine⟨λb c=>by rw[k.w];exact n.blk b (k.blk b c),λb o v q=>?_,λx O b o v q=>k.mem _ _ _ (n.ms x O b o v q)⟩;rw[k.w];by_cases c:∃L∈s.β,b∈L.bs
 .exact n.blk b (.inr c)
 .exact n.M b o v (by rw[<-k.iq b (λL E t=>c ⟨L,E,t⟩)];exact q)
def me(f:Nat->Nat)(B g:Nat):Nat->Nat:=λb=>if b<B then f b else g
omit [Payload]in
theorem ez{f:Nat->Nat}{B g:Nat}(h:b<B):me f B g b=f b:=by simp[me,h]
omit [Payload]in
theorem rI{f:Nat->Nat}{B g:Nat}(h:B<=b):me f B g b=g:=by simp[me,ly.2 h]
omit [Payload]in
def k6.step{r:Mem}{g:Nat}(n:k6 f r g s)(F:aD σ' s')(st:Step σ s σ' s'):k6 (me f s.w.heap.size g) r g s':=by
 refine⟨λb c=>?_,λb o v q=>?_⟩
 .rcases c with c|⟨L,E,c⟩
  .rw[st.own]at c;obtain⟨l,p⟩:=n.blk b (.inl c);exact⟨by grind[ez],cA p st.size⟩
  .have G:=F.lt L E b c;rcases st.tB L E b c with l|⟨Q,I,l⟩
   .grind [rI]
   .obtain⟨k1,R⟩:=n.blk b (.inr ⟨Q,I,l⟩);grind[ez]
 .have G:=fW.lt F.mem q;rcases cv b s.w.heap.size with l|l
  .rw[ez l];by_cases c:∃L∈s.β,b∈L.bs
   .exact⟨.inl (n.blk b (.inr c)).1,G⟩
   .rw[st.iq b l (λL E t=>c ⟨L,E,t⟩)]at q;exact⟨(n.M b o v q).1,G⟩
  grind[rI]
omit [Payload]in
def iZ.step(n:iZ Y f A j s)(F:aD σ' s')(st:Step σ s σ' s')(Z:Y.Wg<s.w.heap.size)(hC:Y.C<s.w.heap.size)(hS:∀b,Y.Sh b->b<s.w.heap.size):iZ Y (me f s.w.heap.size 0) A j s':=by
 have S:∀b,s.w.heap.size<=b->b<s'.w.heap.size->me f s.w.heap.size 0 b=0/\b≠Y.C/\b≠Y.Wg/\¬Y.Sh b/\b<s'.w.heap.size:=λb l p =>
  ⟨rI l,by omega,by omega,λh=>by grind,p⟩
 refine⟨λb c=>?_,λb o v q=>?_,λx O b o v q=>st.mem _ _ _ (n.ms x O b o v q)⟩
 .rcases c with c|⟨L,E,c⟩
  .rw[st.own]at c;obtain⟨l,p,z,H,D⟩:=n.blk b (.inl c);exact⟨by grind[ez],p,z,H,cA D st.size⟩
  .have G:=F.lt L E b c;rcases st.tB L E b c with l|⟨Q,I,l⟩
   .grind
   .obtain⟨k1,R,T,U,V⟩:=n.blk b (.inr ⟨Q,I,l⟩);grind[ez]
 .have G:=fW.lt F.mem q;rcases cv b s.w.heap.size with l|l
  .by_cases c:∃L∈s.β,b∈L.bs
   .obtain⟨k1,R,T,U,V⟩:=n.blk b (.inr c);grind[ez]
   .rw[st.iq b l (λL E t=>c ⟨L,E,t⟩)]at q;obtain⟨k1,R,T,U,V⟩:=n.M b o v q;grind[ez]
  grind
end
end
section
open Go.Conc
open Go.ConcN (WD CTag Mode Vc Ssum pend phi cnt WgLive PayAt Has RW DWs WSit RelBy sumTo upd upd_same upd_ne AtR0 get_map_set get_map_set_same norel_of Deaf_still)
open Go.ConcR (KK WgAt stA smA rd wr mk Payload g_of_ofEvents)
variable [Payload]
section
variable (P:aK)(ty:ay)(Y:Lay)(N:Nat)(val:Nat->Nat->aj)(l:Nat->Nat)(c:Nat->Mem)
inductive WS (x:Nat):Nat->Nat->Rk->Nat->ak->aA->Prop
 |am {r:Rk} {g:ak} {s:St} {w:aA}:jD (Cx.work P) E0 (Hj P ty Y N val x) r g s->b5 s {s with w:=w}->k6 l (c x) (Y.base+x) s->WS x 1 7 r 0 g w
 |rel {m:Nat} {g:ak} {w:aA}:Goes P ae (RW ty Y.Wg Y.C N 0 (Y.kc*x)) Go.ConcR.DC0 (AtR0 P ty Y.Wg Y.C N 0 (Y.kc*x+1) (val x 0)) m g w->WS x 0 7 (Rk.nat m) 0 g w
 |tail {st m d:Nat} {g:ak} {w:aA}:st<=6->WSit P ty Y.Wg Y.C N Nh Nh 0 (Y.kc*x+1) (val x 0) st m d g w->WS x 0 st (Rk.nat m) d g w
structure Com(j:Nat)(n:Array ak)(w:aA)(t:Trace)(D:Nat->WD)(A:Nat->Nat)(K:Nat->Rk)(p:Nat):Prop where
 size:n.size=Y.base+j
 lv:∀i g,0<i->i<Y.base->n[i]?=aa g->∃m,K i=Rk.nat m/\QuitsD P m (Deaf t i) g
 above:∀i,Y.base+j<=i->Deaf t i=0
 wk:∀x,x<j->∃g,n[Y.base+x]?=aa g/\WS P ty Y N val l c x (A x) (D x).stage (K (Y.base+x)) (D x).deaf g w
 tl:TL Y l c t j w.heap.size
 norel:qA t
 deaf0:Deaf t 0=p
 deafW:∀x,x<j->Deaf t (Y.base+x)=(D x).deaf
 rel:∀x,x<j->(D x).stage<=6->∃r,RelBy (stA Y.Wg) t (Y.base+x) r
 wA:∀x,x<j->A x=0->∀i,1<=i->i<Y.kc->w.cell? ⟨Y.C,Y.kc*x+i,af⟩=aa (val x i)
 Ae:∀x,x<j->(D x).stage<=6->Has Y.C (Y.kc*x) (val x 0) w
 pay:PayAt Y.C N w
 live:WgLive ty Y.Wg w
 zD:Y.Wg<w.heap.size
 BE:Y.C<w.heap.size
 Ko:∀b,Y.Sh b->b<w.heap.size
 kc:0<Y.kc
 Lb:∀y,y<j->∀b o v,c y b o=aa v->b<w.heap.size
end
section
variable {P:aK}{ty:ay}{Y:Lay}{N:Nat}{val:Nat->Nat->aj}{l hm':Nat->Nat}{c:Nat->Mem}{x:Nat}{n:Array ak}{t:Trace}{D:Nat->WD}{A:Nat->Nat}{K:Nat->Rk}{p:Nat}
def RW.Hk(k:EW Y l (c x) x w w')(hl:WgLive ty Y.Wg w')(a:PayAt Y.C N w')(d:0<Y.kc):RW ty Y.Wg Y.C N 0 (Y.kc*x+1-1) w w' :=
 ⟨λb hb=>absurd hb (gA b),λ_=>hl,λ_=>a,k.pay _ (aZ _) (by grind)⟩
def WS.Hk{a st d:Nat}{r:Rk}{g:ak}(h:WS P ty Y N val l c x a st r d g w)(k:EW Y l (c x) x w w')(hl:WgLive ty Y.Wg w')(e:PayAt Y.C N w')(i:0<Y.kc)(hh:∀b,b<w.heap.size->hm' b=l b):
  WS P ty Y N val hm' c x a st r d g w':=by
 cases h with
 |am h1 h2 h3=>exact .am h1 (h3.Hk h2 k) (h3.rH h2.size hh)
 |rel h1=>exact .rel (Goes.rely (λ_ _ _ h1 h2=>h1.trans h2) h1 (RW.Hk k hl e i))
 |tail h0 h1=>exact .tail h0 (h1.rely (RW.Hk k hl e i))
omit [Payload]in
def jD.run{X:Cx P}{E:St->St->Array Event->Prop}{S:ak->St->Prop}(q:∀g s,S g s->g.status=.running):∀{r:Rk}{g:ak}{s:St},jD X E S r g s->g.status=.running
 |.leaf,_,_,h=>q _ _ h
 |.node f,g,s,h=>by
  rcases h with h|⟨s',_,h⟩|⟨h,_⟩
  .grind
  .exact jD.run q (r:=f s) h
  grind
def WS.status{a st d:Nat}{r:Rk}{g:ak}(h:WS P ty Y N val l c x a st r d g w):g.status=.running∨g.status=.finished:=by
 cases h with
 |am h1 _ _=>exact .inl (h1.run λg s h=>h.1)
 |rel h1=>exact .inl (Goes.running (λ_ _ x=>x.1) w (Go.ConcN.RW.refl w) h1)
 |tail _ h1=>exact h1.status
def WS.woken{a st d:Nat}{r:Rk}{g:ak}(h:WS P ty Y N val l c x a st r d g w)(b e:ak)(w':aA):woken P b e w' g=g:=by
 unfold Go.Conc.woken;split
 .exact again_running _ h.status
 .rfl
def Com.at(h:Com P ty Y N val l c j n w t D A K p)(d:Nat):Com P ty Y N val l c j n (w.at d) t D A K p :=
 ⟨h.size,h.lv,h.above,λx a=>let ⟨g,h1,h2⟩:=h.wk x a;⟨g,h1,h2.Hk (.at ..) h.live h.pay h.kc λ_ _=>rfl⟩,h.tl,h.norel,h.deaf0,h.deafW,h.rel,h.wA,h.Ae,h.pay,h.live,h.zD,h.BE,h.Ko,h.kc,h.Lb⟩
def Com.stepW(h:Com P ty Y N val l c j n w t D A K p)(hx:x<j){g':ak}{fn:aP}{pos:String}{es:Array Event}{a' pj d':Nat}{r':Rk}(hh:∀b,b<w.heap.size->hm' b=l b)(u:w.heap.size<=w'.heap.size)(B:∀y,y<j->y≠x->EW Y l (c y) y w w')(R:WS P ty Y N val hm' c x a' pj r' d' g' w')(Rv:∀e∈es,(aH e).low w'.heap.size)(TU:∀e∈es,∀a,(aH e).touch?=aa a->a.loc.isMemory=ab->pr Y hm' (c x) x a)(W:∀e∈es,∀a,e.loc≠.mark (.release a))(J:deafBehind (D x).deaf es=d')(YU:pj<=6->∃r,RelBy (stA Y.Wg) (t++MemOp.ofEvents (Y.base+x) fn pos es) (Y.base+x) r)(h1:a'=0->∀i,1<=i->i<Y.kc->w'.cell? ⟨Y.C,Y.kc*x+i,af⟩=aa (val x i))(h0:pj<=6->Has Y.C (Y.kc*x) (val x 0) w')(H:PayAt Y.C N w')(F:WgLive ty Y.Wg w'):
  Com P ty Y N val hm' c j ((n.map (woken P g g' w')).setIfInBounds (Y.base+x) g') w' (t++MemOp.ofEvents (Y.base+x) fn pos es) (upd D x ⟨pj,0,d'⟩) (upd A x a') (upd K (Y.base+x) r') p:=by
 have hb:=h.tl.base;have G:∀y,y≠x->Y.base+x≠Y.base+y:=λy d e=>d (by omega);have Z:∀i I,0<i->i<Y.base->((n.map (Go.Conc.woken P g g' w')).setIfInBounds (Y.base+x) g')[i]?=aa I->n[i]?=aa I:=by intro i I hi Ni DK;rw[get_map_set _ _ _ _ (by omega)]at DK;obtain⟨z,hz,rfl⟩:=rq.1 DK;obtain⟨m,_,hq⟩:=h.lv i z hi Ni hz;grind[woken_quitsD]
 refine⟨by simp[h.size],λi I hi Ni DK=>?_,λi hi=>?_,λy d=>?_,?_,h.norel.app W,by rw[Deaf_other t (by omega) _ g_of_ofEvents,h.deaf0],λy d=>?_,λy d k=>?_,λy d M i T V=>?_,λy d k=>?_,H,F,cA h.zD u,cA h.BE u,λb hb=>cA (h.Ko b hb) u,h.kc,λy d b o v O=>cA (h.Lb y d b o v O) u⟩
 .obtain⟨m,U,Q⟩:=h.lv i I hi Ni (Z i I hi Ni DK);refine⟨m,by rw[upd_ne K _ (by omega)];exact U,?_⟩;rw[Deaf_other t (by omega) _ g_of_ofEvents];exact Q
 .rw[Deaf_other t (by omega) _ g_of_ofEvents];exact h.above i hi
 .by_cases e:y=x
  .subst e;exact⟨g',get_map_set_same _ _ _ (by rw[h.size];omega),by rw[upd_same,upd_same,upd_same];exact R⟩
  .obtain⟨I,DK,L⟩:=h.wk y d;refine⟨I,by rw[get_map_set _ _ _ _ (G y e),DK,lR,L.woken],?_⟩;rw[upd_ne A _ e,upd_ne D _ e,upd_ne K _ (G y e).symm];exact L.Hk (B y d e) F H h.kc hh
 .refine(h.tl.rH hh u h.zD h.BE h.Ko λy d b o v O=>?_).appW hx (λop lA=>by grind[Go.Conc.mem_ofEvents]) (λop lA=>?_) (λop lA a M YV=>?_)
  .exact h.Lb y d b o v O
  .grind [Go.Conc.mem_ofEvents]
  grind[Go.Conc.mem_ofEvents]
 .by_cases e:y=x
  .subst e;rw[Deaf_own,h.deafW y d,upd_same];exact J
  .rw[Deaf_other t (G y e) _ g_of_ofEvents,h.deafW y d,upd_ne D _ e]
 .by_cases e:y=x
  .subst e;rw[upd_same]at k;grind
  .rw[upd_ne D _ e]at k;obtain⟨r,hr⟩:=h.rel y d k;exact⟨r,hr.appOther g_of_ofEvents (G y e)⟩
 .by_cases e:y=x
  .subst e;rw[upd_same]at M;grind
  .rw[upd_ne A _ e]at M;rw[(B y d e).pay _ (by omega) (by omega)];exact h.wA y d M i T V
 .by_cases e:y=x
  .subst e;rw[upd_same]at k;grind
  .rw[upd_ne D _ e]at k;have:=h.Ae y d k;have hk:=h.kc;simp only[Has]at this⊢;rw[(B y d e).pay _ (by omega) (by omega)];exact this
def Com.step0(h:Com P ty Y N val l c j n w t D A K p){g':ak}{fn:aP}{pos:String}{es:Array Event}(hh:∀b,b<w.heap.size->hm' b=l b)(k:w.heap.size<=w'.heap.size)(u:∀y,y<j->EW Y l (c y) y w w')(R:∀e∈es,(aH e).low w'.heap.size)(V:∀e∈es,∀a,(aH e).touch?=aa a->a.loc.isMemory=ab->qM Y hm' a)(Z:∀e∈es,∀a,(aH e).touch?=aa a->a.kind=.plain->a.write=ab->∀x,x<j->∀b o v,a.loc=.cell ⟨b,o,af⟩->c x b o≠aa v)(Q:∀e∈es,∀a,e.loc≠.mark (.release a))(F:PayAt Y.C N w')(B:WgLive ty Y.Wg w'):
  Com P ty Y N val hm' c j ((n.map (woken P g g' w')).setIfInBounds 0 g') w' (t++MemOp.ofEvents 0 fn pos es) D A K (deafBehind p es):=by
 have hb:=h.tl.base;have hk:=h.kc;refine⟨by simp[h.size],λi T hi Ni DK=>?_,λi hi=>?_,λy d=>?_,?_,h.norel.app Q,by rw[Deaf_own,h.deaf0],λy d=>by rw[Deaf_other t (by omega) _ g_of_ofEvents,h.deafW y d],λy d G=>?_,λy d M i J O=>?_,λy d G=>?_,F,B,cA h.zD k,cA h.BE k,λb hb=>cA (h.Ko b hb) k,h.kc,λy d b o v U=>cA (h.Lb y d b o v U) k⟩
 .rw[get_map_set _ _ _ _ (by omega)]at DK;obtain⟨z,W,rfl⟩:=rq.1 DK;obtain⟨m,L,H⟩:=h.lv i z hi Ni W;exact⟨m,L,by rw[woken_quitsD H,Deaf_other t (by omega) _ g_of_ofEvents];exact H⟩
 .rw[Deaf_other t (by omega) _ g_of_ofEvents];exact h.above i hi
 .obtain⟨T,DK,I⟩:=h.wk y d;exact⟨T,by rw[get_map_set _ _ _ _ (by omega),DK,lR,I.woken],I.Hk (u y d) B F h.kc hh⟩
 .refine(h.tl.rH hh k h.zD h.BE h.Ko h.Lb).app0 (λop lA=>by grind[Go.Conc.mem_ofEvents]) (λop lA=>?_) (λop lA a M YV=>?_) (λop lA a M=>?_)
  .grind [Go.Conc.mem_ofEvents]
  .grind [Go.Conc.mem_ofEvents]
  grind[Go.Conc.mem_ofEvents]
 .obtain⟨r,hr⟩:=h.rel y d G;exact⟨r,hr.appOther g_of_ofEvents (by omega)⟩
 .rw[(u y d).pay _ (by omega) (by omega)];exact h.wA y d M i J O
 .have:=h.Ae y d G;simp only[Has]at this⊢;rw[(u y d).pay _ (by omega) (by omega)];exact this
def Com.leave(h:Com P ty Y N val l c j n w t D A K p){m:Nat}(hi:0<i)(J:i<Y.base){g':ak}{fn:aP}{pos:String}{es:Array Event}(B:∀e∈es,e.mute=ab)(R:QuitsD P m (deafBehind (Deaf t i) es) g'):
  Com P ty Y N val l c j ((n.map (woken P g g' w)).setIfInBounds i g') w (t++MemOp.ofEvents i fn pos es) D A (upd K i (Rk.nat m)) p:=by
 have hb:=h.tl.base;have v:∀e∈es,∀a,e.loc≠.mark (.release a):=λe L a=>ua (B e L) a;refine⟨by simp[h.size],λk I C F b=>?_,λk C=>?_,λy d=>?_,?_,h.norel.app v,by rw[Deaf_other t (by omega) _ g_of_ofEvents,h.deaf0],λy d=>by rw[Deaf_other t (by omega) _ g_of_ofEvents,h.deafW y d],λy d H=>?_,h.wA,h.Ae,h.pay,h.live,h.zD,h.BE,h.Ko,h.kc,h.Lb⟩
 .by_cases e:k=i
  .subst e;rw[get_map_set_same _ _ _ (by grind)]at b;cases b;exact⟨m,by rw[upd_same],by grind[Deaf_own]⟩
  .rw[get_map_set _ _ _ _ (Ne.symm e)]at b;obtain⟨z,M,rfl⟩:=rq.1 b;obtain⟨Q,G,o⟩:=h.lv k z C F M;exact⟨Q,by rw[upd_ne K _ e];exact G,by rw[woken_quitsD o,Deaf_other t (Ne.symm e) _ g_of_ofEvents];exact o⟩
 .rw[Deaf_other t (by omega) _ g_of_ofEvents];exact h.above k C
 .obtain⟨I,b,u⟩:=h.wk y d;exact⟨I,by rw[get_map_set _ _ _ _ (by omega),b,lR,u.woken],by rw[upd_ne K _ (by omega)];exact u⟩
 .exact h.tl.mute (g:=i) (λop lA=>by grind[Go.Conc.mem_ofEvents]) (λop lA=>by grind[Go.Conc.mem_ofEvents,low_mute]) (λop lA=>by grind[Go.Conc.mem_ofEvents,touch_mute])
 .obtain⟨r,O⟩:=h.rel y d H;exact⟨r,O.appOther g_of_ofEvents (by omega)⟩
def Com.spawn(h:Com P ty Y N val l c j n w t D A K 0){a' child:ak}{x y:MemOp}{r:Rk}(Q:x.g=0/\x.act=.go (Y.base+j))(I:y.g=Y.base+j/\y.act=.start)(J:∀b o v,c j b o=aa v->l b=0/\b≠Y.C/\b≠Y.Wg/\¬Y.Sh b/\b<w.heap.size)(O:jD (Cx.work P) E0 (Hj P ty Y N val j) r child s)(F:b5 s {s with w:=w})(T:k6 l (c j) (Y.base+j) s):
  Com P ty Y N val l c (j+1) ((n.setIfInBounds 0 a').push child) w (t++#[x,y]) (upd D j ⟨7,0,0⟩) (upd A j 1) (upd K (Y.base+j) r) 0:=by
 have hb:=h.tl.base;have R:∀op∈#[x,y],op=x∨op=y:=by grind
 have d:∀op∈#[x,y],op.act≠.mark .disable/\op.act≠.mark .enable:=by grind
 have u:∀i,0<i->i<Y.base+j->((n.setIfInBounds 0 a').push child)[i]?=n[i]?:=λi hi uc=>by rw[Array.getElem?_push_lt (by simp[h.size];omega),<-fx,rn (by omega)]
 refine⟨by simp[h.size];omega,λi g hi Ni hg=>?_,λi hi=>?_,λz k=>?_,h.tl.fork Q I h.deaf0 (h.above _ (aZ _)) λb o v B=>let ⟨h1,h2,M,L,_⟩:=J b o v B;⟨h1,h2,M,L⟩,λad=>(h.norel ad).app λop lA=>?_,by rw[Deaf_still t 0 _ d,h.deaf0],λz k=>?_,λz k e=>?_,λz k G=>?_,λz k e=>?_,h.pay,h.live,h.zD,h.BE,h.Ko,h.kc,λz k b o v B=>?_⟩
 .rw[u i hi (by omega)]at hg;obtain⟨m,h1,h2⟩:=h.lv i g hi Ni hg;exact⟨m,by rw[upd_ne K _ (by omega)];exact h1,by rw[Deaf_still t _ _ d];exact h2⟩
 .rw[Deaf_still t _ _ d];exact h.above i (by omega)
 .rcases cv z j with uc|a
  .obtain⟨g,hg,H⟩:=h.wk z uc;exact⟨g,by grind,by rw[upd_ne D _ (by omega),upd_ne A _ (by omega),upd_ne K _ (by omega)];exact H⟩
  .obtain rfl:z=j:=by omega
   refine⟨child,?_,by rw[upd_same,upd_same,upd_same];exact .am O F T⟩;rw[show Y.base+z=(n.setIfInBounds 0 a').size by simp[h.size],Array.getElem?_push_size]
 .grind
 .rw[Deaf_still t _ _ d];rcases cv z j with uc|a
  .rw[h.deafW z uc,upd_ne D _ (by omega)]
  .obtain rfl:z=j:=by omega
   rw[upd_same];exact h.above _ (aZ _)
 .rcases cv z j with uc|a
  .rw[upd_ne D _ (by omega)]at e;obtain⟨r,F⟩:=h.rel z uc e;refine⟨r,F.appNot λop lA=>?_⟩;grind
  .obtain rfl:z=j:=by omega
   rw[upd_same]at e;grind
 .rcases cv z j with uc|a
  .rw[upd_ne A _ (by omega)]at G;exact h.wA z uc G
  .obtain rfl:z=j:=by omega
   rw[upd_same]at G;grind
 .rcases cv z j with uc|a
  .rw[upd_ne D _ (by omega)]at e;exact h.Ae z uc e
  .obtain rfl:z=j:=by omega
   rw[upd_same]at e;grind
 .rcases cv z j with uc|a
  .exact h.Lb z uc b o v B
  grind
end
end
section
open Go.Conc
open Go.ConcN (WD CTag Mode Vc Ssum pend phi cnt WgLive PayAt Has RW DWs WSit RelBy sumTo upd upd_same upd_ne AtR0)
open Go.ConcR (KK WgAt stA smA rd wr mk Payload g_of_ofEvents again_blocked)
variable [Payload]
section
variable (P:aK)(ty:ay)(Y:Lay)(N:Nat)(val:Nat->Nat->aj)(n:Nat)(T l:ak->St->Prop)
def AtAcq(g:ak)(s:St):Prop:=g.status=.running/\∃g',(∀w,aG P ab g w=.go g' w #[mk (.acquire (stA Y.Wg))])/\∀c,(Cx.lead P ty Y.Wg).rely s c->T g' c
def AtKe(g:ak)(s:St):Prop:=g.status=.running/\∃g',(∀w,aG P ab g w=.go g' w #[mk .enable])/\∀c,(Cx.lead P ty Y.Wg).rely s c->(dT (Cx.lead P ty Y.Wg) (Es Y.Wg)) (AtAcq P ty Y T) g' c
def AtW4(g:ak)(s:St):Prop:=g.status=.running/\∀c,(Cx.lead P ty Y.Wg).rely s c->WgAt ty Y.Wg c.w 0 0->∃g',aG P ab g c.w=.go g' c.w #[rd (stA Y.Wg)]/\(dT (Cx.lead P ty Y.Wg) (Es Y.Wg)) (AtKe P ty Y T) g' c
def AtW3(g:ak)(s:St):Prop:=g.status=.running/\g.offers=af/\∀c,(Cx.lead P ty Y.Wg).rely s c ->
 ((∃st,WgAt ty Y.Wg c.w st 0)->aG P ab g c.w=.go {g with status:=.blocked} c.w #[]) /\
 (WgAt ty Y.Wg c.w 0 1->∃g',aG P ab g c.w=.go g' (c.w.setCell (smA Y.Wg) (.int .u32 0)) (semEvents (smA Y.Wg))/\(dT (Cx.lead P ty Y.Wg) (Es Y.Wg)) (AtW4 P ty Y T) g' {c with w:=c.w.setCell (smA Y.Wg) (.int .u32 0)})
def AtW2(vs:Nat)(g:ak)(s:St):Prop:=g.status=.running/\∀c,(Cx.lead P ty Y.Wg).rely s c->∀v:Nat,v<2147483648->WgAt ty Y.Wg c.w (v*KK) 0 ->
 (v=vs->∃g',aG P ab g c.w=.go g' (c.w.setCell (stA Y.Wg) (.int .u64 (v*KK+1))) #[rd (stA Y.Wg),wr (stA Y.Wg)]/\(dT (Cx.lead P ty Y.Wg) (Es Y.Wg)) (AtW3 P ty Y T) g' {c with w:=c.w.setCell (stA Y.Wg) (.int .u64 (v*KK+1))}) /\
 (v≠vs->∃g',aG P ab g c.w=.go g' c.w #[rd (stA Y.Wg)]/\l g' c)
def AtW1(g:ak)(s:St):Prop:=g.status=.running/\∀c,(Cx.lead P ty Y.Wg).rely s c->∀v:Nat,v<2147483648->WgAt ty Y.Wg c.w (v*KK) 0 ->
 ∃g',aG P ab g c.w=.go g' c.w #[rd (stA Y.Wg)]/\(v=0->(dT (Cx.lead P ty Y.Wg) (Es Y.Wg)) (AtKe P ty Y T) g' c)/\(v≠0->(dT (Cx.lead P ty Y.Wg) (Es Y.Wg)) (AtW2 P ty Y T l v) g' c)
def AtKd(g:ak)(s:St):Prop:=g.status=.running/\∃g',(∀w,aG P ab g w=.go g' w #[mk .disable])/\∀c,(Cx.lead P ty Y.Wg).rely s c->l g' c
def St.child(s:St):St:={β:=[],M:=s.M,w:=s.w,own:=λ_=>False}
def AtGo(j:Nat)(Next:ak->St->Prop)(g:ak)(s:St):Prop:=g.status=.running/\∀c,(Cx.lead P ty Y.Wg).rely s c ->
 ∃g' child,aG P ab g c.w=.spawn g' child c.w #[]/\child.status=.running/\dT (Cx.work P) E0 (Hj P ty Y N val j) child c.child/\Next g' c
def AtKeS(j:Nat)(Next:ak->St->Prop)(g:ak)(s:St):Prop:=g.status=.running/\∃g',(∀w,aG P ab g w=.go g' w #[mk .enable])/\∀c,(Cx.lead P ty Y.Wg).rely s c->(dT (Cx.lead P ty Y.Wg) (Es Y.Wg)) (AtGo P ty Y N val j Next) g' c
def AtA1(j:Nat)(Next:ak->St->Prop)(g:ak)(s:St):Prop:=g.status=.running/\∀c,(Cx.lead P ty Y.Wg).rely s c->∀v:Nat,v<2147483647->WgAt ty Y.Wg c.w (v*KK) 0 ->
 ∃g',aG P ab g c.w=.go g' (c.w.setCell (stA Y.Wg) (.int .u64 ((v+1)*KK))) #[rd (stA Y.Wg),wr (stA Y.Wg)]/\(dT (Cx.lead P ty Y.Wg) (Es Y.Wg)) (AtKeS P ty Y N val j Next) g' {c with w:=c.w.setCell (stA Y.Wg) (.int .u64 ((v+1)*KK))}
def AtKdS(j:Nat)(Next:ak->St->Prop)(g:ak)(s:St):Prop:=g.status=.running/\∃g',(∀w,aG P ab g w=.go g' w #[mk .disable])/\∀c,(Cx.lead P ty Y.Wg).rely s c->(dT (Cx.lead P ty Y.Wg) (Es Y.Wg)) (AtA1 P ty Y N val j Next) g' c
def Spawns:Nat->ak->St->Prop
 |0,g,s=>(dT (Cx.lead P ty Y.Wg) (Es Y.Wg)) (AtKd P ty Y l) g s
 |r+1,g,s=>(dT (Cx.lead P ty Y.Wg) (Es Y.Wg)) (AtKdS P ty Y N val (n-(r+1)) (Spawns r)) g s
def Rk.lift:Rk->Rk
 |.leaf=>.node λ_=>.leaf
 |.node f=>.node λs=>Rk.lift (f s)
omit [Payload]in
def Rk.DL:∀{x r:Rk},Rk.lt x r->Rk.lt x.lift r.lift
 |_,.leaf,h=>h.elim
 |_,.node _,⟨s,h⟩=>⟨s,h.elim (λe=>.inl (by rw[e])) λh=>.inr (Rk.DL h)⟩
omit [Payload]in
def Rk.Hl(s:St):∀r:Rk,∃x,Rk.lt x r.lift
 |.leaf=>⟨.leaf,s,.inl rfl⟩
 |.node f=>⟨(f s).lift,s,.inl rfl⟩
inductive CS:CTag->Nat->Rk->Nat->ak->St->Prop
 |skd {r:Nat} {rk:Rk} {g:ak} {s:St}:r<n->(jD (Cx.lead P ty Y.Wg) (Es Y.Wg)) (AtKdS P ty Y N val (n-(r+1)) (Spawns P ty Y N val n l r)) rk g s->CS (.sp r 5) (n-(r+1)) rk 0 g s
 |sa1 {r:Nat} {rk:Rk} {g:ak} {s:St}:r<n->(jD (Cx.lead P ty Y.Wg) (Es Y.Wg)) (AtA1 P ty Y N val (n-(r+1)) (Spawns P ty Y N val n l r)) rk g s->CS (.sp r 4) (n-(r+1)) rk 1 g s
 |ske {r:Nat} {rk:Rk} {g:ak} {s:St}:r<n->(jD (Cx.lead P ty Y.Wg) (Es Y.Wg)) (AtKeS P ty Y N val (n-(r+1)) (Spawns P ty Y N val n l r)) rk g s->CS (.sp r 3) (n-(r+1)) rk 1 g s
 |sgo {r:Nat} {rk:Rk} {g:ak} {s:St}:r<n->(jD (Cx.lead P ty Y.Wg) (Es Y.Wg)) (AtGo P ty Y N val (n-(r+1)) (Spawns P ty Y N val n l r)) rk g s->CS (.sp r 2) (n-(r+1)) rk 0 g s
 |kd {rk:Rk} {g:ak} {s:St}:(jD (Cx.lead P ty Y.Wg) (Es Y.Wg)) (AtKd P ty Y l) rk g s->CS .kd n rk 0 g s
 |w1 {rk:Rk} {g:ak} {s:St}:(jD (Cx.lead P ty Y.Wg) (Es Y.Wg)) (AtW1 P ty Y T l) rk g s->CS .w1 n rk 1 g s
 |w2 {vs:Nat} {rk:Rk} {g:ak} {s:St}:(jD (Cx.lead P ty Y.Wg) (Es Y.Wg)) (AtW2 P ty Y T l vs) rk g s->CS (.w2 vs) n rk 1 g s
 |w3 {rk:Rk} {g:ak} {s:St}:(jD (Cx.lead P ty Y.Wg) (Es Y.Wg)) (AtW3 P ty Y T) rk g s->CS .w3 n rk.lift 1 g s
 |blk {rk:Rk} {g:ak} {s:St}:AtW3 P ty Y T g s->CS .blk n rk 1 {g with status:=.blocked} s
 |w4 {rk:Rk} {g:ak} {s:St}:(jD (Cx.lead P ty Y.Wg) (Es Y.Wg)) (AtW4 P ty Y T) rk g s->CS .w4 n rk 1 g s
 |ke {rk:Rk} {g:ak} {s:St}:(jD (Cx.lead P ty Y.Wg) (Es Y.Wg)) (AtKe P ty Y T) rk g s->CS .ke n rk 1 g s
 |acq {rk:Rk} {g:ak} {s:St}:(jD (Cx.lead P ty Y.Wg) (Es Y.Wg)) (AtAcq P ty Y T) rk g s->CS .acq n rk 0 g s
structure Lc(p:Nat->Nat)(o:Nat->Mem)(m:Machine)(t:Trace):Prop where
 out:∃(gs:Array ak) (w:aA) (sl:Option (Nat×Nat)) (a:ak) (s:St) (q:Nat->Nat),m=crowd gs w sl/\gs[0]?=aa a/\gs.size=Y.base+n/\T a {s with w:=w}/\b5 s {s with w:=w}/\iZ Y p o n s /\
  Leavers P t gs q/\Past (kT λb=>Y.Sh b∨b=Y.Wg) w.heap.size t/\qA t/\PayAt Y.C N w/\(∀x,x<n->∀i,i<Y.kc->w.cell? ⟨Y.C,Y.kc*x+i,af⟩=aa (val x i))/\Y.C<w.heap.size/\Y.Wg<w.heap.size/\∀b,Y.Sh b->b<w.heap.size
abbrev Mu:=Nat×((Nat->Rk)×Rk)
def DM(M:Nat):Mu->Mu->Prop:=Prod.Lex (· < ·) (Prod.Lex (Vec M) Rk.lt)
omit [Payload]in
def OG(M:Nat):WellFounded (DM M):=(Prod.lex Nat.lt_wfRel ⟨_,(Prod.lex ⟨Vec M,Hi M⟩ ⟨Rk.lt,⟨Rk.acc⟩⟩).wf⟩).wf
structure rJ(μ:Mu)(gs:Array ak)(w:aA)(t:Trace)(p:Nat->Nat)(o:Nat->Mem)(j:Nat)(D:Nat->WD)(A:Nat->Nat)(K:Nat->Rk)(d0:Nat)(tag:CTag)(rk:Rk)(a:ak)(s:St)(st sm:Int):Prop where
 a0:gs[0]?=aa a
 cs:CS P ty Y N val n T l tag j rk d0 a s
 rely:b5 s {s with w:=w}
 lead:iZ Y p o j s
 fG:Com P ty Y N val p o j gs w t D A K d0
 wg:WgAt ty Y.Wg w st sm
 mode:Go.ConcN.Mode j D tag st sm
 mu:μ=(phi n (Vc j D) tag+Ssum j D+sumTo j A,(K,rk))
def Inv(i:Mu)(m:Machine)(t:Trace):Prop :=
 ∃(b:Array ak) (w:aA) (sl:Option (Nat×Nat)) (p:Nat->Nat) (o:Nat->Mem) (j:Nat) (D:Nat->WD) (A:Nat->Nat) (K:Nat->Rk) (k:Nat) (tag:CTag) (rk:Rk) (a:ak) (s:St) (st sm:Int),
  m=crowd b w sl/\rJ P ty Y N val n T l i b w t p o j D A K k tag rk a s st sm
end
section
variable {P:aK}{ty:ay}{Y:Lay}{N:Nat}{val:Nat->Nat->aj}{n:Nat}{T l:ak->St->Prop}{p hm':Nat->Nat}{o:Nat->Mem}{tag:CTag}{rk:Rk}{d:Nat}{a:ak}
omit [Payload]in
def ft(h:b5 s {s with w:=w})(B:WgLive ty Y.Wg w):(Cx.lead P ty Y.Wg).rely s {s with w:=w}:=⟨h,λ_=>B⟩
omit [Payload]in
def AtW3.rely{c:St}(h:AtW3 P ty Y T g s)(u:(Cx.lead P ty Y.Wg).rely s c):AtW3 P ty Y T g c :=
 ⟨h.1,h.2.1,λs2 z=>h.2.2 s2 ⟨u.1.trans z.1,λx=>z.2 (u.2 x)⟩⟩
def CS.status(h:CS P ty Y N val n T l tag j rk d a s):(a.status=.running/\tag≠.blk)∨(a.status=.blocked/\tag=.blk):=by
 cases h with
 |skd _ h=>exact .inl ⟨h.run λ_ _ x=>x.1,by simp⟩
 |sa1 _ h=>exact .inl ⟨h.run λ_ _ x=>x.1,by simp⟩
 |ske _ h=>exact .inl ⟨h.run λ_ _ x=>x.1,by simp⟩
 |sgo _ h=>exact .inl ⟨h.run λ_ _ x=>x.1,by simp⟩
 |kd h=>exact .inl ⟨h.run λ_ _ x=>x.1,by simp⟩
 |w1 h=>exact .inl ⟨h.run λ_ _ x=>x.1,by simp⟩
 |w2 h=>exact .inl ⟨h.run λ_ _ x=>x.1,by simp⟩
 |w3 h=>exact .inl ⟨h.run λ_ _ x=>x.1,by simp⟩
 |blk h=>grind
 |w4 h=>exact .inl ⟨h.run λ_ _ x=>x.1,by simp⟩
 |ke h=>exact .inl ⟨h.run λ_ _ x=>x.1,by simp⟩
 |acq h=>exact .inl ⟨h.run λ_ _ x=>x.1,by simp⟩
def CS.wokenBy(h:CS P ty Y N val n T l tag j rk d a s)(g g':ak)(w':aA):
  ∃tag' rk',CS P ty Y N val n T l tag' j rk' d (woken P g g' w' a) s/\(tag'=tag∨(tag=.blk/\tag'=.w3))/\(mayWake P g=ab->g'.status=.running->tag'≠.blk):=by
 unfold Go.Conc.woken;split
 .rcases h.status with⟨i,b⟩|⟨_,rfl⟩
  .grind [again_running]
  .cases h with
   |blk hb=>exact⟨.w3,Rk.lift .leaf,by rw[again_blocked hb.1 hb.2.1];exact .w3 (show jD _ _ _ .leaf _ _ from hb),.inr ⟨rfl,rfl⟩,λ_ _=>by simp⟩
 grind
def jU{μ:Mu}{gs:Array ak}{sl:Option (Nat×Nat)}{t:Trace}{D:Nat->WD}{A:Nat->Nat}{K:Nat->Rk}{st sm:Int}(I:rJ P ty Y N val n T l μ gs w t p o j D A K d tag rk a s st sm){x:Nat}(W:x<j){g':ak}{es:Array Event}{a' s' d':Nat}{r':Rk}{H F:Int}(hg:gs[Y.base+x]?=aa g)(hgo:aG P ae g w=.go g' w' es)(hh:∀b,b<w.heap.size->hm' b=p b)(X:w.heap.size<=w'.heap.size)(U:∀y,y<j->y≠x->EW Y p (o y) y w w')(E:B8 Y p w w')(YW:WS P ty Y N val hm' o x a' s' r' d' g' w')(L:∀e∈es,(aH e).low w'.heap.size)(TU:∀e∈es,∀a,(aH e).touch?=aa a->a.loc.isMemory=ab->pr Y hm' (o x) x a)(Rw:∀e∈es,∀a,e.loc≠.mark (.release a))(G:deafBehind (D x).deaf es=d')(S:s'<=6->∃r,RelBy (stA Y.Wg) (t++MemOp.ofEvents (Y.base+x) g.frame.fn g.frame.place es) (Y.base+x) r)(h1:a'=0->∀i,1<=i->i<Y.kc->w'.cell? ⟨Y.C,Y.kc*x+i,af⟩=aa (val x i))(h0:s'<=6->Has Y.C (Y.kc*x) (val x 0) w')(V:PayAt Y.C N w')(O:WgAt ty Y.Wg w' H F)(J:∀tag',(tag'=tag∨(tag=.blk/\tag'=.w3))->(mayWake P g=ab->g'.status=.running->tag'≠.blk)->Go.ConcN.Mode j (upd D x ⟨s',0,d'⟩) tag' H F)(Z:(s'+a'<(D x).stage+A x/\cnt ⟨s',0,d'⟩<=cnt (D x))∨(s'=(D x).stage/\a'=A x/\Rk.lt r' (K (Y.base+x))))(Ys:Y.base+j<=Y.base+n):
  ∃m ops μ',runT P (crowd gs w sl) (Y.base+x)=(.next m,ops)/\DM (Y.base+n) μ' μ/\Inv P ty Y N val n T l μ' m (t++ops):=by
 have hb:=I.fG.tl.base;obtain⟨tag',rk',R,q,UU⟩:=I.cs.wokenBy g g' w';have Ul:(Y.base+x==0)=ae:=by grind
 have Q:=runT_crowd_go (P:=P) (sl:=sl) (i:=Y.base+x) hg (by rw[Ul];exact hgo)
 have e1:=Go.ConcN.sumTo_upd D (⟨s',0,d'⟩:WD) cnt W;have e2:=Go.ConcN.sumTo_upd D (⟨s',0,d'⟩:WD) WD.stage W;have e3:sumTo j (upd A x a')+A x=sumTo j A+a':=Go.ConcN.sumTo_upd A a' id W;refine⟨_,_,(phi n (Vc j (upd D x ⟨s',0,d'⟩)) tag'+Ssum j (upd D x ⟨s',0,d'⟩)+sumTo j (upd A x a'),(upd K (Y.base+x) r',rk')),Q,?_,
  _,w',sl,hm',o,j,_,_,_,d,tag',rk',woken P g g' w' a,s,H,F,rfl,⟨by rw[Go.ConcN.get_map_set _ _ _ _ (by omega),I.a0];rfl,R,I.lead.Hk I.rely E,I.lead.rH I.rely.size hh,
   I.fG.stepW W hh X U YW L TU Rw G S h1 h0 V ⟨_,_,O⟩,O,J tag' q UU,rfl⟩⟩
 rw[I.mu,Go.ConcN.phi_retag n _ q];simp only[Vc,Ssum]at *;rcases Z with⟨q1,q2⟩|⟨q1,q2,q3⟩
 .refine Prod.Lex.left _ _ ?_;have:=Go.ConcN.phi_mono n (v':=sumTo j λa=>cnt (upd D x ⟨s',0,d'⟩ a)) (v:=sumTo j λa=>cnt (D a)) (by omega) tag;omega
 .have ec:cnt (⟨s',0,d'⟩:WD)=cnt (D x):=by simp only[cnt,q1]
  have ev:(sumTo j λa=>cnt (upd D x ⟨s',0,d'⟩ a))=sumTo j λa=>cnt (D a):=by omega
  have es':(sumTo j λa=>(upd D x ⟨s',0,d'⟩ a).stage)=sumTo j λa=>(D a).stage:=by omega
  have ea:sumTo j (upd A x a')=sumTo j A:=by omega
  rw[ev,es',ea];exact Prod.Lex.right _ (Prod.Lex.left _ _ ⟨Y.base+x,by omega,by rw[upd_same];exact q3,λk hk=>upd_ne K _ hk⟩)
end
end
section
open Go.Conc
open Go.ConcN (WD CTag Vc Ssum pend phi cnt WgLive PayAt Has RW DWs WSit RelBy sumTo upd upd_same upd_ne AtR0 isW3 isOpen OpenSt deafBehind_idle bk_cell okW_none Vc_upd Vc_le le_sumTo others_uncounted)
open Go.ConcR (KK WgAt stA smA rd wr mk Payload g_of_ofEvents Bk bk_of_mute ofEvent_loc_mark ofEvent_cell)
variable [Payload]
section
variable {Y:Lay}{T G:ak->St->Prop}{F hm':Nat->Nat}{O:Nat->Mem}{tag:CTag}{rk:Rk}{d:Nat}{a:ak}
omit [Payload]in
def EW.wg(h:Aside Y.Wg w w')(E:F Y.Wg=0)(k:1<=Y.base)(hM:∀b o v,O j b o=aa v->b≠Y.Wg)(hC:Y.C≠Y.Wg):EW Y F (O j) j w w' :=
 ⟨by rw[h.size];grind,λb _ oH=>h.block b (λe=>by grind),λb o v H S=>by rw[ja (h.block b (hM b o v H))];exact S,λo _ _=>ja (h.block _ hC) o,h.os,h.tape,h.output⟩
omit [Payload]in
def B8.wg(h:Aside Y.Wg w w'):B8 Y F w w':=⟨by rw[h.size];grind,λb _ _ _ z=>h.block b z,h.os,h.tape,h.output⟩
omit [Payload]in
def B8.refl(w:aA):B8 Y F w w:=⟨aZ _,λ_ _ _ _ _=>rfl,rfl,rfl,rfl⟩
omit [Payload]in
def Hm{B:Nat}{es:Array Event}(h:∀e∈es,Bk Y.Wg e)(E:Y.Wg<B):∀e∈es,(aH e).low B:=by
 intro e c;rcases h e c with l|l|⟨ad,wr,rfl,J⟩
 .rw[ofEvent_loc_mark l];trivial
 .rw[ofEvent_loc_mark l];trivial
 .rw[ofEvent_cell];show ad.block<B;grind
omit [Payload]in
def Ld{x:Nat}{es:Array Event}(h:∀e∈es,Bk Y.Wg e):∀e∈es,∀a,(aH e).touch?=aa a->a.loc.isMemory=ab->pr Y F (O x) x a:=by
 intro e c b k _;rcases h e c with l|l|⟨ad,wr,rfl,J⟩
 .rw[ofEvent_loc_mark l]at k;cases k
 .rw[ofEvent_loc_mark l]at k;cases k
 .rw[ofEvent_cell]at k;simp only[MemAct.touch?,dk]at k;subst k;exact .inl ⟨ad,rfl,J,rfl⟩
omit [Payload]in
def Af{es:Array Event}(h:∀e∈es,Bk Y.Wg e):∀e∈es,∀a,e.loc≠.mark (.release a):=by
 intro e c a X;rcases h e c with l|l|⟨ad,wr,rfl,_⟩
 .grind
 .grind
 grind
omit [Payload]in
def Le{x:Nat}{s2:St}{es:Array Event}(U:k6 F (O x) (Y.base+x) s)(V:aD σ s)(R:ee s es)(st:Step σ s σ' s2):
  (∀e∈es,(aH e).low s2.w.heap.size)/\(∀e∈es,∀a,(aH e).touch?=aa a->a.loc.isMemory=ab->pr Y (me F s.w.heap.size (Y.base+x)) (O x) x a) /\
  (∀e∈es,e.loc≠.mark .disable/\e.loc≠.mark .enable)/\∀e∈es,∀a,e.loc≠.mark (.release a):=by
 have key:∀e∈es,(aH e).low s2.w.heap.size/\(∀a,(aH e).touch?=aa a->a.loc.isMemory=ab->pr Y (me F s.w.heap.size (Y.base+x)) (O x) x a)/\(e.loc≠.mark .disable/\e.loc≠.mark .enable)/\∀a,e.loc≠.mark (.release a):=by
  intro e c;have h:=R e c;obtain⟨loc,wr,sy⟩:=e;cases loc with
  |cell ad =>
   obtain⟨l,z,p⟩:=h;simp only at l z p;subst l;have u:ad.block<s.w.heap.size:=by
    rcases p with p|⟨⟨L,Q,p⟩,_⟩|⟨_,v,p⟩
    .exact p.elim
    .exact V.lt L Q _ p
    .exact fW.lt V.mem p
   refine⟨by rw[ofEvent_cell];exact cA u st.size,λb k _=>?_,⟨by simp,by simp⟩,by simp⟩;rw[ofEvent_cell]at k;simp only[MemAct.touch?,dk]at k;subst k;refine .inr ⟨rfl,?_⟩;rcases p with p|⟨⟨L,Q,p⟩,_⟩|⟨Z,v,p⟩
   .exact p.elim
   .exact .inl ⟨ad.block,rfl,by rw[ez u];exact(U.blk _ (.inr ⟨L,Q,p⟩)).1⟩
   .rcases(U.M _ _ _ p).1 with W|W
    .exact .inl ⟨ad.block,rfl,by grind[ez]⟩
    .refine .inr (.inr ⟨Z,ad.block,ad.off,v,?_,W⟩);obtain⟨b,o,sp⟩:=ad;grind
  |obj r =>
   obtain⟨l,z⟩:=h;simp only at l z;subst l;obtain⟨L,Q,p⟩:=z.resolve_left id;have u:=V.lt L Q _ p;refine⟨?_,λb k _=>?_,⟨by simp,by simp⟩,by simp⟩
   .simp[aH,MemAct.low,Loc.low];exact cA u st.size
   .simp[aH,MemAct.touch?]at k;subst k;exact .inr ⟨rfl,.inl ⟨r,rfl,by rw[ez u];exact(U.blk _ (.inr ⟨L,Q,p⟩)).1⟩⟩
  |mark m =>
   simp only[nz]at h;rcases h with rfl|⟨f,rfl⟩
   .exact⟨by simp[aH,MemAct.low],λb k=>by simp[aH,MemAct.touch?]at k,⟨by simp,by simp⟩,by simp⟩
   .exact⟨by simp[aH,MemAct.low],λb k=>by simp[aH,MemAct.touch?]at k,⟨by simp,by simp⟩,by simp⟩
  |_=>exact h.elim
 grind
def stepWorker{μ:Mu}{gs:Array ak}{sl:Option (Nat×Nat)}{t:Trace}{D:Nat->WD}{A:Nat->Nat}{K:Nat->Rk}{st sm:Int}(I:rJ P ty Y N val n T G μ gs w t F O j D A K d tag rk a s st sm)(hn:n<2147483648)(hj:j<=n)(hpd:j+pend tag<=n){x:Nat}(hx:x<j)(hg:gs[Y.base+x]?=aa g)(uA:g.status=.running):
  ∃m₁ ops μ',runT P (crowd gs w sl) (Y.base+x)=(.next m₁,ops)/\DM (Y.base+n) μ' μ/\Inv P ty Y N val n T G μ' m₁ (t++ops):=by
 have Hn:=I.fG.tl.base;obtain⟨g₁,WI,hs⟩:=I.fG.wk x hx;obtain rfl:g=g₁:=by grind
 generalize Gw:(D x).stage=sg at hs;generalize WJ:K (Y.base+x)=r at hs;generalize Rx:(D x).deaf=dd at hs;generalize hA:A x=ax at hs;have WK:Deaf t (Y.base+x)=dd:=by rw[I.fG.deafW x hx,Rx]
 have YX:=Vc_le j D;have same:∀m' DN,Go.ConcN.Mode j (upd D x ⟨sg,m',DN⟩) tag st sm:=λm' DN=>by have:=I.mode.same (i:=x) m' DN;grind
 cases hs with
 |@am r g s0 w l z p =>
  rcases l.norm (λs0=>b5 s0 {s0 with w:=w}/\k6 F (O x) (Y.base+x) s0) (λs0 s' Ry hi=>⟨hi.1.ghost Ry,hi.2.ghost Ry⟩) (λ_ s0 s' Ry hi=>⟨hi.1.forget Ry,hi.2.forget Ry⟩) ⟨z,p⟩with⟨s',⟨k1,k2⟩,k7⟩|⟨_,s',⟨k1,k2⟩,k8⟩
  ·
   obtain⟨g',w2,es,hgo,E,UX,m,hk⟩:=k7.2 w k1 I.fG.pay I.fG.live;have WL:=I.fG.kc;refine jU I hx hg hgo (hm':=F) (λ_ _=>rfl) (by rw[E.size];grind) (λy hy WM=>⟨by rw[E.size];grind,λb _ k=>E.block b (λe=>by rw[e,I.fG.tl.hC]at k;omega),λb o v H S=>?_,λo WN WO=>E.out o ?_,E.os,E.tape,E.output⟩)
    ⟨by rw[E.size];grind,λb _ _ z _=>E.block b z,E.os,E.tape,E.output⟩ (.rel hk) (λe c=>?_) (λe c b k _=>?_) (λe c=>?_) ?_ (λh=>absurd h (by decide)) (λ_ i _ hi=>E.new i hi) (λh=>absurd h (by decide)) E.pay
    (I.wg.of_block (E.block _ (Ne.symm I.fG.tl.ne))) (λ_ ht _=>(same _ _).retag ht) (.inl ⟨by omega,by simp[cnt,Gw]⟩) (by omega)
   .rw[ja (E.block b (I.fG.tl.ms y hy b o v H).2.1)];exact S
   .rcases Nat.lt_or_gt_of_ne WM with h|h
    .have:=tq Y.kc (show y+1<=x from h);grind
    .have:=tq Y.kc (show x+1<=y from h);grind
   .obtain⟨o,rfl,_⟩:=UX e c;rw[ofEvent_cell];show Y.C<_;rw[E.size];exact I.fG.BE
   .obtain⟨o,rfl,WN,WO⟩:=UX e c;rw[ofEvent_cell]at k;simp only[MemAct.touch?,dk]at k;subst k;exact .inr ⟨rfl,.inr (.inl ⟨o,rfl,WN,WO⟩)⟩
   .grind
   .rw[Rx];exact deafBehind_idle (λe c=>by grind) 0
  ·
   obtain⟨g',s2,es,r',hgo,UY,M8,u⟩:=k8 _ k1;obtain⟨⟨σ,σ',V,iQ,Gx⟩,R⟩:=UY.resolve_right id;have k3:k6 F (O x) (Y.base+x) {s' with w:=w}:=k2.rely k1.size;obtain⟨e1,e2,e3,e4⟩:=Le k3 V R Gx;have uM:∀b,b<w.heap.size->F b≠Y.base+x->s2.w.heap[b]?=w.heap[b]?:=λb k zC=>Gx.keep b k λL Q N2=>zC (k3.blk b (.inr ⟨L,Q,N2⟩)).1;refine jU I hx hg hgo (hm':=me F w.heap.size (Y.base+x)) (λb k=>ez k) Gx.size (λy hy WM=>⟨Gx.size,λb k YY=>uM b k (by omega),λb o v H S=>?_,λo _ _=>ja (uM _ I.fG.BE (by rw[I.fG.tl.hC];omega)) o,Gx.os,Gx.tape,Gx.output⟩)
    ⟨Gx.size,λb k h0 _ _=>uM b k (by omega),Gx.os,Gx.tape,Gx.output⟩ (.am M8 (b5.uL iQ.mem) (k3.step iQ Gx)) e1 e2 e4 (by rw[Rx];exact deafBehind_idle e3 0) (λh=>absurd h (by decide)) (λh=>absurd h (by decide)) (λh=>absurd h (by decide)) ?_
    (I.wg.of_block (uM _ I.fG.zD (by rw[I.fG.tl.Gu];omega))) (λ_ ht _=>(same _ _).retag ht) (.inr ⟨Gw.symm,hA.symm,by grind⟩) (by omega)
   .rw[ja (uM b (I.fG.Lb y hy b o v H) (by rw[(I.fG.tl.ms y hy b o v H).1];omega))];exact S
   .obtain⟨cs,c1,c2⟩:=I.fG.pay;exact⟨cs,(uM _ I.fG.BE (by rw[I.fG.tl.hC];omega)).trans c1,c2⟩
 |@rel m g w h =>
  rcases Goes.cases h with k7|⟨m',rfl,k8⟩
  ·
   obtain⟨_,YZ,g',hgo,m₂,hk⟩:=k7 w (Go.ConcN.RW.refl w);refine jU I hx hg hgo (hm':=F) (λ_ _=>rfl) (aZ _) (λy _ _=>.refl ..) (.refl w) (.tail (by decide) (.k1 hk)) (λe c=>?_) (λe c b k _=>?_) (λe c=>?_) (by rw[Rx];rfl) (λ_=>⟨t.size,RelBy.new WK _ _⟩) (λ_=>I.fG.wA x hx hA) (λ_=>by grind) I.fG.pay I.wg
    (λ_ ht _=>(I.mode.counted hx (by omega) (.inl rfl) _ _).retag ht) (.inl ⟨by omega,by simp[cnt,Gw]⟩) (by omega)
   .simp at c;subst c;exact I.fG.zD
   .simp at c;subst c;simp[mk,aH,MemAct.touch?]at k
   .simp at c;subst c;simp[mk]
  .obtain⟨g',w',es,hgo,⟨rfl,rfl⟩,DO⟩:=k8 w (Go.ConcN.RW.refl w);exact jU I hx hg hgo (hm':=F) (λ_ _=>rfl) (aZ _) (λy _ _=>.refl ..) (.refl w') (.rel DO) (by simp) (by simp) (by simp) (by rw[Rx];rfl) (λh=>absurd h (by decide)) (λ_=>I.fG.wA x hx hA) (λh=>absurd h (by decide)) I.fG.pay I.wg (λ_ ht _=>(same _ _).retag ht)
    (.inr ⟨Gw.symm,hA.symm,by rw[WJ];exact Rk.B7 _ s⟩) (by omega)
 |@tail sg m dd g w h6 h =>
  have Nj:∀{g':ak} {w':aA} {es:Array Event} {s' m' DN:Nat} {pj EX:Int},aG P ae g w=.go g' w' es->Aside Y.Wg w w'->WgAt ty Y.Wg w' pj EX->(∀e∈es,Bk Y.Wg e) ->
    (∀jx e,es[jx]?=aa e->(aH e).touch?=af∨0<deafBehind dd (es.extract 0 jx))->s'<=6->WSit P ty Y.Wg Y.C N Nh Nh 0 (Y.kc*x+1) (val x 0) s' m' DN g' w'->deafBehind dd es=DN ->
    (∀tag',(tag'=tag∨(tag=.blk/\tag'=.w3))->(mayWake P g=ab->g'.status=.running->tag'≠.blk)->Go.ConcN.Mode j (upd D x ⟨s',0,DN⟩) tag' pj EX)->((s'<sg/\cnt ⟨s',0,DN⟩<=cnt (D x))∨(s'=sg/\m'+1=m)) ->
    ∃m₁ ops μ',runT P (crowd gs w sl) (Y.base+x)=(.next m₁,ops)/\DM (Y.base+n) μ' μ/\Inv P ty Y N val n T G μ' m₁ (t++ops):=by
   intro g' w' es s' m' DN pj EX hgo Lf Ho EY hd UZ Rz WQ uN u;obtain⟨cs,U0,U1⟩:=I.fG.pay;refine jU I hx hg hgo (hm':=F) (λ_ _=>rfl) (by rw[Lf.size];grind) (λy hy _=>.wg Lf I.fG.tl.Gu Hn (λb o v H=>(I.fG.tl.ms y hy b o v H).2.2.1) I.fG.tl.ne) (.wg Lf) (.tail UZ Rz) (Hm EY (by rw[Lf.size];exact I.fG.zD)) (Ld EY) (Af EY) (by grind)
    (λ_=>let ⟨r,hr⟩:=I.fG.rel x hx (by omega);⟨r,hr.book WK _ _ EY hd⟩) (λ_ i Y0 QM=>(ja (Lf.block _ I.fG.tl.ne) _).trans (I.fG.wA x hx hA i Y0 QM)) (λ_=>(ja (Lf.block _ I.fG.tl.ne) _).trans (I.fG.Ae x hx (by omega))) ⟨cs,(Lf.block _ I.fG.tl.ne).trans U0,U1⟩ Ho uN
    (u.imp (λh=>⟨by omega,h.2⟩) λh=>⟨by omega,hA.symm,by rw[WJ,<-h.2];exact Rk.B7 _ s⟩) (by omega)
  have book:∀{g':ak} {w':aA} {es:Array Event} {s' m' DN:Nat} {pj EX:Int},aG P ae g w=.go g' w' es->Aside Y.Wg w w'->WgAt ty Y.Wg w' pj EX->(∀e∈es,Bk Y.Wg e) ->
    (∀jx e,es[jx]?=aa e->(aH e).touch?=af∨0<deafBehind dd (es.extract 0 jx))->s'<=6->WSit P ty Y.Wg Y.C N Nh Nh 0 (Y.kc*x+1) (val x 0) s' m' DN g' w'->deafBehind dd es=DN ->
    Go.ConcN.Mode j (upd D x ⟨s',0,DN⟩) tag pj EX->((s'<sg/\cnt ⟨s',0,DN⟩<=cnt (D x))∨(s'=sg/\m'+1=m)) ->
    ∃m₁ ops μ',runT P (crowd gs w sl) (Y.base+x)=(.next m₁,ops)/\DM (Y.base+n) μ' μ/\Inv P ty Y N val n T G μ' m₁ (t++ops) :=
   λhgo Lf Ho EY hd UZ Rz WQ uN u=>Nj hgo Lf Ho EY hd UZ Rz WQ (λ_ ht _=>uN.retag ht) u
  have idle:∀{g':ak} {m':Nat},aG P ae g w=.go g' w #[]->WSit P ty Y.Wg Y.C N Nh Nh 0 (Y.kc*x+1) (val x 0) sg m' dd g' w->m'+1=m ->
    ∃m₁ ops μ',runT P (crowd gs w sl) (Y.base+x)=(.next m₁,ops)/\DM (Y.base+n) μ' μ/\Inv P ty Y N val n T G μ' m₁ (t++ops):=by intro g' m' hgo Rz F;exact book hgo (.refl Y.Wg w) I.wg (by simp) (by simp) h6 Rz rfl (same _ _) (.inr ⟨rfl,F⟩)
  cases h with
  |r0 h=>omega
  |k1 h =>
   rcases Goes.cases h with k7|⟨m',rfl,k8⟩
   .obtain⟨_,g',hgo,m₂,hk⟩:=k7 w (Go.ConcN.RW.refl w);exact book hgo (.refl Y.Wg w) I.wg (by intro e c;simp at c;subst c;exact .inl rfl) (by intro jx e c;exact .inl (by have:=tp c;simp at this;subst this;rfl)) (by decide) (.d1 hk) rfl (I.mode.counted hx (by omega) (.inr rfl) _ _) (.inl ⟨by omega,by simp[cnt,Gw]⟩)
   .obtain⟨g',w',es,hgo,⟨rfl,rfl⟩,DO⟩:=k8 w (Go.ConcN.RW.refl w);exact idle hgo (.k1 DO) rfl
  |d1 h =>
   rcases Goes.cases h with k7|⟨m',rfl,k8⟩
   .obtain⟨_,Of⟩:=k7 w (Go.ConcN.RW.refl w);have yD:=I.wg;have Hp:=I.mode;have TM:cnt (D x)=1:=by simp[cnt,Gw]
    have hV1:1<=Vc j D:=by have:=le_sumTo (f:=λx=>cnt (D x)) hx;simp only[Vc];omega
    have bk2:∀e∈#[rd (stA Y.Wg),wr (stA Y.Wg)],Bk Y.Wg e:=by intro e c;simp at c;rcases c with rfl|rfl<;>exact bk_cell _ _ rfl
    have TV:∀jx e,(#[rd (stA Y.Wg),wr (stA Y.Wg)]:Array Event)[jx]?=aa e->(aH e).touch?=af∨0<deafBehind 1 ((#[rd (stA Y.Wg),wr (stA Y.Wg)]:Array Event).extract 0 jx):=by
     intro jx e c
     match jx,c with
     |0,_=>exact .inr (by simp[deafBehind])
     |1,_=>exact .inr (by simp[deafBehind,rd])
     |jx+2,c=>simp at c
    have hq0:∀q,cnt (⟨1,q,1⟩:WD)=0:=λ_=>rfl;have cp:∀q,OpenSt j D->OpenSt j (upd D x ⟨1,q,1⟩):=λq h a J=>by
     by_cases e:a=x
     .subst e;rw[upd_same];simp
     .rw[upd_ne D _ e];exact h a J
    generalize Y1:st=U2 at Hp yD;generalize Y2:sm=Y3 at Hp yD;cases Hp with
    |opn l z p =>
     obtain⟨v,H⟩:∃v,Vc j D+pend tag=v+1:=⟨Vc j D+pend tag-1,by omega⟩
     rw[H]at yD;have N8:WgAt ty Y.Wg w (((v:Nat)+1)*KK+((0:Nat):Int)) 0:=by grind
     obtain⟨g',hgo,_,hq⟩:=Of v 0 (by omega) (by omega) N8;obtain⟨q,hq⟩:=hq (by omega);have TC:Vc j (upd D x ⟨1,0,1⟩)+pend tag=v:=by have:=Vc_upd D (⟨1,0,1⟩:WD) hx;grind
     refine book hgo (aside_setCell w (stA Y.Wg) _) (yD.setSt _) bk2 TV (by decide) (.quit hq) rfl ?_ (.inl ⟨by omega,by grind⟩);have e:((v:Nat):Int)*KK+((0:Nat):Int)=((Vc j (upd D x ⟨1,0,1⟩)+pend tag:Nat):Int)*KK:=by grind
     rw[e];exact .opn l (cp 0 z) (λvs ev=>by grind)
    |reg l z p =>
     obtain⟨v,H⟩:∃v,Vc j D=v+1:=⟨Vc j D-1,by omega⟩
     rw[H]at yD;have hp:pend tag=0:=by cases tag<;>first|rfl|exact l.elim
     have N8:WgAt ty Y.Wg w (((v:Nat)+1)*KK+((1:Nat):Int)) 0:=by grind
     obtain⟨g',hgo,X,hq⟩:=Of v 1 (by omega) (by omega) N8;by_cases N4:v=0
     .subst N4;obtain⟨m₂,hk⟩:=X ⟨rfl,rfl⟩;refine book hgo (aside_setCell w (stA Y.Wg) _) (yD.setSt _) bk2 TV (by decide) (.d2 hk) rfl ?_ (.inl ⟨by omega,by simp[cnt]⟩);have BR:∀a,a<j->a≠x->(D a).stage=1:=λa J e=>by have c0:=others_uncounted hx H TM a J e;have:=z a J;simp only[cnt]at c0;split at c0<;>omega
      have:=Go.ConcN.Mode.last (j:=j) (D:=upd D x ⟨4,0,1⟩) (tag:=tag) x l hx (by rw[upd_same];simp) (λa J e=>by rw[upd_ne D _ e];grind);rw[upd_same]at this;grind
     .obtain⟨q,hq⟩:=hq (by omega);have TC:Vc j (upd D x ⟨1,0,1⟩)=v:=by have:=Vc_upd D (⟨1,0,1⟩:WD) hx;grind
      refine book hgo (aside_setCell w (stA Y.Wg) _) (yD.setSt _) bk2 TV (by decide) (.quit hq) rfl ?_ (.inl ⟨by omega,by grind⟩);have e:((v:Nat):Int)*KK+((1:Nat):Int)=((Vc j (upd D x ⟨1,0,1⟩):Nat):Int)*KK+1:=by grind
      rw[e];exact .reg l (cp 0 z) (by omega)
    |last L _ z p Z =>
     grind
    |sema z=>have:=z x hx;omega
    |fin _ z=>have:=z x hx;omega
   .obtain⟨g',w',es,hgo,⟨rfl,rfl⟩,DO⟩:=k8 w (Go.ConcN.RW.refl w);exact idle hgo (.d1 DO) rfl
  |d2 h =>
   rcases Goes.cases h with k7|⟨m',rfl,k8⟩
   .obtain⟨_,Nk⟩:=k7 w (Go.ConcN.RW.refl w);obtain⟨RA,BR,e1,e2⟩:=I.mode.isLast hx (by omega);have yD:=I.wg;rw[e1,e2,Gw]at yD;obtain⟨g',hgo,m₂,hk⟩:=Nk (by grind);refine book hgo (.refl Y.Wg w) yD (by intro e c;simp at c;subst c;exact bk_cell _ _ rfl) (by intro jx e c;match jx,c with|0,_=>exact .inr (by simp[deafBehind])|jx+1,c=>grind) (by decide) (.d3 hk) rfl ?_ (.inl ⟨by omega,by simp[cnt]⟩);have:=Go.ConcN.Mode.last (j:=j) (D:=upd D x ⟨3,0,1⟩) (tag:=tag) x RA hx (by rw[upd_same];simp) (λa J e=>by rw[upd_ne D _ e];grind);rw[upd_same]at this;grind
   .obtain⟨g',w',es,hgo,⟨rfl,rfl⟩,DO⟩:=k8 w (Go.ConcN.RW.refl w);exact idle hgo (.d2 DO) rfl
  |d3 h =>
   rcases Goes.cases h with k7|⟨m',rfl,k8⟩
   .obtain⟨_,Nk⟩:=k7 w (Go.ConcN.RW.refl w);obtain⟨RA,BR,e1,e2⟩:=I.mode.isLast hx (by omega);have yD:=I.wg;rw[e1,e2,Gw]at yD;obtain⟨g',hgo,m₂,hk⟩:=Nk (by grind);refine book hgo (aside_setCell w (stA Y.Wg) _) (yD.setSt 0) (by intro e c;simp at c;subst c;exact bk_cell _ _ rfl) (by intro jx e c;match jx,c with|0,_=>exact .inr (by simp[deafBehind])|jx+1,c=>grind) (by decide) (.d4 hk) rfl ?_ (.inl ⟨by omega,by simp[cnt]⟩);have:=Go.ConcN.Mode.last (j:=j) (D:=upd D x ⟨2,0,1⟩) (tag:=tag) x RA hx (by rw[upd_same];simp) (λa J e=>by rw[upd_ne D _ e];grind);rw[upd_same]at this;grind
   .obtain⟨g',w',es,hgo,⟨rfl,rfl⟩,DO⟩:=k8 w (Go.ConcN.RW.refl w);exact idle hgo (.d3 DO) rfl
  |d4 h =>
   rcases Goes.cases h with k7|⟨m',rfl,k8⟩
   .obtain⟨_,Y4,Nk⟩:=k7 w (Go.ConcN.RW.refl w);obtain⟨RA,BR,e1,e2⟩:=I.mode.isLast hx (by omega);have yD:=I.wg;rw[e1,e2,Gw]at yD;obtain⟨g',hgo,q,hq⟩:=Nk (by grind);have uO:g'.status=.running:=by
     cases q with
     |zero=>exact absurd hq.2 (by decide)
     |succ q=>exact hq.elim (λx=>absurd x.2 (by decide)) (λx=>x.1)
    refine Nj hgo (aside_setCell w (smA Y.Wg) _) (yD.setSm 1) (es:=semEvents (smA Y.Wg)) ?_ ?_ (by decide) (.quit hq) (by simp[deafBehind,semEvents]) ?_ (.inl ⟨by omega,by simp[cnt]⟩)
    .intro e c;simp[semEvents]at c;rcases c with rfl|rfl|rfl|rfl
     .exact .inl rfl
     .exact bk_cell _ _ rfl
     .exact bk_cell _ _ rfl
     .exact .inr (.inl rfl)
    .intro jx e c
     match jx,c with
     |0,c=>simp[semEvents]at c;subst c;exact .inl rfl
     |1,_=>exact .inr (by simp[deafBehind,semEvents])
     |2,_=>exact .inr (by simp[deafBehind,semEvents])
     |3,c=>simp[semEvents]at c;subst c;exact .inl rfl
     |jx+4,c=>simp[semEvents]at c
    .intro tag' ht U;have hnb:=U Y4 uO;have e3:tag'=.w3:=by
      rcases ht with rfl|⟨_,rfl⟩
      .cases tag'<;>first|rfl|exact RA.elim|grind
      .rfl
     subst e3;simp only[bZ];exact .sema λa J=>by
      by_cases e:a=x
      .subst e;rw[upd_same]
      .rw[upd_ne D _ e];grind
   .obtain⟨g',w',es,hgo,⟨rfl,rfl⟩,DO⟩:=k8 w (Go.ConcN.RW.refl w);exact idle hgo (.d4 DO) rfl
  |quit h =>
   cases m with
   |zero=>rw[h.1]at uA;cases uA
   |succ q =>
    rcases h with⟨hf,_⟩|⟨_,g',es,Nl,k8,hq⟩
    .grind
    .have EY:∀e∈es,Bk Y.Wg e:=λe c=>bk_of_mute (Nl e c);have UG:∀jx e,es[jx]?=aa e->(aH e).touch?=af∨0<deafBehind dd (es.extract 0 jx):=λjx e c=>.inl (touch_mute (Nl e (tp c)));exact book (k8 w) (.refl Y.Wg w) I.wg EY UG (by decide) (.quit hq) rfl (same _ _) (.inr ⟨rfl,rfl⟩)
end
end
section
open Go.Conc
open Go.ConcN (WD CTag Vc Ssum pend phi cnt WgLive PayAt Has RW DWs WSit RelBy sumTo upd upd_same upd_ne AtR0 isW3 isOpen OpenSt deafBehind_idle bk_cell okW_none Vc_upd Vc_le le_sumTo others_uncounted sumTo_upd_out bk_dis bk_en bk_rd bk_rw bk_sem allQuit_of exists_counted)
open Go.ConcR (KK WgAt stA smA rd wr mk Payload g_of_ofEvents Bk bk_of_mute ofEvent_loc_mark ofEvent_cell ofEvent_mk)
variable [Payload]
section
variable {Y:Lay}{T k:ak->St->Prop}{l hm':Nat->Nat}{z G:Nat->Mem}{tag:CTag}{rk:Rk}{d:Nat}{a:ak}{S:Mu}{O:Array ak}{sl:Option (Nat×Nat)}{t:Trace}{D:Nat->WD}{A:Nat->Nat}{K:Nat->Rk}{st sm:Int}
omit [Payload]in
def TL.congr{B:Nat}(h:TL Y l z t j B)(e:∀y,y<j->G y=z y):TL Y l G t j B :=
 ⟨h.base,h.Gu,h.hC,h.ne,h.Ng,h.OE,h.Gv,λx H=>by rw[e x H];exact h.ms x H,h.T0,h.nr,h.seen,h.old,h.OF,h.EV,λi a hi X l=>(h.new i a hi X l).imp id λ⟨x,H,u,F⟩=>⟨x,H,u,by grind⟩,
  λx H=>by rw[e x H];exact h.mw x H,h.over⟩
def WS.congr{x a st d:Nat}{r:Rk}(h:WS P ty Y N val l z x a st r d g w)(e:G x=z x):WS P ty Y N val l G x a st r d g w:=by
 cases h with
 |am u F J=>exact .am u F (by grind)
 |rel u=>exact .rel u
 |tail h0 u=>exact .tail h0 u
def Com.congr{q:Nat}(h:Com P ty Y N val l z j O w t D A K q)(e:∀y,y<j->G y=z y):Com P ty Y N val l G j O w t D A K q :=
 ⟨h.size,h.lv,h.above,λx H=>let ⟨g,u,F⟩:=h.wk x H;⟨g,u,F.congr (e x H)⟩,h.tl.congr e,h.norel,h.deaf0,h.deafW,h.rel,h.wA,h.Ae,h.pay,h.live,h.zD,h.BE,h.Ko,h.kc,λy n=>by rw[e y n];exact h.Lb y n⟩
omit [Payload]in
def Lg{s2:St}{es:Array Event}(W:iZ Y l z j s)(Z:aD σ s)(R:ee s es)(st:Step σ s σ' s2):
  (∀e∈es,(aH e).low s2.w.heap.size)/\(∀e∈es,∀a,(aH e).touch?=aa a->a.loc.isMemory=ab->qM Y (me l s.w.heap.size 0) a) /\
  (∀e∈es,∀a,(aH e).touch?=aa a->a.kind=.plain->a.write=ab->∀x,x<j->∀b o v,a.loc=.cell ⟨b,o,af⟩->z x b o≠aa v) /\
  (∀e∈es,e.loc≠.mark .disable/\e.loc≠.mark .enable)/\∀e∈es,∀a,e.loc≠.mark (.release a):=by
 have key:∀e∈es,(aH e).low s2.w.heap.size/\(∀a,(aH e).touch?=aa a->a.loc.isMemory=ab->qM Y (me l s.w.heap.size 0) a) /\
   (∀a,(aH e).touch?=aa a->a.kind=.plain->a.write=ab->∀x,x<j->∀b o v,a.loc=.cell ⟨b,o,af⟩->z x b o≠aa v)/\(e.loc≠.mark .disable/\e.loc≠.mark .enable)/\∀a,e.loc≠.mark (.release a):=by
  intro e E;have h:=R e E;obtain⟨loc,wr,sy⟩:=e;cases loc with
  |cell ad =>
   obtain⟨u,F,J⟩:=h;simp only at u F J;subst u;have p:ad.block<s.w.heap.size/\l ad.block=0/\ad.block≠Y.C/\ad.block≠Y.Wg/\¬Y.Sh ad.block:=by
    rcases J with J|⟨⟨L,U,J⟩,_⟩|⟨_,v,J⟩
    .exact J.elim
    .obtain⟨k1,k2,Q,k4,k5⟩:=W.blk _ (.inr ⟨L,U,J⟩);grind
    .obtain⟨k1,k2,Q,k4,k5⟩:=W.M _ _ _ J;grind
   refine⟨by rw[ofEvent_cell];exact cA p.1 st.size,λb c _=>?_,λb c _ Y5 x H b' o v hl V=>?_,⟨by simp,by simp⟩,by simp⟩
   .rw[ofEvent_cell]at c;simp only[MemAct.touch?,dk]at c;subst c;exact .inr ⟨ad.block,rfl,by grind[ez],p.2.2.2.1,p.2.2.1,p.2.2.2.2,rfl⟩
   .rw[ofEvent_cell]at c;simp only[MemAct.touch?,dk]at c;subst c;simp only at Y5 hl;have hM:=W.ms x H b' o v V;grind
  |obj r =>
   obtain⟨u,F⟩:=h;simp only at u F;subst u;obtain⟨L,U,J⟩:=F.resolve_left id;obtain⟨k1,k2,Q,k4,k5⟩:=W.blk _ (.inr ⟨L,U,J⟩);refine⟨?_,λb c _=>?_,λb c _ _ x _ b' o v hl=>?_,⟨by simp,by simp⟩,by simp⟩
   .simp[aH,MemAct.low,Loc.low];exact cA k5 st.size
   .simp[aH,MemAct.touch?]at c;subst c;exact .inr ⟨r,rfl,by grind[ez],Q,k2,k4,rfl⟩
   .simp[aH,MemAct.touch?]at c;grind
  |mark m =>
   simp only[nz]at h;rcases h with rfl|⟨f,rfl⟩
   .exact⟨by simp[aH,MemAct.low],λb c=>by simp[aH,MemAct.touch?]at c,λb c=>by simp[aH,MemAct.touch?]at c,⟨by simp,by simp⟩,by simp⟩
   .exact⟨by simp[aH,MemAct.low],λb c=>by simp[aH,MemAct.touch?]at c,λb c=>by simp[aH,MemAct.touch?]at c,⟨by simp,by simp⟩,by simp⟩
  |_=>exact h.elim
 grind
def rK(I:rJ P ty Y N val n T k S O w t l z j D A K d tag rk a s st sm){a':ak}{es:Array Event}{tag':CTag}{rk':Rk}{pj EX:Int}(hgo:aG P ab a w=.go a' w' es)(Z:∀b,b<w.heap.size->hm' b=l b)(KB:w.heap.size<=w'.heap.size)(U3:∀y,y<j->EW Y l (z y) y w w')(Rv:∀e∈es,(aH e).low w'.heap.size)(Y6:∀e∈es,∀a,(aH e).touch?=aa a->a.loc.isMemory=ab->qM Y hm' a)(TU:∀e∈es,∀a,(aH e).touch?=aa a->a.kind=.plain->a.write=ab->∀x,x<j->∀b o v,a.loc=.cell ⟨b,o,af⟩->z x b o≠aa v)(Rw:∀e∈es,∀a,e.loc≠.mark (.release a))(Hq:PayAt Y.C N w')(yD:WgAt ty Y.Wg w' pj EX)(EZ:CS P ty Y N val n T k tag' j rk' (deafBehind d es) a' s')(RB:b5 s' {s' with w:=w'})(g:iZ Y hm' z j s')(q:Go.ConcN.Mode j D tag' pj EX)(p:phi n (Vc j D) tag'<phi n (Vc j D) tag∨(phi n (Vc j D) tag'=phi n (Vc j D) tag/\Rk.lt rk' rk)):
  ∃m₁ ops μ',runT P (crowd O w sl) 0=(.next m₁,ops)/\DM (Y.base+n) μ' S/\Inv P ty Y N val n T k μ' m₁ (t++ops):=by
 have c:=I.fG.tl.base;have uA:=runT_crowd_go (P:=P) (sl:=sl) (i:=0) I.a0 (by simpa using hgo)
 refine⟨_,_,(phi n (Vc j D) tag'+Ssum j D+sumTo j A,(K,rk')),uA,?_,_,w',sl,hm',z,j,D,A,K,deafBehind d es,tag',rk',a',s',pj,EX,rfl,
  ⟨Go.ConcN.get_map_set_same _ _ _ (by rw[I.fG.size];omega),EZ,RB,g,I.fG.step0 Z KB U3 Rv Y6 TU Rw Hq ⟨_,_,yD⟩,yD,q,rfl⟩⟩
 rw[I.mu];rcases p with h|⟨u,F⟩
 .exact Prod.Lex.left _ _ (by omega)
 .rw[u];exact Prod.Lex.right _ (Prod.Lex.right _ F)
def g6(I:rJ P ty Y N val n T k S O w t l z j D A K d tag rk a s st sm){a':ak}{es:Array Event}{rk':Rk}{s1:St}(u:b5 s1 {s1 with w:=w})(q:iZ Y l z j s1)(hgo:aG P ab a w=.go a' s'.w es)(UY:pJ {s1 with w:=w} s' es∨Es Y.Wg {s1 with w:=w} s' es)(EZ:CS P ty Y N val n T k tag j rk' d a' s')(p:Rk.lt rk' rk):
  ∃m₁ ops μ',runT P (crowd O w sl) 0=(.next m₁,ops)/\DM (Y.base+n) μ' S/\Inv P ty Y N val n T k μ' m₁ (t++ops):=by
 rcases UY with⟨⟨σ,σ',Z,iQ,g⟩,R⟩|⟨rfl,ad,Y7,UX⟩
 .have Q:iZ Y l z j {s1 with w:=w}:=q.rely u.size;obtain⟨e1,e2,e3,e4,e5⟩:=Lg Q Z R g;have uM:∀b,b<w.heap.size->(l b≠0∨b=Y.C∨b=Y.Wg)->s'.w.heap[b]?=w.heap[b]?:=λb c zC=>g.keep b c λL U N2=>by obtain⟨q1,q2,q3,_⟩:=Q.blk b (.inr ⟨L,U,N2⟩);grind
  have Hn:=I.fG.tl.base;refine rK I hgo (hm':=me l w.heap.size 0) (λb c=>ez c) g.size (λy hy=>⟨g.size,λb c YY=>uM b c (.inl (by omega)),λb o v V _=>iQ.mem b o v (g.mem _ _ _ (q.ms y hy b o v V)),λo _ _=>ja (uM _ I.fG.BE (.inr (.inl rfl))) o,g.os,g.tape,g.output⟩) e1 e2 e3 e5 ?_
   (I.wg.of_block (uM _ I.fG.zD (.inr (.inr rfl)))) (s':=s') (tag':=tag) (rk':=rk') (by rw[deafBehind_idle e4];exact EZ) (b5.uL iQ.mem) (Q.step iQ g I.fG.zD I.fG.BE I.fG.Ko) I.mode (.inr ⟨rfl,p⟩)
  obtain⟨cs,c1,c2⟩:=I.fG.pay;exact⟨cs,(uM _ I.fG.BE (.inr (.inl rfl))).trans c1,c2⟩
 .have Lh:∀e∈es,e=mk (.read ad)∨e=mk (.write ad):=by grind
  refine rK I hgo (hm':=l) (λb c=>rfl) (aZ _) (λy hy=>.refl ..) (λe E=>?_) (λe E b c _=>?_) (λe E b c hk=>?_) (λe E=>?_) I.fG.pay I.wg (s':={s1 with w:=w}) (tag':=tag) (rk':=rk') ?_ (u.trans' ) (q.rely u.size) I.mode (.inr ⟨rfl,p⟩)
  .have hW:=I.fG.zD;rcases Lh e E with rfl|rfl<;>(rw[ofEvent_mk];show ad.block<_;grind)
  .rcases Lh e E with rfl|rfl<;>(rw[ofEvent_mk]at c;simp[MemAct.touch?]at c;subst c;exact .inl ⟨ad,rfl,Y7,by simp⟩)
  .rcases Lh e E with rfl|rfl<;>(rw[ofEvent_mk]at c;simp[MemAct.touch?]at c;grind)
  .rcases Lh e E with rfl|rfl<;>simp[mk]
  .rw[deafBehind_idle (λe E=>by rcases Lh e E with rfl|rfl<;>simp[mk])];exact EZ
def fN(I:rJ P ty Y N val n T k S O w t l z j D A K d tag rk a s st sm){a':ak}{es:Array Event}{tag':CTag}{rk':Rk}{pj EX:Int}{s1:St}(u:b5 s1 {s1 with w:=w})(Nm:iZ Y l z j s1)(hgo:aG P ab a w=.go a' w' es)(g:Aside Y.Wg w w')(Ho:WgAt ty Y.Wg w' pj EX)(EY:∀e∈es,Bk Y.Wg e)(EZ:CS P ty Y N val n T k tag' j rk' (deafBehind d es) a' {s1 with w:=w'})(uN:Go.ConcN.Mode j D tag' pj EX)(p:phi n (Vc j D) tag'<phi n (Vc j D) tag∨(phi n (Vc j D) tag'=phi n (Vc j D) tag/\Rk.lt rk' rk)):
  ∃m₁ ops μ',runT P (crowd O w sl) 0=(.next m₁,ops)/\DM (Y.base+n) μ' S/\Inv P ty Y N val n T k μ' m₁ (t++ops):=by
 obtain⟨cs,TM,QD⟩:=I.fG.pay;have F:b5 s1 {s1 with w:=w'}:=Nm.Hk u (B8.wg g);refine rK I hgo (hm':=l) (λb c=>rfl) (by rw[g.size];grind) (λy hy=>.wg g I.fG.tl.Gu I.fG.tl.base (λb o v V=>(I.fG.tl.ms y hy b o v V).2.2.1) I.fG.tl.ne) (Hm EY (by rw[g.size];exact I.fG.zD)) (λe E b c l=>?_) (λe E b c hk=>?_) (Af EY)
  ⟨cs,(g.block _ I.fG.tl.ne).trans TM,QD⟩ Ho EZ F.trans' (Nm.rely F.size) uN p
 .rcases EY e E with q|q|⟨ad,wr,rfl,X⟩
  .rw[ofEvent_loc_mark q]at c;cases c
  .rw[ofEvent_loc_mark q]at c;cases c
  .rw[ofEvent_cell]at c;simp only[MemAct.touch?,dk]at c;subst c;exact .inl ⟨ad,rfl,X,by simp⟩
 .rcases EY e E with q|q|⟨ad,wr,rfl,X⟩
  .rw[ofEvent_loc_mark q]at c;cases c
  .rw[ofEvent_loc_mark q]at c;cases c
  .rw[ofEvent_cell]at c;simp only[MemAct.touch?,dk]at c;grind
end
section
variable {Y:Lay}{T k:ak->St->Prop}{l hm':Nat->Nat}{u f:Nat->Mem}{tag:CTag}{rk:Rk}{d:Nat}{a:ak}{E:Mu}{z:Array ak}{sl:Option (Nat×Nat)}{t:Trace}{D:Nat->WD}{A:Nat->Nat}{K:Nat->Rk}{st F:Int}
def CS.bound(h:CS P ty Y N val n T k tag j rk d a s):j+pend tag<=n:=by cases h<;>simp only[pend]<;>(try simp)<;>omega
omit [Payload]in
def g7(h:jD (Cx.lead P ty Y.Wg) (Es Y.Wg) S rk a s)(p:b5 s {s with w:=w})(H:iZ Y l u j s)(live:WgLive ty Y.Wg w):
  (∃s',b5 s' {s' with w:=w}/\iZ Y l u j s'/\S a s')∨∃s',b5 s' {s' with w:=w}/\iZ Y l u j s'/\∃g' s2 es r',aG P ab a w=.go g' s2.w es/\(pJ {s' with w:=w} s2 es∨Es Y.Wg {s' with w:=w} s2 es)/\jD (Cx.lead P ty Y.Wg) (Es Y.Wg) S r' g' s2/\Rk.lt r' rk:=by
 rcases h.norm (λs0=>b5 s0 {s0 with w:=w}/\iZ Y l u j s0) (λs0 s' C hi=>⟨hi.1.ghost C,hi.2.ghost C⟩) (λG=>False.elim G) ⟨p,H⟩with⟨s',⟨k1,c⟩,B⟩|⟨_,s',⟨k1,c⟩,B⟩
 .grind
 .exact .inr ⟨s',k1,c,B _ ⟨k1,λ_=>live⟩⟩
def WS.quits{x a st d:Nat}{r:Rk}{g:ak}(h:WS P ty Y N val l u x a st r d g w)(b:st=1):∃m,QuitsD P m d g:=by
 cases h with
 |am _ _ _=>cases b
 |rel _=>cases b
 |tail _ h=>exact⟨_,h.quits b⟩
def WS.small{x a st d:Nat}{r:Rk}(h:WS P ty Y N val l u x a st r d g w)(b:st=1):a=0:=by
 cases h with
 |am _ _ _=>cases b
 |rel _=>rfl
 |tail _ h=>rfl
def Hr(I:rJ P ty Y N val n T k E z w t l u j D A K d tag rk a s st F)(hn:n<2147483648)(TX:∀g s,k g s->dT (Cx.lead P ty Y.Wg) (Es Y.Wg) (AtW1 P ty Y T k) g s)(uA:a.status=.running):
  ∃Z ops,runT P (crowd z w sl) 0=(.next Z,ops)/\((∃hm' f,Lc P Y N val n T hm' f Z (t++ops))∨∃μ',DM (Y.base+n) μ' E/\Inv P ty Y N val n T k μ' Z (t++ops)):=by
 have YX:=Vc_le j D;have Hn:=I.fG.tl.base;have live:=I.fG.live;have fin:∀{X:Prop},(∃Z ops μ',runT P (crowd z w sl) 0=(.next Z,ops)/\DM (Y.base+n) μ' E/\Inv P ty Y N val n T k μ' Z (t++ops)) ->
   ∃Z ops,runT P (crowd z w sl) 0=(.next Z,ops)/\((∃hm' f,Lc P Y N val n T hm' f Z (t++ops))∨∃μ',DM (Y.base+n) μ' E/\Inv P ty Y N val n T k μ' Z (t++ops)) :=
  λ{_} ⟨Z,ops,μ',p,h2,h3⟩=>⟨Z,ops,p,.inr ⟨μ',h2,h3⟩⟩
 have hbound:=I.cs.bound;have cs:=I.cs;have R:=I.wg;have O:=I.mode;cases cs with
 |@skd r rk g s hr h =>
  rcases g7 h I.rely I.lead live with⟨s',k1,c,_,g',J,Q⟩|⟨s',k1,c,g',s2,es,r',J,V,Q,U⟩
  .obtain⟨r2,Q⟩:=Q {s' with w:=w} (ft k1 live);exact fin (X:=True) (fN I k1 c (J w) (.refl Y.Wg w) R bk_dis (.sa1 hr Q) (O.reopen ar ar rfl (by simp)) (.inl (by simp only[phi];omega)))
  .exact fin (X:=True) (g6 I k1 c J V (.skd hr Q) U)
 |@sa1 r rk g s hr h =>
  rcases g7 h I.rely I.lead live with⟨s',k1,c,_,W⟩|⟨s',k1,c,g',s2,es,r',J,V,Q,U⟩
  .obtain⟨ho,e1,e2,_⟩:=O.open_inv ar;rw[e1,e2]at R;obtain⟨a',J,r2,Q⟩:=W {s' with w:=w} (ft k1 live) (Vc (n-(r+1)) D) (by omega) (by simpa[pend]using R);refine fin (X:=True) (fN I k1 c J (aside_setCell w (stA Y.Wg) _) (R.setSt _) bk_rw (.ske hr Q) ?_ (.inl (by simp only[phi];omega)));have e:(((Vc (n-(r+1)) D:Nat):Int)+1)*KK=((Vc (n-(r+1)) D+pend (.sp r 3):Nat):Int)*KK:=by simp[pend]
   rw[e];exact .opn ar ho (by simp)
  .exact fin (X:=True) (g6 I k1 c J V (.sa1 hr Q) U)
 |@ske r rk g s hr h =>
  rcases g7 h I.rely I.lead live with⟨s',k1,c,_,g',J,Q⟩|⟨s',k1,c,g',s2,es,r',J,V,Q,U⟩
  .obtain⟨r2,Q⟩:=Q {s' with w:=w} (ft k1 live);exact fin (X:=True) (fN I k1 c (J w) (.refl Y.Wg w) R bk_en (.sgo hr Q) (O.reopen ar ar rfl (by simp)) (.inl (by simp only[phi];omega)))
  .exact fin (X:=True) (g6 I k1 c J V (.ske hr Q) U)
 |@sgo r rk g s hr h =>
  rcases g7 h I.rely I.lead live with⟨s',k1,c,_,W⟩|⟨s',k1,c,g',s2,es,r',J,V,Q,U⟩
  .obtain⟨a',child,Y8,_,⟨rc,UU⟩,Nn⟩:=W {s' with w:=w} (ft k1 live);obtain⟨ho,e1,e2,_⟩:=O.open_inv ar;rw[e1,e2]at R;have uO:=runT_crowd_spawn (P:=P) (sl:=sl) (i:=0) I.a0 (by simpa using Y8);rw[I.fG.size]at uO;have B:iZ Y l u (n-(r+1)) {s' with w:=w}:=c.rely k1.size;let f:=upd u (n-(r+1)) s'.M;have WR:∀y,y<n-(r+1)->f y=u y:=λy hy=>upd_ne u _ (by omega);have U4:f (n-(r+1))=s'.M:=upd_same u _ _;have OH:b5 (St.child {s' with w:=w}) {St.child {s' with w:=w}with w:=w}:=b5.uL k1.mem;have RD:k6 l (f (n-(r+1))) (Y.base+(n-(r+1))) (St.child {s' with w:=w}):=by
    refine⟨λb hb=>?_,λb o v hv=>⟨.inr (by rw[U4];exact hv),(B.M b o v hv).2.2.2.2⟩⟩;rcases hb with hb|⟨L,hL,_⟩
    .exact hb.elim
    .simp[St.child]at hL
   have DQ:=(I.fG.congr WR).spawn (a':=a') (x:={g:=0,fn:=a.frame.fn,pos:=a.frame.place,act:=.go (Y.base+(n-(r+1)))}) (y:={g:=Y.base+(n-(r+1)),fn:=child.frame.fn,pos:=a.frame.place,act:=.start}) ⟨rfl,rfl⟩ ⟨rfl,rfl⟩
    (λb o v hv=>by rw[U4]at hv;exact B.M b o v hv) UU OH RD
   have eV:Vc (n-(r+1)+1) (upd D (n-(r+1)) ⟨7,0,0⟩)=Vc (n-(r+1)) D+1:=by simp only[Vc,sumTo,upd_same];rw[sumTo_upd_out D _ cnt (aZ _)];rfl
   have eS:Ssum (n-(r+1)+1) (upd D (n-(r+1)) ⟨7,0,0⟩)=Ssum (n-(r+1)) D+7:=by simp only[Ssum,sumTo,upd_same];rw[sumTo_upd_out D _ WD.stage (aZ _)]
   have eA:sumTo (n-(r+1)+1) (upd A (n-(r+1)) 1)=sumTo (n-(r+1)) A+1:=by have:sumTo (n-(r+1)) (upd A (n-(r+1)) 1)=sumTo (n-(r+1)) A:=sumTo_upd_out A 1 id (i:=n-(r+1)) (j:=n-(r+1)) (aZ _);show sumTo (n-(r+1)) (upd A (n-(r+1)) 1)+upd A (n-(r+1)) 1 (n-(r+1))=_;rw[upd_same];grind
   have TY:OpenSt (n-(r+1)+1) (upd D (n-(r+1)) ⟨7,0,0⟩):=λi hi=>by
    by_cases e:i=n-(r+1)
    .subst e;rw[upd_same];simp
    .rw[upd_ne D _ e];exact ho i (by omega)
   have U5:((z.setIfInBounds 0 a').push child)[0]?=aa a':=by
    have h0:0<z.size:=by rw[I.fG.size];omega
    grind
   have yE:iZ Y l f (n-(r+1)+1) {s' with w:=w}:=⟨B.blk,B.M,λy hy b o v hv=>by
    rcases cv y (n-(r+1))with p|p
    .rw[WR y p]at hv;exact B.ms y p b o v hv
    .obtain rfl:y=n-(r+1):=by omega
     rw[U4]at hv;exact hv⟩
   have ej:n-(r+1)+1=n-r:=by omega
   rw[ej]at DQ eV eS eA TY yE;have U6:∀tag',pend tag'=0->((Vc (n-(r+1)) D+pend (.sp r 2):Nat):Int)*KK=((Vc (n-r) (upd D (n-(r+1)) ⟨7,0,0⟩)+pend tag':Nat):Int)*KK:=λtag' hp=>by rw[eV,hp];simp[pend]
   cases r with
   |zero =>
    obtain⟨r3,Q⟩:=Nn;simp only[kt]at DQ eV eS eA TY U6 yE;refine⟨_,_,uO,.inr ⟨(phi n (Vc n (upd D (n-(0+1)) ⟨7,0,0⟩)) .kd+Ssum n (upd D (n-(0+1)) ⟨7,0,0⟩)+sumTo n (upd A (n-(0+1)) 1),(upd K (Y.base+(n-(0+1))) rc,r3)),by rw[I.mu];exact Prod.Lex.left _ _ (by simp only[phi];omega),
     _,w,sl,l,f,n,_,_,_,0,.kd,r3,a',{s' with w:=w},_,_,rfl,⟨U5,.kd Q,k1.trans',yE,DQ,R,?_,rfl⟩⟩⟩
    rw[U6 .kd rfl];exact .opn ar TY (by simp)
   |succ r' =>
    obtain⟨r3,Q⟩:=Nn;refine⟨_,_,uO,.inr ⟨(phi n (Vc (n-(r'+1)) (upd D (n-(r'+1+1)) ⟨7,0,0⟩)) (.sp r' 5)+Ssum (n-(r'+1)) (upd D (n-(r'+1+1)) ⟨7,0,0⟩)+sumTo (n-(r'+1)) (upd A (n-(r'+1+1)) 1),(upd K (Y.base+(n-(r'+1+1))) rc,r3)),by rw[I.mu];exact Prod.Lex.left _ _ (by simp only[phi];omega),
     _,w,sl,l,f,n-(r'+1),_,_,_,0,.sp r' 5,r3,a',{s' with w:=w},_,_,rfl,⟨U5,.skd (by omega) Q,k1.trans',yE,DQ,R,?_,rfl⟩⟩⟩
    rw[U6 (.sp r' 5) rfl];exact .opn ar TY (by simp)
  .exact fin (X:=True) (g6 I k1 c J V (.sgo hr Q) U)
 |kd h =>
  rcases g7 h I.rely I.lead live with⟨s',k1,c,_,g',J,Q⟩|⟨s',k1,c,g',s2,es,r',J,V,Q,U⟩
  .obtain⟨r2,Q⟩:=TX _ _ (Q {s' with w:=w} (ft k1 live));exact fin (X:=True) (fN I k1 c (J w) (.refl Y.Wg w) R bk_dis (.w1 Q) (O.reopen ar ar rfl (by simp)) (.inl (by simp only[phi];omega)))
  .exact fin (X:=True) (g6 I k1 c J V (.kd Q) U)
 |w1 h =>
  rcases g7 h I.rely I.lead live with⟨s',k1,c,_,W⟩|⟨s',k1,c,g',s2,es,r',J,V,Q,U⟩
  .obtain⟨ho,e1,e2,_⟩:=O.open_inv ar;rw[e1,e2]at R;have hV:=Vc_le n D;obtain⟨a',J,h0,zC⟩:=W {s' with w:=w} (ft k1 live) (Vc n D) (by omega) (by grind);by_cases hv:Vc n D=0
   .obtain⟨r2,Q⟩:=h0 hv;refine fin (X:=True) (fN I k1 c J (.refl Y.Wg w) R bk_rd (.ke Q) ?_ (.inl (by simp only[phi];omega)));have e:((Vc n D+pend .w1:Nat):Int)*KK=0:=by grind
    rw[e];exact .fin ar (allQuit_of ho hv)
   .obtain⟨r2,Q⟩:=zC hv;refine fin (X:=True) (fN I k1 c J (.refl Y.Wg w) R bk_rd (.w2 Q) ?_ (.inl (by simp only[phi];omega)));have:=O.reopen (tag':=.w2 (Vc n D)) ar ar rfl (λvs e=>by grind);grind
  .exact fin (X:=True) (g6 I k1 c J V (.w1 Q) U)
 |@w2 vs rk g s h =>
  rcases g7 h I.rely I.lead live with⟨s',k1,c,_,W⟩|⟨s',k1,c,g',s2,es,r',J,V,Q,U⟩
  .obtain⟨ho,e1,e2,U7⟩:=O.open_inv ar;rw[e1,e2]at R;obtain⟨hle,p⟩:=U7 vs rfl;obtain⟨U8,RE⟩:=W {s' with w:=w} (ft k1 live) (Vc n D) (by omega) (by grind);by_cases e:Vc n D=vs
   .obtain⟨a',J,r2,Q⟩:=U8 e;exact fin (X:=True) (fN I k1 c J (aside_setCell w (stA Y.Wg) _) (R.setSt _) bk_rw (.w3 Q) (.reg ar ho (by omega)) (.inl (by simp only[phi];omega)))
   .obtain⟨a',J,Q⟩:=RE e;obtain⟨r2,Q⟩:=TX _ _ Q;refine fin (X:=True) (fN I k1 c J (.refl Y.Wg w) R bk_rd (.w1 Q) ?_ (.inl (by simp only[phi];omega)));have:=O.reopen (tag':=.w1) ar ar rfl (by simp);grind
  .exact fin (X:=True) (g6 I k1 c J V (.w2 Q) U)
 |@w3 rk g s h =>
  rcases g7 h I.rely I.lead live with⟨s',k1,c,k7⟩|⟨s',k1,c,g',s2,es,r',J,V,Q,U⟩
  .obtain⟨_,Rc,W⟩:=k7;obtain⟨Lj,No⟩:=W {s' with w:=w} (ft k1 live);obtain⟨x,hx⟩:=Rk.Hl s rk;have RF:AtW3 P ty Y T a {s' with w:=w}:=AtW3.rely ⟨uA,Rc,W⟩ (ft k1 live);generalize st=U2 at O R;generalize F=Y3 at O R;cases O with
   |opn p _ _=>exact p.elim
   |reg p h2 h3=>exact fin (X:=True) (fN I k1 c (Lj ⟨_,R⟩) (.refl Y.Wg w) R (by simp) (.blk (rk:=x) RF) (.reg ar h2 h3) (.inr ⟨rfl,hx⟩))
   |last L p h2 h3 h4=>exact fin (X:=True) (fN I k1 c (Lj ⟨_,R⟩) (.refl Y.Wg w) R (by simp) (.blk (rk:=x) RF) (.last L ar h2 h3 h4) (.inr ⟨rfl,hx⟩))
   |sema h2 =>
    obtain⟨a',J,r2,Q⟩:=No R;exact fin (X:=True) (fN I k1 c J (aside_setCell w (smA Y.Wg) _) (R.setSm 0) bk_sem (.w4 Q) (.fin ar h2) (.inl (by simp only[phi];omega)))
   |fin p _=>exact p.elim
  .exact fin (X:=True) (g6 I k1 c J V (.w3 Q) (Rk.DL U))
 |blk h=>grind
 |w4 h =>
  rcases g7 h I.rely I.lead live with⟨s',k1,c,_,W⟩|⟨s',k1,c,g',s2,es,r',J,V,Q,U⟩
  .obtain⟨hq,e1,e2⟩:=O.fin_inv ar;rw[e1,e2]at R;obtain⟨a',J,r2,Q⟩:=W {s' with w:=w} (ft k1 live) R;exact fin (X:=True) (fN I k1 c J (.refl Y.Wg w) R bk_rd (.ke Q) (.fin ar hq) (.inl (by simp only[phi];omega)))
  .exact fin (X:=True) (g6 I k1 c J V (.w4 Q) U)
 |ke h =>
  rcases g7 h I.rely I.lead live with⟨s',k1,c,_,g',J,Q⟩|⟨s',k1,c,g',s2,es,r',J,V,Q,U⟩
  .obtain⟨r2,Q⟩:=Q {s' with w:=w} (ft k1 live);obtain⟨hq,e1,e2⟩:=O.fin_inv ar;rw[e1,e2]at R;exact fin (X:=True) (fN I k1 c (J w) (.refl Y.Wg w) R bk_en (.acq Q) (.fin ar hq) (.inl (by simp only[phi];omega)))
  .exact fin (X:=True) (g6 I k1 c J V (.ke Q) U)
 |acq h =>
  rcases g7 h I.rely I.lead live with⟨s',k1,c,_,a',J,Q⟩|⟨s',k1,c,g',s2,es,r',J,V,Q,U⟩
  .obtain⟨hq,e1,e2⟩:=O.fin_inv ar;have uO:=runT_crowd_go (P:=P) (sl:=sl) (i:=0) I.a0 (by simpa using J w);have ev:MemOp.ofEvents 0 a.frame.fn a.frame.place #[mk (.acquire (stA Y.Wg))]=#[{g:=0,fn:=a.frame.fn,pos:=a.frame.place,act:=.mark (.acquire (stA Y.Wg))}]:=by rw[ofEvents_eq];simp[ofEvent_mk]
   have uP:=I.fG.step0 (g:=a) (g':=a') (fn:=a.frame.fn) (pos:=a.frame.place) (es:=#[mk (.acquire (stA Y.Wg))]) (hm':=l) (w':=w) (λ_ _=>rfl) (aZ _) (λy _=>.refl ..) (by simp;exact I.fG.zD) (by intro e he b hb;simp at he;subst he;simp[mk,aH,MemAct.touch?]at hb) (by intro e he b hb;simp at he;subst he;simp[mk,aH,MemAct.touch?]at hb) (by intro e he;simp at he;subst he;simp[mk]) I.fG.pay live;have WT:deafBehind 0 #[mk (.acquire (stA Y.Wg))]=0:=rfl;have hy:(t++#[({g:=0,fn:=a.frame.fn,pos:=a.frame.place,act:=.mark (.acquire (stA Y.Wg))}:MemOp)])[t.size]?=aa {g:=0,fn:=a.frame.fn,pos:=a.frame.place,act:=.mark (.acquire (stA Y.Wg))}:=by simp
   have RG:=uP.tl.UT (by rw[uP.deaf0];rfl) (uP.norel _) (q:=t.size) (by rw[ev,act?_of hy]) (by rw[ev];simp[Trace.g?]) (by rw[ev];exact⟨0,by simp[Trace.g?],by rw[deaf_old (aZ _)];exact I.fG.deaf0⟩) (λx hx=>by
    obtain⟨r,hr⟩:=I.fG.rel x hx (by rw[hq x hx];omega)
    exact⟨r,hr.appOther g_of_ofEvents (by omega),lt_of_act? hr.act⟩)
   have EJ:∃q,Leavers P (t++MemOp.ofEvents 0 a.frame.fn a.frame.place #[mk (.acquire (stA Y.Wg))]) ((z.map (woken P a a' w)).setIfInBounds 0 a') q:=by
    have each:∀i,∃m,∀g,0<i->((z.map (woken P a a' w)).setIfInBounds 0 a')[i]?=aa g->QuitsD P m (Deaf (t++MemOp.ofEvents 0 a.frame.fn a.frame.place #[mk (.acquire (stA Y.Wg))]) i) g:=by
     intro i;cases Oe:((z.map (woken P a a' w)).setIfInBounds 0 a')[i]? with
     |none=>exact⟨0,λg _ C=>by cases C⟩
     |some g =>
      rcases nI i with e|OI
      .exact⟨0,λg' h=>by omega⟩
      .rcases cv i Y.base with U|QL
       .obtain⟨m,_,U9⟩:=uP.lv i g OI U Oe;exact⟨m,λg' _ DO=>by grind⟩
       .obtain⟨x,rfl⟩:∃x,i=Y.base+x:=⟨i-Y.base,by omega⟩
        have hx:x<n:=by have:=(gN.1 Oe).1;rw[uP.size]at this;omega
        obtain⟨g0,DK,Va⟩:=uP.wk x hx;rw[Oe]at DK;cases DK;obtain⟨m,U9⟩:=Va.quits (hq x hx);refine⟨m,λg' _ DO=>?_⟩;cases DO;rw[uP.deafW x hx];exact U9
    exact⟨λi=>Classical.choose (each i),λi g hi C=>Classical.choose_spec (each i) g hi C,λi hi=>uP.above i (by rw[uP.size]at hi;exact hi)⟩
   obtain⟨q,EJ⟩:=EJ;refine⟨_,_,uO,.inl ⟨l,u,⟨_,w,sl,a',s',q,rfl,Go.ConcN.get_map_set_same _ _ _ (by rw[I.fG.size];omega),uP.size,Q {s' with w:=w} (ft k1 live),k1,c,EJ,RG,uP.norel,I.fG.pay,λx hx i hi=>?_,I.fG.BE,I.fG.zD,I.fG.Ko⟩⟩⟩;obtain⟨g0,_,Va⟩:=I.fG.wk x hx;rcases nI i with e|OI
   .subst e;exact I.fG.Ae x hx (by rw[hq x hx];omega)
   .exact I.fG.wA x hx (Va.small (hq x hx)) i OI hi
  .exact fin (X:=True) (g6 I k1 c J V (.acq Q) U)
end
end
section
open Go.Conc
open Go.ConcN (WD CTag Vc Ssum pend phi cnt WgLive PayAt Has WSit RelBy sumTo upd upd_same upd_ne exists_counted)
open Go.ConcR (KK WgAt stA smA Payload)
variable [Payload]
section
variable {Y:Lay}{T c:ak->St->Prop}{p:Nat->Nat}{u:Nat->Mem}{tag:CTag}{rk:Rk}{d:Nat}{a:ak}{f:Mu}{l:Array ak}{sl:Option (Nat×Nat)}{t:Trace}{D:Nat->WD}{A:Nat->Nat}{K:Nat->Rk}{st y:Int}
def WS.running_of{x a st d:Nat}{r:Rk}{g:ak}(h:WS P ty Y N val p u x a st r d g w)(b:st≠1):g.status=.running:=by
 cases h with
 |am h1 _ _=>exact h1.run λ_ _ x=>x.1
 |rel h1=>exact Goes.running (λ_ _ x=>x.1) w (Go.ConcN.RW.refl w) h1
 |tail _ h1=>exact h1.running_of b
def someone_runs(I:rJ P ty Y N val n T c f l w t p u j D A K d tag rk a s st y):∃(i:Nat)(g:ak),l[i]?=aa g/\g.status=.running:=by
 rcases I.cs.status with⟨e,_⟩|⟨_,rfl⟩
 .exact⟨0,a,I.a0,e⟩
 .have b:=I.mode;cases b with
  |opn h1 _ _=>exact h1.elim
  |reg _ _ k =>
   obtain⟨i,hi,o⟩:=exists_counted k;obtain⟨g,h,e⟩:=I.fG.wk i hi;exact⟨_,g,h,e.running_of (by omega)⟩
  |last L _ m k _ =>
   obtain⟨g,h,e⟩:=I.fG.wk L m;exact⟨_,g,h,e.running_of (by omega)⟩
  |fin h1 _=>exact h1.elim
def all_awake(I:rJ P ty Y N val n T c f l w t p u j D A K d tag rk a s st y):∀g∈l,awake g:=by
 intro g v B;obtain⟨i,hi⟩:=Array.mem_iff_getElem?.1 v;rcases nI i with rfl|e
 .rw[I.a0]at hi;cases hi;rcases I.cs.status with⟨k,_⟩|⟨k,_⟩<;>rw[k]<;>simp
 .rcases cv i Y.base with o|q
  .obtain⟨m,_,r⟩:=I.fG.lv i g e o hi;rcases r.status with h|h<;>rw[h]<;>simp
  .obtain⟨x,rfl⟩:∃x,i=Y.base+x:=⟨i-Y.base,by omega⟩
   have z:x<j:=by have:=(gN.1 hi).1;rw[I.fG.size]at this;omega
   obtain⟨g',b,k⟩:=I.fG.wk x z;rw[hi]at b;cases b;rcases k.status with h|h<;>rw[h]<;>simp
def rJ.at(I:rJ P ty Y N val n T c f l w t p u j D A K d tag rk a s st y)(b:Nat):rJ P ty Y N val n T c f l (w.at b) t p u j D A K d tag rk a s st y :=
 ⟨I.a0,I.cs,I.rely.more (aZ _) (λ_ _=>rfl) (λ_ _ _ _ h=>h) rfl rfl rfl,I.lead,I.fG.at b,I.wg,I.mode,I.mu⟩
def B9(I:rJ P ty Y N val n T c f l w t p u j D A K d tag rk a s st y)(hi:0<i)(r:i<Y.base)(F:l[i]?=aa g)(o:g.status=.running):
  ∃h ops μ',runT P (crowd l w sl) i=(.next h,ops)/\DM (Y.base+n) μ' f/\Inv P ty Y N val n T c μ' h (t++ops):=by
 obtain⟨m,H,E⟩:=I.fG.lv i g hi r F;cases m with
 |zero=>rw[E.1]at o;cases o
 |succ m =>
  rcases E with⟨L,_⟩|⟨_,g',es,B,x,z⟩
  .grind
  .have C:(i==0)=ae:=by grind
   have q:=runT_crowd_go (P:=P) (sl:=sl) (i:=i) F (by rw[C];exact x w)
   obtain⟨tag',rk',v,e,G⟩:=I.cs.wokenBy g g' w;have b:Go.ConcN.Mode j D tag' st y:=I.mode.retag e;refine⟨_,_,(phi n (Vc j D) tag'+Ssum j D+sumTo j A,(upd K i (Rk.nat m),rk')),q,?_,_,w,sl,p,u,j,D,A,_,d,tag',rk',woken P g g' w a,s,st,y,rfl,
    ⟨by rw[Go.ConcN.get_map_set _ _ _ _ (by omega),I.a0];rfl,v,I.rely,I.lead,I.fG.leave hi r B z,I.wg,b,rfl⟩⟩
   rw[I.mu,Go.ConcN.phi_retag n _ e];exact Prod.Lex.right _ (Prod.Lex.left _ _ ⟨i,by omega,by rw[upd_same,H];exact Rk.B7 _ s,λk J=>upd_ne K _ J⟩)
def Hs(E:n<2147483648)(B:∀g s,c g s->dT (Cx.lead P ty Y.Wg) (Es Y.Wg) (AtW1 P ty Y T c) g s){m:Machine}(h:Inv P ty Y N val n T c f m t):
  ∃b ops,stepT P m=(.next b,ops)/\((∃hm' Lk,Lc P Y N val n T hm' Lk b (t++ops))∨∃k,DM (Y.base+n) k f/\Inv P ty Y N val n T c k b (t++ops)):=by
 obtain⟨l,w,sl,p,u,j,D,A,K,Q,tag,rk,a,s,st,y,rfl,I⟩:=h;obtain⟨i,g,M,q,v,e,o⟩:=crowd_pick (P:=P) (w:=w) (sl:=sl) (all_awake I) (someone_runs I);rw[o];have C:=I.at M;have O:j<=n:=by have:=I.cs.bound;omega
 rcases nI i with rfl|r
 .rw[I.a0]at v;cases v;exact Hr (sl:=q) C E B e
 .rcases cv i Y.base with z|H
  .obtain⟨b,ops,k,G,L,J⟩:=B9 (sl:=q) C r z v e;grind
  .obtain⟨x,rfl⟩:∃x,i=Y.base+x:=⟨i-Y.base,by omega⟩
   have F:x<j:=by have:=(gN.1 v).1;rw[I.fG.size]at this;omega
   obtain⟨b,ops,k,G,L,J⟩:=stepWorker (sl:=q) C E O I.cs.bound F v e;grind
def E3(r:n<2147483648)(k:∀g s,c g s->dT (Cx.lead P ty Y.Wg) (Es Y.Wg) (AtW1 P ty Y T c) g s):∀(f:Mu)(m:Machine)(t:Trace),Inv P ty Y N val n T c f m t ->
  ∃M j i hm' Lk,runNT P M m t=(.next j,i)/\Lc P Y N val n T hm' Lk j i:=by
 intro f;induction(OG (Y.base+n)).apply f with
 |intro f _ v =>
  intro m t h;obtain⟨b,ops,q,e⟩:=Hs r k h;rcases e with⟨hm',Lk,e⟩|⟨o,e,w⟩
  .exact⟨1,b,t++ops,hm',Lk,by simp[runNT,q],e⟩
  .obtain⟨M,j,i,hm',Lk,k1,x⟩:=v o e b (t++ops) w;exact⟨M+1,j,i,hm',Lk,by simp only[runNT,q];exact k1,x⟩
def Q1.fork{s0:St}{T':ak->St->Prop}(kc:Nat)(WL:0<kc)(Wg C:Nat)(hn:n<2147483648)(zC:C≠Wg)(hg:ey s s0)(uA:g.status=.running)(hC:∃L∈s.β,C∈L.bs)(hW:∃L∈s.β,Wg∈L.bs)(E:∀b,(s.own b∨∃L∈s.β,b∈L.bs)->b<s.w.heap.size)(h0:∀b,(b=C∨b=Wg)->¬s0.own b/\(∀L∈s0.β,b∉L.bs)/\∀o,s0.M b o=af)(S:WgAt ty Wg s.w 0 0)(Hq:PayAt C N s.w)(h:∀Y:Lay,Y.Wg=Wg->Y.C=C->Y.kc=kc->∃T c,(∀g s,c g s->dT (Cx.lead P ty Y.Wg) (Es Y.Wg) (AtW1 P ty Y T c) g s)/\Spawns P ty Y N val n c n g s0 /\
   ∀g' s',T g' s'->fW s'->PayAt C N s'.w->(∀x,x<n->∀i,i<kc->s'.w.cell? ⟨C,kc*x+i,af⟩=aa (val x i))->C<s'.w.heap.size->(∀b,(b=C∨b=Wg)->¬s'.own b/\(∀L∈s'.β,b∉L.bs)/\∀o,s'.M b o=af) ->
    ∃s2,T' g' s2/\s2.w=s'.w/\fW s2/\∀Sh:Nat->Prop,Clear Sh s'->¬Sh C->Clear Sh s2):Q1 P g s T':=by
 intro Sh l sl t q p ha I hP hc Rw;have Vb:¬Sh C:=λhs=>let ⟨L,I,hb⟩:=hC;hc.β C hs L I hb
 have Z:¬Sh Wg:=λhs=>let ⟨L,I,hb⟩:=hW;hc.β Wg hs L I hb
 have RH:=E C (.inr hC);have Vd:=E Wg (.inr hW);have X:1<=l.size:=(gN.1 ha).1;let Y:Lay:={Sh:=Sh,T0:=t.size,Wg:=Wg,C:=C,base:=l.size,kc:=kc}
 obtain⟨T,c,TX,z,Ve⟩:=h Y rfl rfl rfl;have R:=hc.ghost hg;have Lh:fW s0:=.ghost hg;have G:iZ Y (λ_=>0) (λ_ _ _=>af) 0 s0:=by
  refine⟨λb hb=>⟨rfl,λe=>?_,λe=>?_,λe=>?_,by rw[hg.w];exact E b (hg.blk b hb)⟩,λb o v V=>⟨rfl,λe=>?_,λe=>?_,λe=>?_,fW.lt Lh V⟩,λx m=>absurd m (gA x)⟩
  .grind
  .grind
  .rcases hb with hb|⟨L,I,hb⟩
   .exact R.own b e hb
   .exact R.β b e L I hb
  .grind
  .grind
  .rw[R.M b e o]at V;cases V
 have Q:Com P ty Y N val (λ_=>0) (λ_ _ _=>af) 0 l s.w t (λ_=>⟨0,0,0⟩) (λ_=>0) (λi=>Rk.nat (q i)) 0 :=
  ⟨rfl,λi g hi _ Oe=>⟨q i,rfl,I.old i g hi Oe⟩,I.above,λx m=>absurd m (gA x),TL.start hP rfl X zC Z Vb,Rw,hP.hears,λx m=>absurd m (gA x),λx m=>absurd m (gA x),λx m=>absurd m (gA x),λx m=>absurd m (gA x),
   Hq,⟨_,_,S⟩,Vd,RH,hc.lt,WL,λx m=>absurd m (gA x)⟩
 have O:b5 s0 {s0 with w:=s.w}:=by have:=b5.uL Lh;rw[<-hg.w];exact this
 have F:∃f,Inv P ty Y N val n T c f (crowd l s.w sl) t:=by
  cases n with
  |zero =>
   obtain⟨r,z⟩:=z;exact⟨_,l,s.w,sl,_,_,0,_,_,_,0,.kd,r,g,s0,_,_,rfl,⟨ha,.kd z,O,G,Q,S,by have:=Go.ConcN.Mode.opn (j:=0) (D:=λ_=>(⟨0,0,0⟩:WD)) (tag:=.kd) ar (λi hi=>absurd hi (gA i)) (by simp);simpa[Vc,sumTo,pend]using this,rfl⟩⟩
  |succ n =>
   obtain⟨r,z⟩:=z;have RI:CS P ty Y N val (n+1) T c (.sp n 5) (n+1-(n+1)) r 0 g s0:=.skd (Nat.lt_succ_self n) z;rw[Nat.sub_self]at RI;exact⟨_,l,s.w,sl,_,_,0,_,_,_,0,.sp n 5,r,g,s0,_,_,rfl,⟨ha,RI,O,G,Q,S,by have:=Go.ConcN.Mode.opn (j:=0) (D:=λ_=>(⟨0,0,0⟩:WD)) (tag:=.sp n 5) ar (λi hi=>absurd hi (gA i)) (by simp);simpa[Vc,sumTo,pend]using this,rfl⟩⟩
 obtain⟨f,F⟩:=F;obtain⟨M,m',t',hm',Lk,WU,⟨gs',w',sl',a',H,q',rfl,U5,_,hT,W,RJ,fC,hP',Y9,Za,J,Zb,hlW,Zc⟩⟩:=E3 hn TX f _ _ F;have U:iZ Y hm' Lk n {H with w:=w'}:=RJ.rely W.size;have B:∀b,(b=C∨b=Wg∨Sh b)->¬H.own b/\(∀L∈H.β,b∉L.bs)/\∀o,H.M b o=af:=by
  intro b hb;have key:∀x,(hm' x=0/\x≠Y.C/\x≠Y.Wg/\¬Y.Sh x/\x<w'.heap.size)->x≠b:=by grind
  refine⟨λho=>key b (U.blk b (.inl ho)) rfl,λL I N2=>key b (U.blk b (.inr ⟨L,I,N2⟩)) rfl,λo=>?_⟩;cases hM:H.M b o with
  |none=>rfl
  |some v=>exact absurd rfl (key b (U.M b o v hM))
 obtain⟨s2,hT2,U7,U9,QD⟩:=Ve a' {H with w:=w'} hT (λb o v V=>W.mem b o v V) Za J Zb (λb hb=>B b (hb.elim .inl λe=>.inr (.inl e)));have BK:Clear (λb=>Sh b∨b=Wg) {H with w:=w'}:=by have k:∀b,(Sh b∨b=Wg)->¬H.own b/\(∀L∈H.β,b∉L.bs)/\∀o,H.M b o=af:=λb hb=>B b (hb.elim (λe=>.inr (.inr e)) λe=>.inr (.inl e));exact⟨λb hb=>(k b hb).1,λb hb=>(k b hb).2.1,λb hb=>(k b hb).2.2,λb hb=>hb.elim (Zc b) λe=>by grind⟩
 grind
end
end
section
open Go.Conc Go.RowKit Go.Conc.Lib Go.ConcR.Gen
open Go.ConcN (WgLive)
open Go.ConcR (KK WgAt stA smA rd wr mk DC0)
variable {L:WgLink}
section
variable (P:aK)(R:aA->aA->Prop)(L:WgLink)(Wg:Nat)(a:ak)
def VA(g:ak)(_:aA):Prop:=g.status=.running/\∃g',(∀w,aG P ab g w=.go g' w #[mk .enable])/\∀w1,WgLive L.tWg Wg w1->∃m,Goes P ab R DC0 (λg _=>g=a) m g' w1
def GRd(g:ak)(_:aA):Prop:=g.status=.running/\∃g' ad,ad.block=Wg/\(∀w,aG P ab g w=.go g' w #[mk (.read ad)])/\∀w1,WgLive L.tWg Wg w1->∃m,Goes P ab R DC0 (VA P R L Wg a) m g' w1
def Xe(g:ak)(w:aA):Prop:=g.status=.running/\∀v:Nat,v<2147483647->WgAt L.tWg Wg w (v*KK) 0 ->
 ∃g',aG P ab g w=.go g' (w.setCell (stA Wg) (.int .u64 ((v+1)*KK))) #[rd (stA Wg),wr (stA Wg)]/\∃m,Goes P ab R DC0 (λg w=>GRd P R L Wg a g w∨VA P R L Wg a g w) m g' (w.setCell (stA Wg) (.int .u64 ((v+1)*KK)))
def GKd(g:ak)(_:aA):Prop:=g.status=.running/\∃g',(∀w,aG P ab g w=.go g' w #[mk .disable])/\∀w1,WgLive L.tWg Wg w1->∃m,Goes P ab R DC0 (Xe P R L Wg a) m g' w1
end
set_option maxRecDepth 100000 in
def Lw{P:aK}(H:WgLib P L){R:aA->aA->Prop}{Wg:Nat}(c:∀{w w1},WgLive L.tWg Wg w->R w w1->WgLive L.tWg Wg w1){b₀:Frame}{a₀:Act}{ops₀:Array aB}{i₀:Nat}{rest₀:List Nat}{k₀:List Item}(w:aA)(b:WgLive L.tWg Wg w):
  Goes P ab R DC0 (GKd P R L Wg (G (b₀.at (a₀.put ((ops₀[i₀]?).bind (·.dst)) (.tuple #[])) (.inRegion ops₀ rest₀::k₀)) cs)) 12
   (G ((base L.add).at ⟨#[.pointer (aa ⟨Wg,0,af⟩),.int .i64 1,ah,ah,ah,ah,ah,ah,ah,ah,ah,ah,ah,ah,ah,ah,ah,ah,ah,ah,ah,ah,ah,ah,ah,ah,ah,ah,ah,ah,ah,ah,ah,ah,ah,ah,ah,ah,ah,ah,ah,ah,ah,ah,ah,ah,ah,ah,ah,ah,ah,ah,ah,ah,ah,ah,ah,ah,ah,ah,ah,ah,ah,ah,ah,ah,ah,ah,ah,ah,ah,ah,ah,ah,ah,ah,ah,ah,ah,ah,ah,ah,ah,ah,ah,ah,ah,ah,ah,ah,ah,ah,ah,ah,ah,ah,ah,ah,ah,ah,ah,ah,ah,ah,ah,ah,ah,ah,ah,ah,ah,ah,ah,ah,ah,ah,ah],[]⟩ [.code (body_add L)]) (b₀.at a₀ (.inRegion ops₀ (i₀::rest₀)::k₀)::cs)) w:=by
 lib_facts
 simp only[body_add,addFn,fK]
 repeat (u_c az c b)
 u_cond ab c b
 repeat (u_c az c b)
 u_reg c b
 u_op c b
 u_op c b
 u_c aw c b
 repeat (u_c az c b)
 u_cond ae c b
 u_c stepG_skip c b
 repeat (u_c az c b)
 u_reg c b
 refine Goes.stop (λl f=>?_);refine⟨rfl,_,λw=>stepG_mark0 .disable (by simp) rfl rfl (by k_ne) rfl H.f_disable (x_disable_n L) (x_disable_b L) (x_disable_x L) (x_disable_f L),λw b=>?_⟩;clear f;refine⟨40,?_⟩
 walk_nrm
 u_c aw c b
 repeat (u_c az c b)
 u_reg c b
 u_defer c b
 u_c aw c b
 repeat (u_c az c b)
 u_reg c b
 u_op c b
 u_c aw c b
 repeat (u_c az c b)
 u_reg c b
 u_bub c b
 u_c aw c b
 repeat (u_c az c b)
 u_cond ae c b
 u_c stepG_skip c b
 repeat (u_c az c b)
 u_reg c b
 u_op c b
 u_op c b
 u_op c b
 u_op c b
 u_op c b
 u_op c b
 u_call H.f_uAdd (nm_uAdd L) uAddFn c b
 repeat (u_c az c b)
 u_reg c b
 u_op c b
 u_c aw c b
 repeat (u_c az c b)
 u_reg c b
 u_op c b
 u_op c b
 u_op c b
 u_op c b
 refine Goes.stop (λg e=>?_);replace b:=c b e;clear e;refine⟨rfl,λv q j=>?_⟩;have k:KK=4294967296:=rfl;have o:IntKind.u64.wrap ((v:Int)*KK+4294967296)=((v:Int)+1)*KK:=by rw[IntKind.wrap_u64];simp only[k];omega
 refine⟨_,(stepG_add_atomic rfl rfl (by k_ne) rfl H.f_addU64 (x_addU64_n L) (x_addU64_b L) (x_addU64_x L) .u64 (x_addU64_f L) rfl rfl j.cellSt (j.thaw 0)).trans (by rw[o];rfl),110,?_⟩;replace b:WgLive L.tWg Wg (g.setCell (stA Wg) (.int .u64 (((v:Int)+1)*KK))):=⟨_,_,j.setSt _⟩
 clear j
 walk_nrm
 u_op c b
 u_c aw c b
 u_c stepG_ret' c b
 u_leave1 H.f_uAdd c b
 u_op c b
 u_c aw c b
 have r:bits .and .u64 (((v:Int)+1)*4294967296) 2147483648=0:=by have:=Go.ConcN.st_flag (v+1) 0 (by omega) (by omega);grind
 have u:bits .and .u64 (((v:Int)+1)*4294967296) 2147483647=0:=by have:=Go.ConcN.st_waiters (v+1) 0 (by omega) (by omega);grind
 have t:((v:Int)+1+2147483648) % 4294967296-2147483648=(v:Int)+1:=by omega
 have s:¬((v:Int)+1<0):=by omega
 have x:(0:Int)<(v:Int)+1:=by omega
 repeat (u_c az c b)
 u_reg c b
 u_op c b
 u_op c b
 u_op c b
 u_op c b
 u_skip c b
 u_skip c b
 u_op c b
 u_c aw c b
 repeat (u_c az c b)
 u_cond ae c b
 u_c stepG_skip c b
 repeat (u_c az c b)
 u_reg c b
 u_op c b
 u_op c b
 u_op c b
 u_op c b
 u_c aw c b
 repeat (u_c az c b)
 u_reg c b
 u_op c b
 u_op c b
 u_op c b
 u_op c b
 u_c aw c b
 by_cases n:(v:Int)+1=1
 .repeat (u_c az c b)
  u_reg c b
  u_op c b
  u_op c b
  u_op c b
  u_op c b
  u_op c b
  u_op c b
  u_op c b
  u_op c b
  u_op c b
  u_op c b
  u_c aw c b
  repeat (u_c az c b)
  u_cond ab c b
  repeat (u_c az c b)
  u_reg c b
  u_op c b
  u_op c b
  u_op c b
  u_conv H.underlying_tPU32 H.room_tU32 (Go.ConcN.Gen.WgLive.cell1 b).choose_spec c b
  refine Goes.stop (λm h=>.inl ?_);clear h;refine⟨rfl,_,⟨Wg,1,af⟩,rfl,λw=>stepG_markAt .read (by simp) rfl rfl (by k_ne) rfl H.f_raceRead (x_raceRead_n L) (x_raceRead_b L) (x_raceRead_x L) (x_raceRead_f L) (ad:=⟨Wg,1,af⟩) (by simp[Act.eval]),λw b=>⟨50,?_⟩⟩
  walk_nrm
  u_c aw c b
  repeat (u_c az c b)
  u_reg c b
  u_op c b
  u_op c b
  u_c aw c b
  repeat (u_c az c b)
  u_cond ae c b
  u_c stepG_skip c b
  repeat (u_c az c b)
  u_reg c b
  u_op c b
  u_op c b
  u_op c b
  u_skip c b
  u_skip c b
  u_op c b
  u_op c b
  u_skip c b
  u_skip c b
  u_skip c b
  u_skip c b
  u_op c b
  u_c aw c b
  repeat (u_c az c b)
  u_cond ae c b
  u_c stepG_skip c b
  repeat (u_c az c b)
  u_reg c b
  u_op c b
  u_op c b
  u_op c b
  u_skip c b
  u_skip c b
  u_op c b
  u_c aw c b
  repeat (u_c az c b)
  u_cond ab c b
  u_c stepG_ret' c b
  refine Goes.stop (λi d=>?_);clear d;refine⟨rfl,_,λw=>stepG_unwind_entry (v:=.tuple #[]) (evs:=#[mk .enable]) rfl H.f_enable (x_enable_n L) (x_enable_b L) (x_enable_x L) (x_enable_f L) (by simp[Extern.Race.none_]) (by simp[mk]) (by simp[mk]),λw b=>⟨1,?_⟩⟩
  u_leave0 H.f_add c b
  grind[Goes.stop]
 .have p:((v:Int)+1==1)=ae:=by grind
  repeat (u_c az c b)
  u_reg c b
  u_op c b
  u_op c b
  u_op c b
  u_op c b
  u_op c b
  u_op c b
  u_op c b
  u_op c b
  u_op c b
  u_op c b
  u_c aw c b
  repeat (u_c az c b)
  u_cond ae c b
  u_c stepG_skip c b
  repeat (u_c az c b)
  u_reg c b
  u_op c b
  u_op c b
  u_c aw c b
  repeat (u_c az c b)
  u_cond ae c b
  u_c stepG_skip c b
  repeat (u_c az c b)
  u_reg c b
  u_op c b
  u_op c b
  u_op c b
  u_skip c b
  u_skip c b
  u_op c b
  u_op c b
  u_skip c b
  u_skip c b
  u_skip c b
  u_skip c b
  u_op c b
  u_c aw c b
  repeat (u_c az c b)
  u_cond ae c b
  u_c stepG_skip c b
  repeat (u_c az c b)
  u_reg c b
  u_op c b
  u_op c b
  u_op c b
  u_skip c b
  u_skip c b
  u_op c b
  u_c aw c b
  repeat (u_c az c b)
  u_cond ab c b
  u_c stepG_ret' c b
  refine Goes.stop (λi d=>.inr ?_);clear d;refine⟨rfl,_,λw=>stepG_unwind_entry (v:=.tuple #[]) (evs:=#[mk .enable]) rfl H.f_enable (x_enable_n L) (x_enable_b L) (x_enable_x L) (x_enable_f L) (by simp[Extern.Race.none_]) (by simp[mk]) (by simp[mk]),λw b=>⟨1,?_⟩⟩
  u_leave0 H.f_add c b
  grind[Goes.stop]
end
section
open Go.Conc Go.RowKit Go.Conc.Lib Go.ConcR.Gen
open Go.ConcN (WgLive)
open Go.ConcR (KK WgAt stA smA rd wr mk DC0)
section
variable (P:aK)(R:aA->aA->Prop)(L:WgLink)(Wg:Nat)(a:ak)(b:ak->Prop)
def R7(g:ak)(_:aA):Prop:=g.status=.running/\∃g',(∀w,aG P ab g w=.go g' w #[mk (.acquire (stA Wg))])/\∀w1,WgLive L.tWg Wg w1->∃m,Goes P ab R DC0 (λg _=>g=a) m g' w1
def VB(g:ak)(_:aA):Prop:=g.status=.running/\∃g',(∀w,aG P ab g w=.go g' w #[mk .enable])/\∀w1,WgLive L.tWg Wg w1->∃m,Goes P ab R DC0 (R7 P R L Wg a) m g' w1
def Xf(g:ak)(w:aA):Prop:=g.status=.running/\(WgAt L.tWg Wg w 0 0->∃g',aG P ab g w=.go g' w #[rd (stA Wg)]/\∃m,Goes P ab R DC0 (VB P R L Wg a) m g' w)
def Xg(g:ak)(w:aA):Prop:=g.status=.running/\g.offers=af/\((∃st,WgAt L.tWg Wg w st 0)->aG P ab g w=.go {g with status:=.blocked} w #[]) /\
 (WgAt L.tWg Wg w 0 1->∃g',aG P ab g w=.go g' (w.setCell (smA Wg) (.int .u32 0)) (semEvents (smA Wg))/\∃m,Goes P ab R DC0 (Xf P R L Wg a) m g' (w.setCell (smA Wg) (.int .u32 0)))
def Xh(g:ak)(_:aA):Prop:=g.status=.running/\∃g' ad,ad.block=Wg/\(∀w,aG P ab g w=.go g' w #[mk (.write ad)])/\∀w1,WgLive L.tWg Wg w1->∃m,Goes P ab R DC0 (Xg P R L Wg a) m g' w1
def Xi(vs:Nat)(g:ak)(w:aA):Prop:=g.status=.running/\∀v:Nat,v<2147483648->WgAt L.tWg Wg w (v*KK) 0 ->
 (v=vs->∃g',aG P ab g w=.go g' (w.setCell (stA Wg) (.int .u64 (v*KK+1))) #[rd (stA Wg),wr (stA Wg)]/\∃m,Goes P ab R DC0 (Xh P R L Wg a) m g' (w.setCell (stA Wg) (.int .u64 (v*KK+1)))) /\
 (v≠vs->∃g',aG P ab g w=.go g' w #[rd (stA Wg)]/\∃m,Goes P ab R DC0 (λg _=>b g) m g' w)
def HW1(g:ak)(w:aA):Prop:=g.status=.running/\∀v:Nat,v<2147483648->WgAt L.tWg Wg w (v*KK) 0 ->
 ∃g',aG P ab g w=.go g' w #[rd (stA Wg)]/\(v=0->∃m,Goes P ab R DC0 (VB P R L Wg a) m g' w)/\(v≠0->∃m,Goes P ab R DC0 (Xi P R L Wg a b v) m g' w)
def HKd(g:ak)(_:aA):Prop:=g.status=.running/\∃g',(∀w,aG P ab g w=.go g' w #[mk .disable])/\∀w1,WgLive L.tWg Wg w1->∃m,Goes P ab R DC0 (λg _=>b g) m g' w1
end
def O4(L:WgLink)(Wg:Nat)(c:Frame)(cs:List Frame)(g:ak):Prop :=
 ∃T:Array aj,g=G ((base L.wait).at ⟨T,[]⟩ [.code (L7 L),.inLoop (L7 L),.inBlock 0]) (c::cs)/\T.size=84/\T[0]?=aa (.pointer (aa ⟨Wg,0,af⟩))
set_option maxRecDepth 100000 in
def Cn{L:WgLink}(H:WgLib P L){R:aA->aA->Prop}{Wg:Nat}(b:∀{w w1},WgLive L.tWg Wg w->R w w1->WgLive L.tWg Wg w1){c:Frame}(w:aA)(a:WgLive L.tWg Wg w):
  Goes P ab R DC0 (HKd P R L Wg (O4 L Wg c cs)) 6 (G ((base L.wait).at ⟨#[.pointer (aa ⟨Wg,0,af⟩),ah,ah,ah,ah,ah,ah,ah,ah,ah,ah,ah,ah,ah,ah,ah,ah,ah,ah,ah,ah,ah,ah,ah,ah,ah,ah,ah,ah,ah,ah,ah,ah,ah,ah,ah,ah,ah,ah,ah,ah,ah,ah,ah,ah,ah,ah,ah,ah,ah,ah,ah,ah,ah,ah,ah,ah,ah,ah,ah,ah,ah,ah,ah,ah,ah,ah,ah,ah,ah,ah,ah,ah,ah,ah,ah,ah,ah,ah,ah,ah,ah,ah,ah],[]⟩ [.code (body_wait L)]) (c::cs)) w:=by
 lib_facts
 unfold O4;simp only[L7,body_wait,waitFn,fK]
 repeat (u_c az b a)
 u_cond ab b a
 repeat (u_c az b a)
 u_reg b a
 refine Goes.stop (λe d=>?_);clear d;refine⟨rfl,_,λw=>stepG_mark0 .disable (by simp) rfl rfl (by k_ne) rfl H.f_disable (x_disable_n L) (x_disable_b L) (x_disable_x L) (x_disable_f L),λw a=>⟨6,?_⟩⟩
 walk_nrm
 u_c aw b a
 repeat (u_c az b a)
 u_c stepG_block b a
 u_c stepG_loop b a
 exact Goes.stop λ_ _=>⟨_,rfl,rfl,rfl⟩
end
section
open Go.Conc Go.RowKit Go.Conc.Lib Go.ConcR.Gen
open Go.ConcN (WgLive)
open Go.ConcN.Gen
open Go.ConcR (KK WgAt stA smA rd wr mk DC0)
set_option maxRecDepth 100000 in
def Cm{L:WgLink}(H:WgLib P L){R:aA->aA->Prop}{Wg:Nat}(b:∀{w w1},WgLive L.tWg Wg w->R w w1->WgLive L.tWg Wg w1){b₀:Frame}{a₀:Act}{ops₀:Array aB}{i₀:Nat}{rest₀:List Nat}{k₀:List Item}(g:ak)(hg:O4 L Wg (b₀.at a₀ (.inRegion ops₀ (i₀::rest₀)::k₀)) cs g)(w:aA)(a:WgLive L.tWg Wg w):
  ∃m,Goes P ab R DC0 (HW1 P R L Wg (G (b₀.at (a₀.put ((ops₀[i₀]?).bind (·.dst)) (.tuple #[])) (.inRegion ops₀ rest₀::k₀)) cs) (O4 L Wg (b₀.at a₀ (.inRegion ops₀ (i₀::rest₀)::k₀)) cs)) m g w:=by
 lib_facts
 obtain⟨T,rfl,q,t⟩:=hg;obtain⟨v0,v1,v2,v3,v4,v5,v6,v7,v8,v9,v10,v11,Y,D,v14,v15,v16,O,F,V,v20,W,E,v23,U,v25,v26,v27,v28,v29,v30,J,v32,v33,v34,v35,v36,z,v38,v39,v40,v41,v42,v43,u,v45,M,v47,y,v49,v50,Z,v52,v53,v54,v55,v56,v57,v58,v59,v60,Q,X,v63,v64,v65,K,A,v68,B,C,v71,N,x,v74,v75,v76,v77,I,v79,v80,v81,v82,v83,rfl⟩:=array84 T q;simp only[gO,j4,dk]at t;subst t;refine⟨30,?_⟩;unfold O4;simp only[L7,body_wait,waitFn,fK]
 u_c stepG_block b a
 repeat (u_c az b a)
 u_reg b a
 u_op b a
 u_op b a
 u_op b a
 u_call H.f_uLoad (nm_uLoad L) uLoadFn b a
 repeat (u_c az b a)
 u_reg b a
 u_op b a
 u_c aw b a
 repeat (u_c az b a)
 u_reg b a
 u_op b a
 u_op b a
 u_op b a
 refine Goes.stop (λp j=>?_);replace a:=b a j;clear j;refine⟨rfl,λv hv f=>?_⟩;rcases nI v with rfl|hvp
 .replace f:WgAt L.tWg Wg p 0 0:=by grind
  refine⟨_,stepG_load_atomic (v:=0) rfl rfl (by k_ne) rfl H.f_loadU64 (x_loadU64_n L) (x_loadU64_b L) (x_loadU64_x L) .u64 (x_loadU64_f L) rfl f.cellSt,λ_=>⟨80,?_⟩,λh=>absurd rfl h⟩;clear f
  walk_nrm
  u_op b a
  u_c aw b a
  u_c stepG_ret' b a
  u_leave1 H.f_uLoad b a
  u_op b a
  u_c aw b a
  repeat (u_c az b a)
  u_reg b a
  u_op b a
  u_op b a
  u_op b a
  u_op b a
  u_c aw b a
  repeat (u_c az b a)
  u_reg b a
  u_op b a
  u_op b a
  u_op b a
  u_op b a
  u_c aw b a
  repeat (u_c az b a)
  u_reg b a
  u_op b a
  u_op b a
  u_c aw b a
  repeat (u_c az b a)
  u_cond ab b a
  repeat (u_c az b a)
  u_cond ab b a
  repeat (u_c az b a)
  u_reg b a
  refine Goes.stop (λd c=>?_);clear c;refine⟨rfl,_,λw=>stepG_mark0 .enable (by simp) rfl rfl (by k_ne) rfl H.f_enable (x_enable_n L) (x_enable_b L) (x_enable_x L) (x_enable_f L),λw a=>⟨20,?_⟩⟩
  walk_nrm
  u_c aw b a
  repeat (u_c az b a)
  u_reg b a
  u_op b a
  u_conv H.underlying_tWgP H.room_tWg (Go.ConcN.Gen.WgLive.cell0 a).choose_spec b a
  refine Goes.stop (λd c=>?_);clear c;refine⟨rfl,_,λw=>stepG_markAt .acquire (by simp) rfl rfl (by k_ne) rfl H.f_acquire (x_acquire_n L) (x_acquire_b L) (x_acquire_x L) (x_acquire_f L) (by simp[Act.eval,stA]),λw a=>⟨40,?_⟩⟩
  walk_nrm
  u_c aw b a
  repeat (u_c az b a)
  u_reg b a
  u_op b a
  u_op b a
  u_op b a
  u_op b a
  u_op b a
  u_op b a
  u_op b a
  u_op b a
  u_skip b a
  u_skip b a
  u_op b a
  u_c aw b a
  repeat (u_c az b a)
  u_cond ae b a
  u_c stepG_skip b a
  u_c stepG_ret' b a
  u_leave0 H.f_wait b a
  grind[Goes.stop]
 .obtain⟨S,l⟩:∃S:Int,(v:Int)*KK=S:=⟨_,rfl⟩;have a1:S / 4294967296=(v:Int):=by rw[<-l];simp only[KK];omega
  have b1:bits .and .u64 S 2147483648=0:=by rw[<-l];have:=Go.ConcN.st_flag v 0 (by omega) (by omega);simpa[KK]using this
  have b2:bits .and .u64 S 2147483647=0:=by rw[<-l];have:=Go.ConcN.st_waiters v 0 (by omega) (by omega);simpa[KK]using this
  have c1:IntKind.i32.wrap (v:Int)=(v:Int):=by grind[IntKind.wrap_i32]
  have w1:IntKind.u64.wrap (S+1)=S+1:=by rw[IntKind.wrap_u64,<-l];simp only[KK];omega
  have q3:decide ((v:Int)<0)=ae:=gf (by omega);have q4:decide (0<(v:Int))=ab:=cV (by omega);have q5:((v:Int)==0)=ae:=by grind
  have q6:decide ((v:Int)=0)=ae:=gf (by omega);rw[l]at f;refine⟨_,stepG_load_atomic (v:=S) rfl rfl (by k_ne) rfl H.f_loadU64 (x_loadU64_n L) (x_loadU64_b L) (x_loadU64_x L) .u64 (x_loadU64_f L) rfl f.cellSt,λh0=>absurd h0 (by omega),λ_=>⟨80,?_⟩⟩;clear f
  walk_nrm
  u_op b a
  u_c aw b a
  u_c stepG_ret' b a
  u_leave1 H.f_uLoad b a
  u_op b a
  u_c aw b a
  repeat (u_c az b a)
  u_reg b a
  u_op b a
  u_op b a
  u_op b a
  u_op b a
  u_c aw b a
  repeat (u_c az b a)
  u_reg b a
  u_op b a
  u_op b a
  u_op b a
  u_op b a
  u_c aw b a
  repeat (u_c az b a)
  u_reg b a
  u_op b a
  u_op b a
  u_c aw b a
  repeat (u_c az b a)
  u_cnd ae b a
  u_c stepG_skip b a
  repeat (u_c az b a)
  u_reg b a
  u_op b a
  u_op b a
  u_op b a
  u_op b a
  u_op b a
  u_op b a
  u_call H.f_uCas (nm_uCas L) uCasFn b a
  repeat (u_c az b a)
  u_reg b a
  u_op b a
  u_c aw b a
  repeat (u_c az b a)
  u_reg b a
  u_op b a
  u_op b a
  u_op b a
  u_op b a
  u_op b a
  refine Goes.stop (λd c=>?_);replace a:=b a c;clear c;refine⟨rfl,λv' TC f=>⟨λe=>?_,λe=>?_⟩⟩
  .subst e;rw[l]at f⊢;refine⟨_,(stepG_cas_hit (v:=S) (n:=S+1) rfl rfl (by k_ne) rfl H.f_casU64 (x_casU64_n L) (x_casU64_b L) (x_casU64_x L) .u64 (x_casU64_f L) rfl rfl rfl f.cellSt (f.thaw 0)).trans (by rfl),90,?_⟩;replace a:WgLive L.tWg Wg (d.setCell (stA Wg) (.int .u64 (S+1))):=⟨_,_,f.setSt _⟩
   clear f
   walk_nrm
   u_op b a
   u_c aw b a
   u_c stepG_ret' b a
   u_leave1 H.f_uCas b a
   u_c aw b a
   repeat (u_c az b a)
   u_cond ab b a
   repeat (u_c az b a)
   u_reg b a
   u_op b a
   u_op b a
   u_op b a
   u_op b a
   u_c aw b a
   repeat (u_c az b a)
   u_cond ab b a
   repeat (u_c az b a)
   u_reg b a
   u_op b a
   u_op b a
   u_op b a
   u_conv H.underlying_tPU32 H.room_tU32 (Go.ConcN.Gen.WgLive.cell1 a).choose_spec b a
   refine Goes.stop (λd c=>?_);clear c;refine⟨rfl,_,⟨Wg,1,af⟩,rfl,λw=>stepG_markAt .write (by simp) rfl rfl (by k_ne) rfl H.f_raceWrite (x_raceWrite_n L) (x_raceWrite_b L) (x_raceWrite_x L) (x_raceWrite_f L) (ad:=⟨Wg,1,af⟩) (by simp[Act.eval]),λw a=>⟨60,?_⟩⟩
   walk_nrm
   u_c aw b a
   repeat (u_c az b a)
   u_reg b a
   u_op b a
   u_c aw b a
   repeat (u_c az b a)
   u_reg b a
   u_op b a
   u_op b a
   u_op b a
   u_op b a
   u_skip b a
   u_op b a
   u_c aw b a
   repeat (u_c az b a)
   u_cond ae b a
   u_c stepG_skip b a
   repeat (u_c az b a)
   u_reg b a
   u_op b a
   u_op b a
   u_op b a
   u_op b a
   refine Goes.stop (λo i=>?_);replace a:=b a i;clear i;refine⟨rfl,rfl,λ⟨st,f⟩=>stepG_semacquire_wait rfl rfl rfl H.f_semacquire (x_semacquire_n L) (x_semacquire_b L) (x_semacquire_x L) (x_semacquire_f L) (by simp[Act.eval,smA]) f.cellSm,λr=>?_⟩;refine⟨_,(stepG_semacquire (n:=1) rfl rfl (by k_ne) rfl H.f_semacquire (x_semacquire_n L) (x_semacquire_b L) (x_semacquire_x L) (x_semacquire_f L) (by simp[Act.eval,smA]) r.cellSm (by k_ne) (r.thaw 1)).trans (by rfl),40,?_⟩;replace a:WgLive L.tWg Wg (o.setCell (smA Wg) (.int .u32 0)):=⟨_,_,r.setSm 0⟩
   clear r
   walk_nrm
   u_c aw b a
   repeat (u_c az b a)
   u_reg b a
   u_op b a
   u_op b a
   u_op b a
   u_call H.f_uLoad (nm_uLoad L) uLoadFn b a
   repeat (u_c az b a)
   u_reg b a
   u_op b a
   u_c aw b a
   repeat (u_c az b a)
   u_reg b a
   u_op b a
   u_op b a
   u_op b a
   refine Goes.stop (λs k=>?_);replace a:=b a k;clear k;refine⟨rfl,λf=>⟨_,stepG_load_atomic (v:=0) rfl rfl (by k_ne) rfl H.f_loadU64 (x_loadU64_n L) (x_loadU64_b L) (x_loadU64_x L) .u64 (x_loadU64_f L) rfl f.cellSt,40,?_⟩⟩;clear f
   walk_nrm
   u_op b a
   u_c aw b a
   u_c stepG_ret' b a
   u_leave1 H.f_uLoad b a
   u_op b a
   u_op b a
   u_c aw b a
   repeat (u_c az b a)
   u_cond ab b a
   repeat (u_c az b a)
   u_reg b a
   refine Goes.stop (λd c=>?_);clear c;refine⟨rfl,_,λw=>stepG_mark0 .enable (by simp) rfl rfl (by k_ne) rfl H.f_enable (x_enable_n L) (x_enable_b L) (x_enable_x L) (x_enable_f L),λw a=>⟨20,?_⟩⟩
   walk_nrm
   u_c aw b a
   repeat (u_c az b a)
   u_reg b a
   u_op b a
   u_conv H.underlying_tWgP H.room_tWg (Go.ConcN.Gen.WgLive.cell0 a).choose_spec b a
   refine Goes.stop (λd c=>?_);clear c;refine⟨rfl,_,λw=>stepG_markAt .acquire (by simp) rfl rfl (by k_ne) rfl H.f_acquire (x_acquire_n L) (x_acquire_b L) (x_acquire_x L) (x_acquire_f L) (by simp[Act.eval,stA]),λw a=>⟨40,?_⟩⟩
   walk_nrm
   u_c aw b a
   repeat (u_c az b a)
   u_reg b a
   u_op b a
   u_c aw b a
   repeat (u_c az b a)
   u_cond ae b a
   u_c stepG_skip b a
   u_c stepG_ret' b a
   u_leave0 H.f_wait b a
   grind[Goes.stop]
  .refine⟨_,stepG_cas_miss (v:=(v':Int)*KK) (old:=S) (n:=S+1) rfl rfl (by k_ne) rfl H.f_casU64 (x_casU64_n L) (x_casU64_b L) (x_casU64_x L) .u64 (x_casU64_f L) rfl rfl rfl f.cellSt (f.thaw 0) (by rw[<-l];simp only[KK];omega),30,?_⟩;clear f
   walk_nrm
   u_op b a
   u_c aw b a
   u_c stepG_ret' b a
   u_leave1 H.f_uCas b a
   u_c aw b a
   repeat (u_c az b a)
   u_cond ae b a
   u_c stepG_skip b a
   u_c stepG_inBlock b a
   u_c stepG_inLoop b a
   exact Goes.stop λ_ _=>⟨_,rfl,by simp,by simp⟩
end
section
open Go.Conc Go.Conc.Lib
open Go.ConcN (WgLive)
open Go.ConcR (KK WgAt stA smA rd wr mk DC0 Payload)
def eX(ty:ay)(Wg:Nat)(w w1:aA):Prop:=WgLive ty Wg w->WgLive ty Wg w1
def eX.refl{ty:ay}{Wg:Nat}(w:aA):eX ty Wg w w:=id
def eX.trans{ty:ay}{Wg:Nat}{a b c:aA}(h:eX ty Wg a b)(k:eX ty Wg b c):eX ty Wg a c:=λx=>k (h x)
def wD(R:aA->aA->Prop)(Stop:ak->aA->Prop)(g:ak)(w:aA):Prop:=∀w1,R w w1->Stop g w1
def Goes.R5{P:aK}{main:Bool}{R:aA->aA->Prop}{D:aA->aA->Array Event->Prop}{Stop:ak->aA->Prop}(k:∀a b c,R a b->R b c->R a c):
  ∀{n:Nat} {g:ak} {w:aA},Goes P main R D Stop n g w->Goes P main R D (wD R Stop) n g w
 |0,g,w,h=>λw1 l w2 p=>h w2 (k _ _ _ l p)
 |n+1,g,w,h=>by
  rcases h with h|⟨d,h⟩
  .exact .inl λw1 l w2 p=>h w2 (k _ _ _ l p)
  .refine .inr ⟨d,λw1 l=>?_⟩;have p:=h w1 l;cases j:aG P main g w1 with
   |go g' w' es =>
    rw[j,goes_go]at p;rw[goes_go];exact⟨p.1,Goes.R5 k p.2⟩
   |_=>rw[j]at p;exact p.elim
structure Apart(Wg:Nat)(F:St->Prop):Prop where
 rely:∀s s',F s->b5 s s'->F s'
 heap:∀s,F s->∃σ,aD σ s
 free:∀s,F s->¬s.own Wg/\(∀L∈s.β,Wg∉L.bs)/\∀o,s.M Wg o=af
section
variable {P:aK}{L:WgLink}{Wg:Nat}{F:St->Prop}
def xj(ty:ay)(Wg:Nat)(F:St->Prop)(s:St):Prop:=F s/\WgLive ty Wg s.w
def Apart.Nv(A:Apart Wg F){s:St}(h:F s):fW s:=(A.heap s h).choose_spec.mem
def Apart.set(A:Apart Wg F){s:St}(h:F s)(a:Addr)(x:a.block=Wg)(v:aj):b5 s {s with w:=s.w.setCell a v}:=by
 obtain⟨l,p,y⟩:=A.free s h;have j:∀b,b≠Wg->(s.w.setCell a v).heap[b]?=s.w.heap[b]?:=λb hb=>by have:=(aside_setCell s.w a v).block b (by grind);exact this
 refine⟨rfl,rfl,rfl,Nat.le_of_eq (aside_setCell s.w a v).size.symm,λb hb=>j b ?_,λb o u k=>?_,(aside_setCell s.w a v).os,(aside_setCell s.w a v).tape,(aside_setCell s.w a v).output⟩
 .grind
 .have E:b≠Wg:=by grind
  show(s.w.setCell a v).cell? _=_;rw[ja (j b E) o];exact A.Nv h b o u k
def Apart.next(A:Apart Wg F){ty:ay}{s i:St}(h:xj ty Wg F s)(r:(Cx.lead P ty Wg).rely s i):xj ty Wg F i:=⟨A.rely s i h.1 r.1,r.2 h.2⟩
def Apart.here(A:Apart Wg F){ty:ay}{s:St}(h:xj ty Wg F s):(Cx.lead P ty Wg).rely s s:=⟨b5.uL (A.Nv h.1),id⟩
def Apart.goes(A:Apart Wg F){ty:ay}{S:ak->St->Prop}{Stop:ak->aA->Prop}(k:∀g s,xj ty Wg F s->wD (eX ty Wg) Stop g s.w->dT (Cx.lead P ty Wg) (Es Wg) S g s){n:Nat}{g:ak}{s:St}(d:xj ty Wg F s)(h:Goes P ab (eX ty Wg) DC0 Stop n g s.w):dT (Cx.lead P ty Wg) (Es Wg) S g s:=by refine dT.goes (X:=Cx.lead P ty Wg) (R:=eX ty Wg) (D:=DC0) (Stop:=wD (eX ty Wg) Stop) (xj ty Wg F) (λs i hi f=>A.next hi f) (λs i _ f=>f.2) ?_ (λs hi=>A.here hi) k n g s d (Goes.R5 (λ_ _ _ l p=>l.trans p) h);rintro s es hi w' ⟨rfl,rfl⟩;exact⟨rfl,.inl (.quiet (A.heap s hi.1).choose_spec)⟩
end
set_option maxRecDepth 100000 in
def Cl{P:aK}{L:WgLink}(H:WgLib P L){Wg:Nat}:Frame.enter P L.add #[.pointer (aa ⟨Wg,0,af⟩),.int .i64 1] .normal=(base L.add).at ⟨#[.pointer (aa ⟨Wg,0,af⟩),.int .i64 1,ah,ah,ah,ah,ah,ah,ah,ah,ah,ah,ah,ah,ah,ah,ah,ah,ah,ah,ah,ah,ah,ah,ah,ah,ah,ah,ah,ah,ah,ah,ah,ah,ah,ah,ah,ah,ah,ah,ah,ah,ah,ah,ah,ah,ah,ah,ah,ah,ah,ah,ah,ah,ah,ah,ah,ah,ah,ah,ah,ah,ah,ah,ah,ah,ah,ah,ah,ah,ah,ah,ah,ah,ah,ah,ah,ah,ah,ah,ah,ah,ah,ah,ah,ah,ah,ah,ah,ah,ah,ah,ah,ah,ah,ah,ah,ah,ah,ah,ah,ah,ah,ah,ah,ah,ah,ah,ah,ah,ah,ah,ah,ah,ah,ah,ah],[]⟩ [.code (Go.ConcR.Gen.body_add L)] :=
 (enter_at (c:=Go.ConcR.Gen.body_add L) _ H.f_add (by kernel_rfl)).trans (by kernel_rfl)
set_option maxRecDepth 100000 in
def Aw{P:aK}{L:WgLink}(H:WgLib P L){Wg:Nat}:Frame.enter P L.wait #[.pointer (aa ⟨Wg,0,af⟩)] .normal=(base L.wait).at ⟨#[.pointer (aa ⟨Wg,0,af⟩),ah,ah,ah,ah,ah,ah,ah,ah,ah,ah,ah,ah,ah,ah,ah,ah,ah,ah,ah,ah,ah,ah,ah,ah,ah,ah,ah,ah,ah,ah,ah,ah,ah,ah,ah,ah,ah,ah,ah,ah,ah,ah,ah,ah,ah,ah,ah,ah,ah,ah,ah,ah,ah,ah,ah,ah,ah,ah,ah,ah,ah,ah,ah,ah,ah,ah,ah,ah,ah,ah,ah,ah,ah,ah,ah,ah,ah,ah,ah,ah,ah,ah,ah],[]⟩ [.code (Go.ConcR.Gen.body_wait L)] :=
 (enter_at (c:=Go.ConcR.Gen.body_wait L) _ H.f_wait (by kernel_rfl)).trans (by kernel_rfl)
section
variable [Payload]{P:aK}{L:WgLink}{Y:Lay}{F:St->Prop}{N n:Nat}{val:Nat->Nat->aj}
def Vz(H:WgLib P L)(A:Apart Y.Wg F){j:Nat}{Next:ak->St->Prop}{b₀:Frame}{a₀:Act}{ops₀:Array aB}{i₀:Nat}{rest₀:List Nat}{k₀:List Item}{cs:List Frame}(o:∀s,xj L.tWg Y.Wg F s->dT (Cx.lead P L.tWg Y.Wg) (Es Y.Wg) (AtGo P L.tWg Y N val j Next) (G (b₀.at (a₀.put ((ops₀[i₀]?).bind (·.dst)) (.tuple #[])) (.inRegion ops₀ rest₀::k₀)) cs) s){s:St}(d:xj L.tWg Y.Wg F s):
  dT (Cx.lead P L.tWg Y.Wg) (Es Y.Wg) (AtKdS P L.tWg Y N val j Next) (G (Frame.enter P L.add #[.pointer (aa ⟨Y.Wg,0,af⟩),.int .i64 1] .normal) (b₀.at a₀ (.inRegion ops₀ (i₀::rest₀)::k₀)::cs)) s:=by
 have z:∀g s,xj L.tWg Y.Wg F s->VA P (eX L.tWg Y.Wg) L Y.Wg (G (b₀.at (a₀.put ((ops₀[i₀]?).bind (·.dst)) (.tuple #[])) (.inRegion ops₀ rest₀::k₀)) cs) g s.w->dT (Cx.lead P L.tWg Y.Wg) (Es Y.Wg) (AtKeS P L.tWg Y N val j Next) g s:=by rintro g s d ⟨l,g',p,y⟩;refine⟨.leaf,l,g',p,λi f=>?_⟩;have a:=A.next d f;obtain⟨m,q⟩:=y i.w a.2;exact A.goes (λg s d h=>by obtain rfl:=h s.w (.refl _);grind) a q
 have b:∀g s,xj L.tWg Y.Wg F s->wD (eX L.tWg Y.Wg) (Xe P (eX L.tWg Y.Wg) L Y.Wg (G (b₀.at (a₀.put ((ops₀[i₀]?).bind (·.dst)) (.tuple #[])) (.inRegion ops₀ rest₀::k₀)) cs)) g s.w->dT (Cx.lead P L.tWg Y.Wg) (Es Y.Wg) (AtA1 P L.tWg Y N val j Next) g s:=by
  rintro g s d h;refine⟨.leaf,(h s.w (.refl _)).1,λi f v J t=>?_⟩;have a:=A.next d f;obtain⟨g',l,m,q⟩:=(h i.w f.2).2 v J t;have k:xj L.tWg Y.Wg F {i with w:=i.w.setCell (stA Y.Wg) (.int .u64 ((v+1)*KK))}:=⟨A.rely _ _ a.1 (A.set a.1 _ rfl _),⟨_,_,t.setSt _⟩⟩;refine⟨g',l,A.goes (λg s d h=>?_) k q⟩
  rcases h s.w (.refl _)with h|h
  .obtain⟨l,g',ad,p,y,V⟩:=h;refine .step l λi f=>⟨g',i,_,y i.w,.inr ⟨rfl,ad,p,.inl rfl⟩,?_⟩
   have a:=A.next d f;obtain⟨m,q⟩:=V i.w a.2;exact A.goes (λg s d h=>z g s d (h s.w (.refl _))) a q
  grind
 have t:=Lw (P:=P) (L:=L) H (R:=eX L.tWg Y.Wg) (Wg:=Y.Wg) (λh r=>r h) (b₀:=b₀) (a₀:=a₀) (ops₀:=ops₀) (i₀:=i₀) (rest₀:=rest₀) (k₀:=k₀) (cs:=cs) s.w d.2;rw[Cl H];refine A.goes (λg s d h=>?_) d t;obtain⟨l,g',p,y⟩:=h s.w (.refl _);refine⟨.leaf,l,g',p,λi f=>?_⟩;have a:=A.next d f;obtain⟨m,q⟩:=y i.w a.2;exact A.goes b a q
section
variable (P L Y F)
def TW(B g:ak)(s:St):Prop:=xj L.tWg Y.Wg F s/\∃m,Goes P ab (eX L.tWg Y.Wg) DC0 (λg _=>g=B) m g s.w
def D5(c:Frame)(cs:List Frame)(g:ak)(s:St):Prop:=xj L.tWg Y.Wg F s/\∃m,Goes P ab (eX L.tWg Y.Wg) DC0 (λg _=>O4 L Y.Wg c cs g) m g s.w
end
variable {b₀:Frame}{a₀:Act}{ops₀:Array aB}{i₀:Nat}{rest₀:List Nat}{k₀:List Item}{cs:List Frame}
omit [Payload]in
def R6(H:WgLib P L)(A:Apart Y.Wg F){T I:ak->St->Prop}(O:∀g s,TW P L Y F (G (b₀.at (a₀.put ((ops₀[i₀]?).bind (·.dst)) (.tuple #[])) (.inRegion ops₀ rest₀::k₀)) cs) g s->T g s)(C:∀g s,D5 P L Y F (b₀.at a₀ (.inRegion ops₀ (i₀::rest₀)::k₀)) cs g s->I g s){g:ak}{s:St}(h:D5 P L Y F (b₀.at a₀ (.inRegion ops₀ (i₀::rest₀)::k₀)) cs g s):
  dT (Cx.lead P L.tWg Y.Wg) (Es Y.Wg) (AtW1 P L.tWg Y T I) g s:=by
 generalize hc:b₀.at a₀ (.inRegion ops₀ (i₀::rest₀)::k₀)=c at *;generalize U:G (b₀.at (a₀.put ((ops₀[i₀]?).bind (·.dst)) (.tuple #[])) (.inRegion ops₀ rest₀::k₀)) cs=B at O;have K:∀g s,xj L.tWg Y.Wg F s->wD (eX L.tWg Y.Wg) (R7 P (eX L.tWg Y.Wg) L Y.Wg B) g s.w->dT (Cx.lead P L.tWg Y.Wg) (Es Y.Wg) (AtAcq P L.tWg Y T) g s:=by intro g s d h;obtain⟨l,g',p,y⟩:=h s.w (.refl _);exact⟨.leaf,l,g',p,λi f=>O _ _ ⟨A.next d f,y i.w (A.next d f).2⟩⟩
 have z:∀g s,xj L.tWg Y.Wg F s->wD (eX L.tWg Y.Wg) (VB P (eX L.tWg Y.Wg) L Y.Wg B) g s.w->dT (Cx.lead P L.tWg Y.Wg) (Es Y.Wg) (AtKe P L.tWg Y T) g s:=by intro g s d h;obtain⟨l,g',p,y⟩:=h s.w (.refl _);refine⟨.leaf,l,g',p,λi f=>?_⟩;obtain⟨m,q⟩:=y i.w (A.next d f).2;exact A.goes K (A.next d f) q
 have ZX:∀g s,xj L.tWg Y.Wg F s->wD (eX L.tWg Y.Wg) (Xf P (eX L.tWg Y.Wg) L Y.Wg B) g s.w->dT (Cx.lead P L.tWg Y.Wg) (Es Y.Wg) (AtW4 P L.tWg Y T) g s:=by intro g s d h;refine⟨.leaf,(h s.w (.refl _)).1,λi f t=>?_⟩;obtain⟨g',l,m,q⟩:=(h i.w f.2).2 t;exact⟨g',l,A.goes z (A.next d f) q⟩
 have W:∀g s,xj L.tWg Y.Wg F s->wD (eX L.tWg Y.Wg) (Xg P (eX L.tWg Y.Wg) L Y.Wg B) g s.w->dT (Cx.lead P L.tWg Y.Wg) (Es Y.Wg) (AtW3 P L.tWg Y T) g s:=by intro g s d h;refine⟨.leaf,(h s.w (.refl _)).1,(h s.w (.refl _)).2.1,λi f=>⟨(h i.w f.2).2.2.1,λt=>?_⟩⟩;obtain⟨g',l,m,q⟩:=(h i.w f.2).2.2.2 t;exact⟨g',l,A.goes ZX (s:={i with w:=i.w.setCell (smA Y.Wg) (.int .u32 0)}) ⟨A.rely _ _ (A.next d f).1 (A.set (A.next d f).1 _ rfl _),⟨_,_,t.setSm 0⟩⟩ q⟩
 have Z:∀g s,xj L.tWg Y.Wg F s->wD (eX L.tWg Y.Wg) (Xh P (eX L.tWg Y.Wg) L Y.Wg B) g s.w->dT (Cx.lead P L.tWg Y.Wg) (Es Y.Wg) (AtW3 P L.tWg Y T) g s:=by
  intro g s d h;obtain⟨l,g',ad,p,y,V⟩:=h s.w (.refl _);refine .step l λi f=>⟨g',i,_,y i.w,.inr ⟨rfl,ad,p,.inr rfl⟩,?_⟩
  obtain⟨m,q⟩:=V i.w (A.next d f).2;exact A.goes W (A.next d f) q
 have Q:∀(v:Nat) g s,xj L.tWg Y.Wg F s->wD (eX L.tWg Y.Wg) (Xi P (eX L.tWg Y.Wg) L Y.Wg B (O4 L Y.Wg c cs) v) g s.w->dT (Cx.lead P L.tWg Y.Wg) (Es Y.Wg) (AtW2 P L.tWg Y T I v) g s:=by
  intro vs g s d h;refine⟨.leaf,(h s.w (.refl _)).1,λi f v J t=>⟨λe=>?_,λe=>?_⟩⟩
  .obtain⟨g',l,m,q⟩:=((h i.w f.2).2 v J t).1 e;exact⟨g',l,A.goes Z (s:={i with w:=i.w.setCell (stA Y.Wg) (.int .u64 (v*KK+1))}) ⟨A.rely _ _ (A.next d f).1 (A.set (A.next d f).1 _ rfl _),⟨_,_,t.setSt _⟩⟩ q⟩
  .obtain⟨g',l,m,q⟩:=((h i.w f.2).2 v J t).2 e;exact⟨g',l,C _ _ ⟨A.next d f,m,q⟩⟩
 obtain⟨d,m,q⟩:=h;refine A.goes (λg s d h=>?_) d q;obtain⟨m,t⟩:=Cm (P:=P) (L:=L) H (R:=eX L.tWg Y.Wg) (Wg:=Y.Wg) (λh r=>r h) (b₀:=b₀) (a₀:=a₀) (ops₀:=ops₀) (i₀:=i₀) (rest₀:=rest₀) (k₀:=k₀) (cs:=cs) g (by rw[hc];exact h s.w (.refl _)) s.w d.2;rw[hc,U]at t;refine A.goes (λg s d h=>?_) d t;refine⟨.leaf,(h s.w (.refl _)).1,λi f v J t=>?_⟩;obtain⟨g',l,p,y⟩:=(h i.w f.2).2 v J t;refine⟨g',l,λh0=>?_,λE=>?_⟩
 .obtain⟨m,q⟩:=p h0;exact A.goes z (A.next d f) q
 .obtain⟨m,q⟩:=y E;exact A.goes (Q v) (A.next d f) q
omit [Payload]in
def R8(H:WgLib P L)(A:Apart Y.Wg F){c:Frame}{I:ak->St->Prop}(C:∀g s,D5 P L Y F c cs g s->I g s){s:St}(d:xj L.tWg Y.Wg F s):
  dT (Cx.lead P L.tWg Y.Wg) (Es Y.Wg) (AtKd P L.tWg Y I) (G (Frame.enter P L.wait #[.pointer (aa ⟨Y.Wg,0,af⟩)] .normal) (c::cs)) s:=by have t:=Cn (P:=P) (L:=L) H (R:=eX L.tWg Y.Wg) (Wg:=Y.Wg) (λh r=>r h) (c:=c) (cs:=cs) s.w d.2;rw[Aw H];refine A.goes (λg s d h=>?_) d t;obtain⟨l,g',p,y⟩:=h s.w (.refl _);exact⟨.leaf,l,g',p,λi f=>C _ _ ⟨A.next d f,y i.w (A.next d f).2⟩⟩
end
end
section
open Go.Conc Go.RowKit Go.Conc.Lib Go.ConcR.Gen
open Go.ConcN (WgLive Has RW DWs AtR0 EvW)
open Go.ConcN.Gen
open Go.ConcR (KK WgAt stA smA rd wr mk DC0 Payload)
section
variable {R:aA->aA->Prop}{D:aA->aA->Array Event->Prop}{Stop A:ak->aA->Prop}
def Goes.never(b:∀w,R w w)(f:∀g w,Stop g w->∃g' e,aG P ae g w=.go g' w #[e])(d:∀n g w,A g w->¬Goes P ae R D Stop n g w):
  ∀(m n:Nat) (g:ak) (w:aA),Goes P ae R DC0 A m g w->¬Goes P ae R D Stop n g w
 |0,n,g,w,h,k=>d n g w (h w (b w)) k
 |m+1,n,g,w,h,k=>by
  rcases h with h|⟨_,h⟩
  .grind
  .have h1:=h w (b w);cases a:aG P ae g w with
   |go g' w' es =>
    rw[a,goes_go]at h1;obtain⟨⟨rfl,rfl⟩,h2⟩:=h1;have no:¬Stop g w':=λi=>by grind
    cases n with
    |zero=>exact no (k w' (b w'))
    |succ n =>
     rcases k with k|⟨_,k⟩
     .grind
     .have k1:=k w' (b w');rw[a,goes_go]at k1;exact Goes.never b f d m n g' w' h2 k1.2
   |_=>rw[a]at h1;exact h1.elim
def Goes.meet(d:∀w,R w w)(i:∀g w,Stop g w->∃g' e,aG P ae g w=.go g' w #[e])(b:∀n g w,A g w->Goes P ae R D Stop n g w->∀w1,R w w1->Stop g w1):
  ∀(m n:Nat) (g:ak) (w:aA),Goes P ae R DC0 A m g w->Goes P ae R D Stop n g w->Goes P ae R DC0 Stop m g w
 |0,n,g,w,h,k=>b n g w (h w (d w)) k
 |m+1,n,g,w,h,k=>by
  rcases h with h|⟨f,h⟩
  .exact .inl (b n g w (h w (d w)) k)
  .refine .inr ⟨f,λw1 hr=>?_⟩;have h1:=h w1 hr;cases a:aG P ae g w1 with
   |go g' w' es =>
    rw[a,goes_go]at h1;rw[goes_go];obtain⟨⟨rfl,rfl⟩,h2⟩:=h1;have no:¬Stop g w':=λf=>by grind
    refine⟨⟨rfl,rfl⟩,?_⟩;cases n with
    |zero=>exact absurd (k w' hr) no
    |succ n =>
     rcases k with k|⟨_,k⟩
     .grind
     .have k1:=k w' hr;rw[a,goes_go]at k1;exact Goes.meet d i b m n g' w' h2 k1.2
   |_=>rw[a]at h1;exact h1.elim
end
variable [Payload]{L:WgLink}{Wg C Low x:Nat}{val:aj}{c:Frame}
def StK(P:aK)(g:ak)(_:aA):Prop:=∃a,∀w,aG P ae g w=.go a w #[mk .disable]
def StR(P:aK)(L:WgLink)(Wg C n Low x:Nat)(val:aj)(g:ak)(w:aA):Prop :=
 (WgLive L.tWg Wg w/\Has C (x-1) val w)/\∃a,(∀w,aG P ae g w=.go a w #[mk (.releaseMerge (stA Wg))])/\∀w,WgLive L.tWg Wg w/\Has C (x-1) val w->∃m,Goes P ae (RW L.tWg Wg C n Low (x-1)) DC0 (StK P) m a w
set_option maxRecDepth 100000 in
def Kg(H:WgLib P L)(w:aA)(a:WgLive L.tWg Wg w/\Has C (x-1) val w):
  Goes P ae (RW L.tWg Wg C n Low (x-1)) DC0 (StR P L Wg C n Low x val) 23 (G ((baseD L.done).at ⟨#[.pointer (aa ⟨Wg,0,af⟩),ah,ah,ah],[]⟩ [.code (body_done L)]) (c::cs)) w:=by
 lib_facts
 simp only[body_done,body_add,doneFn,addFn,fK]
 u_reg kn_rely a
 u_op kn_rely a
 u_in kn_rely a
 refine goes_call rfl rfl (by k_ne) rfl H.f_add (nm_add L) rfl ⟨by u_nil,?_⟩
 walk_nrmf addFn
 repeat (u_c az kn_rely a)
 u_cond ab kn_rely a
 repeat (u_c az kn_rely a)
 u_reg kn_rely a
 u_op kn_rely a
 u_op kn_rely a
 u_c aw kn_rely a
 repeat (u_c az kn_rely a)
 u_cond ab kn_rely a
 u_reg kn_rely a
 u_op kn_rely a
 u_conv H.underlying_tWgP H.room_tWg (Go.ConcN.Gen.WgLive.cell0 a.1).choose_spec kn_rely a
 refine Goes.stop (λd b=>?_);replace a:=kn_rely a b;clear b;refine⟨a,_,λw=>stepG_markAt .releaseMerge (by simp) rfl rfl (by k_ne) rfl H.f_relMerge (x_relMerge_n L) (x_relMerge_b L) (x_relMerge_x L) (x_relMerge_f L) (by simp[Act.eval,stA]),λw a=>⟨10,?_⟩⟩
 walk_nrm
 u_c aw kn_rely a
 repeat (u_c az kn_rely a)
 u_reg kn_rely a
 exact Goes.stop λd b=>⟨_,λw=>stepG_mark0 .disable (by simp) rfl rfl (by k_ne) rfl H.f_disable (x_disable_n L) (x_disable_b L) (x_disable_x L) (x_disable_f L)⟩
def So(H:WgLib P L){s:Nat}(f:c.mode=.returning)(r:QuitsD P s 0 (G c cs))(w:aA)(d:WgLive L.tWg Wg w/\Has C (x-1) val w):
  Goes P ae (RW L.tWg Wg C n Low (x-1)) DC0 (AtR0 P L.tWg Wg C n Low x val) 23 (G ((baseD L.done).at ⟨#[.pointer (aa ⟨Wg,0,af⟩),ah,ah,ah],[]⟩ [.code (body_done L)]) (c::cs)) w:=by
 have u:=doneN (Own:=λ_ _=>False) (Rd:=λ_ _=>False) (Low:=Low) (n:=n) H f r w d;have o:∀g w,AtR0 P L.tWg Wg C n Low x val g w->∃g' e,aG P ae g w=.go g' w #[e]:=λg w h=>by obtain⟨_,_,g',v,_⟩:=h;grind
 have z:(mk (.releaseMerge (stA Wg)):Event)≠mk .disable:=by simp[mk]
 refine Goes.meet (λw=>.refl w) o ?_ _ _ _ _ (Kg H w d) u;intro j g w h k w1 hr;obtain⟨d,E,v,y⟩:=h;have a:AtR0 P L.tWg Wg C n Low x val g w1∨∃l,Goes P ae (RW L.tWg Wg C n Low (x-1)) (DWs Wg (λ_ _=>False) (λ_ _=>False) C n x) (AtR0 P L.tWg Wg C n Low x val) l E w1:=by
  cases j with
  |zero=>exact .inl (k w1 hr)
  |succ j =>
   rcases k with k|⟨_,k⟩
   .grind
   grind[goes_go]
 rcases a with h|⟨l,h⟩
 .exact h
 .exfalso;obtain⟨m,q⟩:=y w1 (kn_rely d hr);refine Goes.never (λw=>.refl w) o ?_ _ _ _ _ q h;rintro i B w4 ⟨J,p⟩ k;have b:∀w,¬AtR0 P L.tWg Wg C n Low x val B w:=λw t=>by obtain⟨_,_,F,I,_⟩:=t;grind
  cases i with
  |zero=>exact b w4 (k w4 (.refl w4))
  |succ i =>
   rcases k with k|⟨_,k⟩
   .exact b w4 (k w4 (.refl w4))
   .have k1:=k w4 (.refl w4);rw[p w4,goes_go]at k1;have:=(k1.1.2 _ (Array.mem_singleton.2 rfl)).2.1;exact this rfl
end
section
open Go.RowKit
open Go.Conc (G solo crowd AtRel Past EvL Leavers)
def St.top(w:aA):St:={β:=[],M:=λb o=>w.cell? ⟨b,o,af⟩,w:=w,own:=λb=>b<w.heap.size}
def aD.top(w:aA):aD [] (St.top w):=⟨λ_ _ _ h=>h,rfl,by simp,by simp[St.top],by simp[St.top],λb hb=>⟨hb,by simp[St.top]⟩⟩
def O3{f:aP}{a:Frame}(h:sY P f a v s)(hi:P.inits.idxOf? f=af)(w:aA)(l:∀b o u,s.M b o=aa u->w.cell? ⟨b,o,af⟩=aa u):∃es,aG P ab (G a []) w=.ended (.done v) w es/\∀e∈es,∃b o u,e=⟨.cell ⟨b,o,af⟩,ae,ae⟩/\s.M b o=aa u:=by
 obtain⟨fn,i,c⟩:=h.fn;obtain⟨k,j⟩:=c w l;refine⟨seen P a.fn ((results fn a.tmps).events P w #[]),?_,λe g=>j e (Go.Conc.mem_seen g)⟩;have d:P.inits.idxOf? a.fn=af:=by rw[h.X1];exact hi
 simp[G,aG,unwind,doReturn,h.mode,h.defers,h.kind,i,k,d,GStep.after]
def dK.Vy{f:aP}{args:List D}{σ':ι->List ba}(h:dK (Cx.beside P) f args [] res σ')(hi:P.inits.idxOf? f=af)(s:cd [] (St.top w) vs args){Post:aj->aA->Prop}(y:∀i v s',dc (σ' i) s' v (res i)->aD (σ' i) s'->Below w.heap.size w s'.w->∀d,Post v (s'.w.at d)):
  ∃M last o w' t',runNT P (M+1) (solo (G (Frame.enter P f vs.toArray .normal) []) w) #[]=(.ended o w',t')/\runN P M (solo (G (Frame.enter P f vs.toArray .normal) []) w)=.next last /\
   step P last=.ended o w'/\Go.Conc.Good P Post last o w' t':=by
 have key:=h.2 (St.top w) vs s (aD.top w) (λg s'=>∃i v fr,g=G fr []/\sY P f fr v s'/\dc (σ' i) s' v (res i)/\aD (σ' i) s'/\Below w.heap.size w s'.w) []
  (λi fr v s' h1 h2 h3 h4=>.stop ⟨i,v,fr,rfl,h1,h2,h3,⟨h4.os,h4.tape,h4.output,h4.size,λk F=>h4.keep k F⟩⟩)
 have K:AM.kT (λ_=>False)=λ_=>False:=by funext l;cases l<;>rfl
 obtain⟨N,p,q,g',s',j,t',T,h1,h2,h3,h4,x,z,R,⟨i,v,fr,rfl,k1,Q,L,t⟩⟩:=key.beside (λ_=>False) #[G (Frame.enter P f vs.toArray .normal) []] af #[] (λ_=>0) (aD.top w).mem rfl (Go.Conc.leavers_one P _)
  (by rw[K];exact Go.Conc.past_nil.mono (jJ _)) ⟨λ_ h=>h.elim,λ_ h=>h.elim,λ_ h=>h.elim,λ_ h=>h.elim⟩ (λa=>by intro i hi;simp[Trace.act?]at hi)
 have c:=Go.Conc.beside_ends (P:=P) (Shun:=AM.kT p) (B:=s'.w.heap.size) (D:=λ_ _ _=>False) (Post:=Post) (λ_ _ _ h=>h.elim) (sl:=j) (n:=0) h3 h4 x (Go.Conc.Goes.stop λw1 N8=>by
  obtain⟨d,rfl⟩:=N8;obtain⟨es,e1,e2⟩:=O3 k1 hi (s'.w.at d) (λb o u r=>h2 b o u r);refine⟨rfl,v,es,e1,λe A=>?_,y i v s' Q L t d⟩;obtain⟨b,o,u,rfl,r⟩:=e2 e A;refine Go.Conc.evL_cell _ _ (λC=>?_) (fW.lt h2 r);have:=z.M b C o
  grind)
 obtain⟨m,last,o,w',H,E,S,I,J⟩:=c;refine⟨N+m,last,o,w',H,?_,?_,I,J⟩
 .rw[show N+m+1=N+(m+1) by omega];exact(runNT_add N (m+1) h1).trans E
 .have e:=runNT_fst P N (crowd #[G (Frame.enter P f vs.toArray .normal) []] w af) #[];have O:(runNT P N (crowd #[G (Frame.enter P f vs.toArray .normal) []] w af) #[]).1=.next (crowd q s'.w j):=by have:runNT P N (crowd #[G (Frame.enter P f vs.toArray .normal) []] w af) #[]=_:=h1;grind
  grind[Go.Conc.solo_eq_crowd,runN_add]
end
section
open Go.ChangeShapes Go.WideShapes Go.ChangeAt Go.RowKit
def zt{H:Type}{enc:ay×aj->H}{a:Assume}{C:Checked}{os:Os}{f:aP}{fn:Func}{s:ChangeSpec}{g:List PathCond}{apart fresh handsOn again:Bool}{X:aA->Array aj->Prop}(I:∀(w w':aA) (args:Array aj),w.heap=w'.heap->X w args->X w' args)(own:ownKnob C.prog.godebug=af)(h:os.Started)(u:C.prog.funcs[f]?=aa fn)(d:∃(w:aA) (b:Tape) (i:Input),w.os=os/\(w.forCall b i).Shaped C.prog/\i.vars=[]/\Input.okWide C.prog (w.forCall b i) .any w.heap.size f i /\
   ((s.pre enc C.prog fn g apart (w.forCall b i).memory i.args/\X (w.forCall b i).memory i.args)/\sizedMet enc C.prog fn (OpenSpec.ofChange s) apart (w.forCall b i).memory i.args)/\a.holds C.prog (lone (Frame.enter C.prog f i.args .normal) [] (w.forCall b i)))(n:∀(W:aA) (base:Nat) (args:Array aj) (ds gs:List (DataW H)) (c:List MemPlace),
   (∀(j:Nat) t v,fn.params[j]?=aa t->args[j]?=aa v->Value.okWide C.prog W .any base t v) ->
   DataW.Whole enc C.prog fn.params.toList s.vars apart W args.toList ds gs c->W.ShapedOpen C.prog->X W args ->
   ∃M last o w' t',runNT C.prog (M+1) (Conc.solo (Conc.G (Frame.enter C.prog f args .normal) []) W) #[]=(.ended o w',t')/\runN C.prog M (Conc.solo (Conc.G (Frame.enter C.prog f args .normal) []) W)=.next last /\
    step C.prog last=.ended o w'/\Conc.Good C.prog (λv z=>s.post enc C.prog fn apart fresh handsOn again W args v z) last o w' t'):
  ReturnsInLeavingWide a C os f .any (λw args=>(s.pre enc C.prog fn g apart w args/\X w args)/\sizedMet enc C.prog fn (OpenSpec.ofChange s) apart w args) (s.post enc C.prog fn apart fresh handsOn again):=by refine returnsInLeavingWide_of_good own h d ?_;intro w b i _ y _ q l p;obtain⟨_,_,_,x,m,_,_,_,_,k⟩:=q;have e:x=fn:=qm (m.symm.trans u);subst e;obtain⟨⟨⟨ds,gs,c,J,N⟩,A⟩,L⟩:=l;have r:=DataW.Whole.of_heap (w':=w.forCall b i) (by rfl) J;obtain⟨M,last,o,w',t',D,F,E,B⟩:=n (w.forCall b i) w.heap.size i.args ds gs c k r y (I (w.forCall b i).memory (w.forCall b i) i.args rfl A);exact⟨M,last,o,w',t',D,F,E,B.mono λv K=>ChangeSpec.post_blind K⟩
def AX{H:Type}{enc:ay×aj->H}{a:Assume}{C:Checked}{os:Os}{f:aP}{fn:Func}{s:ChangeSpec}{d:List PathCond}{apart fresh handsOn again:Bool}{X:aA->Array aj->Prop}(m:∀(w w':aA) (args:Array aj),w.heap=w'.heap->X w args->X w' args)(own:ownKnob C.prog.godebug=af)(g:os.Started)(k:C.prog.funcs[f]?=aa fn)(e:∃(w:aA) (b:Tape) (i:Input),w.os=os/\(w.forCall b i).Shaped C.prog/\i.vars=[]/\Input.okWide C.prog (w.forCall b i) .any w.heap.size f i /\
   ((s.pre enc C.prog fn d apart (w.forCall b i).memory i.args/\X (w.forCall b i).memory i.args)/\sizedMet enc C.prog fn (OpenSpec.ofChange s) apart (w.forCall b i).memory i.args)/\a.holds C.prog (lone (Frame.enter C.prog f i.args .normal) [] (w.forCall b i)))(h:∀(W:aA) (base:Nat) (args:Array aj) (ds gs:List (DataW H)) (c:List MemPlace),
   (∀(j:Nat) t v,fn.params[j]?=aa t->args[j]?=aa v->Value.okWide C.prog W .any base t v) ->
   DataW.Whole enc C.prog fn.params.toList s.vars apart W args.toList ds gs c ->
   ∃M last o w' t',runNT C.prog (M+1) (Conc.solo (Conc.G (Frame.enter C.prog f args .normal) []) W) #[]=(.ended o w',t')/\runN C.prog M (Conc.solo (Conc.G (Frame.enter C.prog f args .normal) []) W)=.next last /\
    step C.prog last=.ended o w'/\Conc.Good C.prog (λv l=>s.post enc C.prog fn apart fresh handsOn again W args v l) last o w' t'):
  ReturnsInLeavingWide a C os f .any (λw args=>(s.pre enc C.prog fn d apart w args/\X w args)/\sizedMet enc C.prog fn (OpenSpec.ofChange s) apart w args) (s.post enc C.prog fn apart fresh handsOn again) :=
 zt m own g k e λW base args ds gs c p n _ _=>h W base args ds gs c p n
def FN(k:Looks){p:Pinned}{s:OpenSpec}{c:OpenClaim}(l:List (List PathCond))(kinds:List LaidKind)(a:Bool)(b:Bool×String)(lk:Bool)(x:c.holds p s)(m:∀D∈l,(c.withDomain D).holds p s)(y:c.wfByText s=ab)(g:∀D∈l,(c.withDomain D).wfByText s=ab)(d:c.laidByTextAt k p kinds a)(e:c.start=.entering)(i:c.noBlocks=ae/\c.again=ae)(n:p.checked.prog.mainIs=aa (b.1,b.2.toList))(v:(!b.1&&b.2.isEmpty&&!lk)=ae)(q:∀f fn,p.checked.prog.funcNamed c.func=aa f->p.checked.prog.funcs[f]?=aa fn->lk=p.checked.prog.looks []/\∀(j:Nat) t,fn.params[j]?=aa t->p.checked.prog.wantsStandIn t=ae)(w:ab=c.goesBy p.checked.prog):
  Claim7.holds p (.plain s) {stood:={row:=c,standIns:=[],harness:=b,looks:=lk},kinds:=[],alts:=l,goes:=ab,laidByText:=ab,laidKinds:=kinds,laidTests:=a,laidLooks:=k}:=by
 have u:∀r:OpenClaim,Claim7.isSixth {stood:={row:=r,standIns:=[],harness:=b,looks:=lk},kinds:=[]}=ae:=λr=>by simpa[Claim7.isSixth]using v
 refine⟨Claim7.tied_new_at k kinds a (Claim7.new_of_sixth x b lk e i n (u c) q) y,λD o=>?_,d,(λh=>by cases h),w⟩;exact Claim7.tied_new_at k kinds a (Claim7.new_of_sixth (m D o) b lk e i n (u _) q) (g D o)
end
namespace R1
def dl(s:Bs)(i:Nat):Int:=(cq s i-97) % 256
def jh(t:Bs)(e:Nat):Bool:=(dl t (e-1)+2*dl t (e-2)+3*dl t (e-3)) % 5==0
def rV(t:Bs)(f:Nat):Nat->Nat
 |0=>min (f+8) t.length
 |k+1=>if t.length<=f+(7-k)then t.length else if jh t (f+(7-k))then f+(7-k)else rV t f k
def cutAt(t:Bs)(f:Nat):Nat:=rV t f 5
def Eu(t:Bs)(f:Nat)(a:f<t.length):∀k,k<=5->f<rV t f k/\rV t f k<=t.length/\rV t f k<=f+8
 |0,_=>by simp only[rV];omega
 |k+1,b=>by
  simp only[rV];split
  .omega
  .split
   .omega
   .exact Eu t f a k (by omega)
theorem mh(t:Bs)(f:Nat)(a:f<t.length):f<cutAt t f/\cutAt t f<=t.length/\cutAt t f<=f+8:=Eu t f a 5 (by omega)
def lK(t:Bs):Nat->Nat->List Nat
 |0,_=>[]
 |k+1,f=>if f<t.length then cutAt t f::lK t k (cutAt t f)else[]
def zc(t:Bs):List Nat:=lK t t.length 0
def eT(t:Bs):Nat->Nat->List Bs
 |0,_=>[]
 |k+1,f=>if f<t.length then(t.drop f).take (cutAt t f-f)::eT t k (cutAt t f)else[]
def pieces(t:Bs):List Bs:=eT t t.length 0
def fI(l:List Bs):Option Bs:=if dO l.flatten&&(pieces l.flatten==l)then aa l.flatten else af
def bC(p:Bs):Bool:=decide (1<=p.length)&&decide (p.length<=8)&&bX p
def codeOf(p:Bs):Int:=p.foldl (λn b=>27*n+((b.toNat:Int)-97) % 256+1) 0
def cw(k:Int):Bool:=decide (1<=k)&&decide (k<=99)
def gv(k:Int)(p:Bs):Int:=(codeOf p*(2*k+1)+k*7919) % 999999999989
def cy(n:Nat):Nat:=if n<1∨8<n then 0 else if n<=2 then 2 else if n<=4 then 4 else 8
def fY(p:Bs):Bs:=if bC p then p++List.replicate (cy p.length-p.length) 46 else[]
def strip(b:Bs):Bs:=(b.reverse.dropWhile (·==46)).reverse
def eR(b:Bs):Option Bs:=if bC (strip b)&&(fY (strip b)==b)then aa (strip b)else af
abbrev ck:=Int×Bs
abbrev bw:=Int×List ck
def right(k:Int)(x:ck):Bool:=match eR x.2 with|some p=>gv k p==x.1|none=>ae
def y6(l:List Int):Bool:=(a9 l.length).all λi=>i==0||decide (l.getD (i-1) 0<l.getD i 0)
def iG(k:Int)(p:bw):Bool :=
 decide (1<=p.1)&&decide (p.1<=99)&&cw k&&decide (1<=p.2.length)&&decide (p.2.length<=4)&&p.2.all (right k)&&y6 (p.2.map (·.1))
def chunk(k:Int)(x:ck):Option Bs:=match eR x.2 with|some p=>if cw k&&(gv k p==x.1)then aa p else af|none=>af
def dM(k:Int)(p:bw)(n:Int):Option Bs:=match p.2.find? (λx=>x.1==n)with|some x=>chunk k x|none=>af
def lr(l:List ck)(x:ck):List ck:=match l with
 |[]=>[x]
 |y::r=>if x.1<y.1 then x::y::r else y::lr r x
def om(no k:Int)(ps:List Bs):bw:=(no,ps.foldl (λl p=>lr l (gv k p,fY p)) [])
abbrev dj:=Int×Int
def km(s:dj):Bool:=decide (0<=s.1)&&decide (s.1<999999999989)&&decide (1<=s.2)&&decide (s.2<=99)
def p9(l:List dj)(s:dj):List dj:=match l with
 |[]=>[s]
 |y::r=>if y.1<s.1 then y::p9 r s else s::(y::r).filter (λz=>!(z.1==s.1))
def sL(l:List dj)(n:Int):Int:=match l.find? (λs=>s.1==n)with|some s=>s.2|none=>0
def eC(l:List bw):List dj:=l.flatMap λp=>p.2.map λx=>(x.1,p.1)
def indexOf(l:List bw):List dj:=if(eC l).all km then(eC l).foldl p9 []else[]
abbrev gj:=Bs×List Int
abbrev cm:=Int×List gj
def vC(k:Int)(f:bu):gj:=(f.1,(pieces f.2).map (gv k))
def kn(no k:Int)(t:List bu):cm:=(no,t.map (vC k))
def mn(k:Int)(l:List dj)(out:List Bs)(p:Bs):List Bs:=if sL l (gv k p)==0&&!out.contains p then out++[p]else out
def jd(k:Int)(t:List bu)(l:List dj):List Bs:=(t.flatMap λf=>pieces f.2).foldl (mn k l) []
def du(k:Int)(ps:List bw)(n:Int):Option Bs:=ps.findSome? λp=>dM k p n
def jY{p:Bs}(h:bX p=ab):∀b∈p,97<=b.toNat/\b.toNat<=122:=by intro b a;have:=List.all_eq_true.1 h b a;simpa[et]using this
def vd:∀(p:Bs) (n m:Int)(k:Nat),(∀b∈p,97<=b.toNat/\b.toNat<=122)->0<=n->n<m->1<=m ->
  0<=p.foldl (λn b=>27*n+((b.toNat:Int)-97) % 256+1) n/\p.foldl (λn b=>27*n+((b.toNat:Int)-97) % 256+1) n<m*27 ^ p.length
 |[],n,m,_,_,d,c,_=>by grind
 |b::p,n,m,k,a,d,c,e=>by obtain⟨h,f⟩:=a b (by simp);have:=vd p (27*n+((b.toNat:Int)-97) % 256+1) (m*27) k (λx g=>a x (by grind)) (by omega) (by omega) (by omega);grind[Int.mul_assoc]
def Ny:∀{n:Nat},n<=8->(27:Int) ^ n<=282429536481:=by
 intro n a
 match n,a with
 |0,_|1,_|2,_|3,_|4,_|5,_|6,_|7,_|8,_=>decide
def xk{p:Bs}(h:bC p=ab):0<=codeOf p/\codeOf p<282429536481:=by simp only[bC,bP,bc]at h;obtain⟨b,a⟩:=vd p 0 1 0 (jY h.2) (by omega) (by omega) (by omega);have:=Ny h.1.2;rw[Int.one_mul]at a;exact⟨b,Int.lt_of_lt_of_le a this⟩
def vM{α:Type}[BEq α][LawfulBEq α]:∀(L l:List α),L.Nodup->(∀q∈L,q∈l)->L.length<=l.length
 |[],l,_,_=>jJ _
 |a::L,l,h,c=>by
  obtain⟨g,f⟩:=List.nodup_cons.1 h;have d:=c a j6;have:=vM L (l.erase a) f λq b=>by have:q≠a:=λe=>g (e▸b);exact(List.mem_erase_of_ne this).2 (c q (pD _ b))
  have e:=List.length_erase_of_mem d;have:=List.length_pos_of_mem d;simp only[gd];omega
def Et:∀{p q:List Int},p.Pairwise (· < ·)->q.Pairwise (· < ·)->(∀n,n∈p↔n∈q)->p=q
 |[],[],_,_,_=>rfl
 |[],b::q,_,_,h=>by have:=(h b).2 j6;cases this
 |a::p,[],_,_,h=>by have:=(h a).1 j6;cases this
 |a::p,b::q,o,l,h=>by
  obtain⟨j,p2⟩:=pF.1 o;obtain⟨k,m⟩:=pF.1 l;have d:=(h a).1 j6;have c:=(h b).2 j6;simp only[dD]at d c;have e:a=b:=by
   rcases d with d|d
   .exact d
   rcases c with c|c
   .exact c.symm
   have:=j b c;have:=k a d;omega
  subst e;rw[Et p2 m λn=>?_];have i:=h n;simp only[dD]at i;constructor
  .intro f;have:=j n f;rcases i.1 (.inr f)with g|g
   .omega
   .exact g
  .intro f;have:=k n f;rcases i.2 (.inr f)with g|g
   .omega
   .exact g
section
variable {X:Cx ag}
def Qa:di:=λargs σ=>match args,σ with
 |[.e (.one (.c (.str b)))],[]=>aa (dB (dr b),[],[])
 |_,_=>af
def t110:dw X 110 Qa:=by intro args σ res σ' obs h _;unfold Qa at h;grind[F8]
def Mp:di:=λargs σ=>match args,σ with
 |[.e (.one (.c (.str b)))],[]=>aa (dB (dO b),[],[])
 |_,_=>af
def t111:dw X 111 Mp:=by intro args σ res σ' obs h _;unfold Mp at h;grind[F9]
def Qb:di:=λargs σ=>match args,σ with
 |[.e (.one (.c (.str a))),.e (.one (.c (.str b)))],[]=>aa (dB (clash a b),[],[a≠[],b≠[]])
 |_,_=>af
def t146:dw X 146 Qb:=by
 intro args σ res σ' obs h a;unfold Qb at h;split at h
 .cases h;exact JA _ _ a.1 a.2
 grind
def Xy:List (Nat×di):=(110,Qa)::(111,Mp)::(146,Qb)::Xx
def sj:bA X Xy:=bA.cons t110 (bA.cons t111 (bA.cons t146 Bi))
def eL(t:List bu)(i:Nat):Bs:=(t.getD i ([],[])).1
def tg(t:List bu)(i:Nat):Bs:=(t.getD i ([],[])).2
def fT(t:List bu)(i:Nat):(t.getD i cF.bG).1=eL t i:=rfl
def ov(t:List bu)(i:Nat):(t.getD i cF.bG).2=tg t i:=rfl
def fR(t:List bu)(i:Nat):Bool:=dr (eL t i)&&dO (tg t i)&&(i==0||aY (eL t (i-1)) (eL t i))&&(a9 i).all λj=>!clash (eL t j) (eL t i)
def db(t:List bu):Bool:=(a9 t.length).all (fR t)&&decide (t.length<=6)
def c7{p:Nat->Bool}:(a9 n).all p=ab↔∀i,i<n->p i=ab:=by grind
def pg{s:Bs}(h:dr s=ab):s≠[]:=by rintro rfl;simp[dr]at h
def kG{t:List bu}(hi:i<t.length)(h:fR t i=ae):db t=ae:=by
 cases a:db t with
 |false=>rfl
 |true =>
  simp only[db,bP]at a;grind
def xu(t:List bu):Ev X 104 [cF.sl t] [] (dB (db t)) []:=by
 refine Ev.bQ Tryz.func104 rfl λu=>?_;have r:=u.sl 0 rfl;refine bR sj rfl ar ?_;refine AK.uR (λi=>i<=t.length/\∀j,j<i->fR t j=ab) (λi:Nat=>[(0,cF.sl t),(3,dI i)]) (λ_=>[]) (λi=>t.length-i) 0 rfl (by simp[cn]) ⟨by omega,by omega⟩ rfl ?_;rintro i ⟨hi,k⟩;by_cases h:i<t.length
 .by_cases b:dr (eL t i)=ab
  .by_cases f:dO (tg t i)=ab
   .by_cases n:i=0∨aY (eL t (i-1)) (eL t i)=ab
    .apply AK.join [(0,cF.sl t),(3,dI i),(4,dI 0)] []
     .intro q;by_cases c:i=0
      .refine aM sj [(8,ab),(16,ab),(24,ab),(29,ae)] rfl ?_ (q _ _ rfl ?_)
       .simp[-ai,h,fT,ov,b,f];omega
       .simp[cn]
      .have g:=n.resolve_left c;have d:bq .i64 ((i:Int)-1):=by simp only[bq];omega
       have m:((i:Int)-1).toNat=i-1:=by omega
       refine aM sj [(8,ab),(16,ab),(24,ab),(29,ab),(42,ae)] rfl ?_ (q _ _ rfl ?_)
       .simp[-ai,h,fT,ov,b,f,g,d,m];omega
       .simp[cn]
     ·
      have o:fR t i=(a9 i).all (λj=>!clash (eL t j) (eL t i)):=by
       rcases n with rfl|g
       .simp[fR,b,f]
       .simp[fR,b,f,g]
      refine AK.uR (λj=>j<=i/\∀s,s<j->clash (eL t s) (eL t i)=ae) (λj:Nat=>[(0,cF.sl t),(3,dI i),(4,dI j)]) (λ_=>[]) (λj=>i-j) 0 rfl (by simp[cn]) ⟨by omega,by omega⟩ rfl ?_;rintro j ⟨w,v⟩;by_cases a:j<i
      .have l:dr (eL t j)=ab:=by have:=k j a;simp only[fR,bP]at this;exact this.1.1.1
       cases p:clash (eL t j) (eL t i)with
       |true =>
        refine aM sj [(47,ab),(60,ab)] rfl ?_ (AK.gu (AK.qO (b7.zero rfl ?_)))
        .simp[-ai,h,a,fT,p,pg b,pg l];omega
        .have:fR t i=ae:=by grind
         simp[kG h this]
       |false =>
        refine aM sj [(47,ab),(60,ae)] rfl ?_ (AK.again (j+1) rfl ?_ ?_ ?_ rfl)
        .simp[-ai,h,a,fT,p,pg b,pg l,bq];omega
        .simp[cn]
        .grind
        .omega
      .have a:j=i:=by omega
       subst a;refine aM sj [(47,ae)] rfl (by simp) (AK.leave rfl rfl ?_);refine bR sj rfl ?_ (AK.again (j+1) rfl ?_ ?_ ?_ rfl)
       .simp[bq];omega
       .simp[cn]
       .grind
       .omega
    .have c:i≠0:=λe=>n (.inl e);have g:aY (eL t (i-1)) (eL t i)=ae:=by grind
     have d:bq .i64 ((i:Int)-1):=by simp only[bq];omega
     have m:((i:Int)-1).toNat=i-1:=by omega
     refine aM sj [(8,ab),(16,ab),(24,ab),(29,ab),(42,ab)] rfl ?_ (AK.gu (b7.zero rfl ?_))
     .simp[-ai,h,fT,ov,b,f,g,d,m];omega
     .simp[au,kG h (by simp[fR,c,g])]
   .refine aM sj [(8,ab),(16,ab),(24,ae)] rfl ?_ (AK.gu (b7.zero rfl ?_))
    .simp[-ai,h,fT,ov,b,f]
    .simp[au,kG h (by simp[fR,f])]
  .refine aM sj [(8,ab),(16,ae)] rfl ?_ (AK.gu (b7.zero rfl ?_))
   .simp[-ai,h,fT,b]
   .simp[au,kG h (by simp[fR,b])]
 .refine aM sj [(8,ae)] rfl (by simp;omega) (AK.leave rfl rfl ?_);refine bR sj rfl ar (AK.bg rfl ?_);simp only[au,db];grind
end
section
open Go.Proofs Go.Conc.Lib
def NC:WgLink:={add:=120,done:=122,wait:=124,relMerge:=160,disable:=161,enable:=162,inBubble:=163,associate:=164,fatal:=165,uOr:=166,uAdd:=167,raceRead:=168,uLoad:=169,uStore:=170,disassociate:=171,semrelease:=172,acquire:=174,isAssociated:=175,uCas:=176,raceWrite:=177,semacquire:=178,orU64:=201,addU64:=202,loadU64:=203,storeU64:=204,casU64:=207,tWgP:=197,tUP:=199,tAssoc:=201,tWg:=164,tAU:=161,tU64:=159,tUint:=136,tU32:=162,tPU32:=205,tPAU:=237,tPU64:=239,tNoCopy:=156,tANoCopy:=157,tAlign64:=158}
def AO:WgLib ag NC where
 f_add:=Tryz.func120.trans (dm aa (by kernel_rfl))
 f_done:=Tryz.func122.trans (dm aa (by kernel_rfl))
 f_wait:=Tryz.func124.trans (dm aa (by kernel_rfl))
 f_relMerge:=Tryz.func160.trans (dm aa (by kernel_rfl))
 f_disable:=Tryz.func161.trans (dm aa (by kernel_rfl))
 f_enable:=Tryz.func162.trans (dm aa (by kernel_rfl))
 f_inBubble:=Tryz.func163.trans (dm aa (by kernel_rfl))
 f_associate:=Tryz.func164.trans (dm aa (by kernel_rfl))
 f_fatal:=Tryz.func165.trans (dm aa (by kernel_rfl))
 f_uOr:=Tryz.func166.trans (dm aa (by kernel_rfl))
 f_uAdd:=Tryz.func167.trans (dm aa (by kernel_rfl))
 f_raceRead:=Tryz.func168.trans (dm aa (by kernel_rfl))
 f_uLoad:=Tryz.func169.trans (dm aa (by kernel_rfl))
 f_uStore:=Tryz.func170.trans (dm aa (by kernel_rfl))
 f_disassociate:=Tryz.func171.trans (dm aa (by kernel_rfl))
 f_semrelease:=Tryz.func172.trans (dm aa (by kernel_rfl))
 f_acquire:=Tryz.func174.trans (dm aa (by kernel_rfl))
 f_isAssociated:=Tryz.func175.trans (dm aa (by kernel_rfl))
 f_uCas:=Tryz.func176.trans (dm aa (by kernel_rfl))
 f_raceWrite:=Tryz.func177.trans (dm aa (by kernel_rfl))
 f_semacquire:=Tryz.func178.trans (dm aa (by kernel_rfl))
 f_orU64:=Tryz.func201.trans (dm aa (by kernel_rfl))
 f_addU64:=Tryz.func202.trans (dm aa (by kernel_rfl))
 f_loadU64:=Tryz.func203.trans (dm aa (by kernel_rfl))
 f_storeU64:=Tryz.func204.trans (dm aa (by kernel_rfl))
 f_casU64:=Tryz.func207.trans (dm aa (by kernel_rfl))
 underlying_tWgP:=Tryz.underlying197
 runUnderlying_tWgP:=Tryz.runUnderlying197
 sizeOf_tWgP:=Tryz.sizeOf197
 isAgg_tWgP:=Tryz.isAgg197
 zeroValue_tWgP:=Tryz.zeroValue197
 underlying_tUP:=Tryz.underlying199
 runUnderlying_tUP:=Tryz.runUnderlying199
 sizeOf_tUP:=Tryz.sizeOf199
 isAgg_tUP:=Tryz.isAgg199
 zeroValue_tUP:=Tryz.zeroValue199
 underlying_tI32:=Tryz.underlying201
 runUnderlying_tI32:=Tryz.runUnderlying201
 sizeOf_tI32:=Tryz.sizeOf201
 isAgg_tI32:=Tryz.isAgg201
 zeroValue_tI32:=Tryz.zeroValue201
 underlying_tWg:=Tryz.underlying164
 runUnderlying_tWg:=Tryz.runUnderlying164
 sizeOf_tWg:=Tryz.sizeOf164
 isAgg_tWg:=Tryz.isAgg164
 zeroValue_tWg:=Tryz.zeroValue164
 underlying_tAU:=Tryz.underlying161
 runUnderlying_tAU:=Tryz.runUnderlying161
 sizeOf_tAU:=Tryz.sizeOf161
 isAgg_tAU:=Tryz.isAgg161
 zeroValue_tAU:=Tryz.zeroValue161
 underlying_tU64:=Tryz.underlying159
 runUnderlying_tU64:=Tryz.runUnderlying159
 sizeOf_tU64:=Tryz.sizeOf159
 isAgg_tU64:=Tryz.isAgg159
 zeroValue_tU64:=Tryz.zeroValue159
 underlying_tSh:=Tryz.underlying136
 runUnderlying_tSh:=Tryz.runUnderlying136
 sizeOf_tSh:=Tryz.sizeOf136
 isAgg_tSh:=Tryz.isAgg136
 zeroValue_tSh:=Tryz.zeroValue136
 underlying_tU32:=Tryz.underlying162
 runUnderlying_tU32:=Tryz.runUnderlying162
 sizeOf_tU32:=Tryz.sizeOf162
 isAgg_tU32:=Tryz.isAgg162
 zeroValue_tU32:=Tryz.zeroValue162
 underlying_tPU32:=Tryz.underlying205
 runUnderlying_tPU32:=Tryz.runUnderlying205
 sizeOf_tPU32:=Tryz.sizeOf205
 isAgg_tPU32:=Tryz.isAgg205
 zeroValue_tPU32:=Tryz.zeroValue205
 underlying_tPAU:=Tryz.underlying237
 runUnderlying_tPAU:=Tryz.runUnderlying237
 sizeOf_tPAU:=Tryz.sizeOf237
 isAgg_tPAU:=Tryz.isAgg237
 zeroValue_tPAU:=Tryz.zeroValue237
 underlying_tPU64:=Tryz.underlying239
 runUnderlying_tPU64:=Tryz.runUnderlying239
 sizeOf_tPU64:=Tryz.sizeOf239
 isAgg_tPU64:=Tryz.isAgg239
 zeroValue_tPU64:=Tryz.zeroValue239
 underlying_t0:=Tryz.underlying0
 runUnderlying_t0:=Tryz.runUnderlying0
 sizeOf_t0:=Tryz.sizeOf0
 isAgg_t0:=Tryz.isAgg0
 zeroValue_t0:=Tryz.zeroValue0
 underlying_t3:=Tryz.underlying3
 runUnderlying_t3:=Tryz.runUnderlying3
 sizeOf_t3:=Tryz.sizeOf3
 isAgg_t3:=Tryz.isAgg3
 zeroValue_t3:=Tryz.zeroValue3
 underlying_t4:=Tryz.underlying4
 runUnderlying_t4:=Tryz.runUnderlying4
 sizeOf_t4:=Tryz.sizeOf4
 isAgg_t4:=Tryz.isAgg4
 zeroValue_t4:=Tryz.zeroValue4
 underlying_t9:=Tryz.underlying9
 runUnderlying_t9:=Tryz.runUnderlying9
 sizeOf_t9:=Tryz.sizeOf9
 isAgg_t9:=Tryz.isAgg9
 zeroValue_t9:=Tryz.zeroValue9
 underlying_t20:=Tryz.underlying20
 runUnderlying_t20:=Tryz.runUnderlying20
 sizeOf_t20:=Tryz.sizeOf20
 isAgg_t20:=Tryz.isAgg20
 zeroValue_t20:=Tryz.zeroValue20
 underlying_t21:=Tryz.underlying21
 runUnderlying_t21:=Tryz.runUnderlying21
 sizeOf_t21:=Tryz.sizeOf21
 isAgg_t21:=Tryz.isAgg21
 zeroValue_t21:=Tryz.zeroValue21
 room_tWg:=by kernel_rfl
 room_tU32:=by kernel_rfl
end
end R1
def cd.imp{d a:D}{ds Dt:List D}(h:∀v,dc σ s v d->dc σ s v a)(k:∀vs,cd σ s vs ds->cd σ s vs Dt):∀vs,cd σ s vs (d::ds)->cd σ s vs (a::Dt)
 |[],r=>r.elim
 |v::vs,r=>⟨h v r.1,k vs r.2⟩
abbrev dP(f:bu):D:=.e (.agg [.c (.str f.1),.c (.str f.2)])
abbrev LM(a:List bu)(b:Bool):D:=.fe [.one (.c (.sl ae 2 a.length (cF.fn a))),.one (.c (.bool b))]
namespace R1
variable {X:Cx ag}
def Mr:di:=λargs σ=>match args,σ with
 |[c],[]=>match jl 2 c with
  |none=>af
  |some (a,b)=>aa (dB (db (cF.list a b)),[],[cF.fits a b])
 |_,_=>af
def t104:dw X 104 Mr:=by
 intro args σ res σ' obs h a;unfold Mr at h;split at h
 .split at h
  .cases h
  rename_i d c b;cases h;exact(xu _ ).args (λ_ vs=>cd.imp (λ_=>cF.iF b a) (λ_ r=>r) vs)
 grind
def Xz:List (Nat×di):=(104,Mr)::Xy
def Wf:bA X Xz:=bA.cons t104 sj
end R1
def jX.cg(c:jX α)(l:List α)(x:α):cn (l.length+1) (cD l.length (c.fn l) (λi=>[c.enc x].getD i [])) (c.fn (l++[x])):=by intro i hi;unfold cD jX.fn xo;grind
@[simp] theorem cn.same{f:Nat->List C}:cn n f f:=λ_ _=>rfl
@[simp] theorem cn.nil{f g:Nat->List C}:cn 0 f g:=λi h=>by omega
namespace R1
variable {X:Cx ag}
def ll(t:List bu)(p:Bs):List bu:=t.filter λf=>!(f.1==p)
def C9{t:List bu}{p:Bs}(h:i<t.length):ll (t.take (i+1)) p=ll (t.take i) p++(if eL t i=p then[]else[(eL t i,tg t i)]):=by
 have e:t.getD i ([],[])=t[i]:=by grind
 have a:(eL t i,tg t i)=t[i]:=by simp only[eL,tg,e]
 rw[js,bd h,a];simp only[ll,List.filter_append,Option.toList_some];grind
theorem Gb(t:List bu)(p:Bs):(ll t p).length<=t.length:=ru _ _
def Ez(t:List bu)(p:Bs)(d:t.length<=4000000):Ev X 89 [cF.sl t,dS p] [] (cF.sl (ll t p)) []:=by
 refine Ev.bQ Tryz.func89 rfl λc=>?_;refine br rfl ar ?_;refine AK.g8 5 110 2 rfl rfl ?_;refine AK.iM (λi=>i<=t.length) (λi:Nat=>[(0,cF.sl t),(1,dS p),(6,dI i),(5,.e (.one (.vec 0 2 (ll (t.take i) p).length (cF.fn (ll (t.take i) p)))))]) (λi=>[.vec 110 2 (ll (t.take i) p).length (cF.fn (ll (t.take i) p))]) (λi=>t.length-i) 0 rfl ?_ rfl ?_ (by omega) ?_
 .simp[cn,ll]
 .simp[cn,ll]
 intro i hi;by_cases h:i<t.length
 .have a:=C9 (p:=p) h;have f:(ll (t.take i) p).length<=4000000:=by grind[Gb]
  by_cases b:eL t i=p
  .rw[bt b,j7]at a;refine aV [(11,ab),(20,ae)] rfl ?_ (AK.fa (i+1) rfl ?_ rfl ?_ ?_ ?_)
   .simp[-ai,h,fT,b,bq];omega
   .rw[a];simp[cn]
   .rw[a];simp[cn]
   .omega
   .omega
  .rw[bh b]at a;refine aV [(11,ab),(20,ab)] rfl ?_ (AK.fa (i+1) rfl ?_ rfl ?_ ?_ ?_)
   .simp[-ai,h,fT,b,bq,i110];omega
   .rw[a];simp[-ai];exact cF.cg _ (eL t i,tg t i)
   .rw[a];simp[-ai];exact cF.cg _ (eL t i,tg t i)
   .omega
   .omega
 .have:i=t.length:=by omega
  subst this;refine aV [(11,ae)] rfl (by simp) (AK.leave rfl rfl ?_);refine br rfl ar (AK.bg rfl ?_);simp[cn]
def Wi:di:=λargs σ=>match args,σ with
 |[f,.e (.one (.c (.str b)))],[]=>match jl 2 f with
  |none=>af
  |some (a,d)=>aa (cF.sl (ll (cF.list a d) b),[],[cF.fits a d,((cF.list a d)).length<=4000000])
 |_,_=>af
def t89:dw X 89 Wi:=by
 intro args σ res σ' obs h a;unfold Wi at h;split at h
 .split at h
  .cases h
  rename_i d c b;cases h;exact(Ez _ _ (a.2)).args (λ_ vs=>cd.imp (λ_=>cF.iF b a.1) (cd.imp (λ_ r=>r) (λ_ r=>r)) vs)
 grind
def XA:List (Nat×di):=(89,Wi)::Xz
def Wj:bA X XA:=bA.cons t89 Wf
end R1
def Fits.NP{args:List D}(h:Fits args σ)(k:Nat){cs:List A}(b:args[k]?=aa (.e (.agg cs)))(j:Nat){t:Bool}{q:Nat}(hj:cs[j]?=aa (A.c (.sl t q n es))):n<=9223372036854775807:=by obtain⟨s,v,d⟩:=h.at b;obtain⟨vs,_,h2⟩:=d;obtain⟨u,_,a⟩:=dH.get h2 hj;cases a<;>omega
namespace R1
def fA{p:Nat->Bool}(hi:i<n)(h:p i=ae):(a9 n).all p=ae:=by grind
def gJ{p:Nat->Bool}(a:∀j,j<i->p j=ab)(h:p i=ab):∀j,j<i+1->p j=ab:=λj b=>by grind
end R1
namespace R1
section
variable {X:Cx ag}
def qc(f:bu)(acc:List bu×Bool)(g:Bs):List bu×Bool:=if acc.2=ab then acc else if aY g f.1=ab then acc else(acc.1++[f],ab)
def MB(f:bu)(a:List bu×Bool)(g:bu):List bu×Bool:=if g.1=f.1 then a else(a.1++[g],a.2)
def nh(f:bu)(acc:List bu×Bool)(g:bu):List bu×Bool:=MB f (qc f acc g.1) g
def kp(f:bu)(t:List bu):List bu×Bool:=t.foldl (nh f) ([],ae)
def rj(t:List bu)(f:bu):List bu:=if(kp f t).2=ab then(kp f t).1 else(kp f t).1++[f]
theorem fileAt{t:List bu}(h:i<t.length):t[i]=(eL t i,tg t i):=by
 have e:t.getD i ([],[])=t[i]:=by grind
 simp only[eL,tg,e]
def Bm{f:bu}{t:List bu}(h:i<t.length):kp f (t.take (i+1))=nh f (kp f (t.take i)) (eL t i,tg t i):=by rw[js,bd h,fileAt h];simp[kp]
def Bn(f:bu)(acc:List bu×Bool)(g:Bs):(qc f acc g).1.length<=acc.1.length+1:=by unfold qc;grind
def JG(f:bu)(acc:List bu×Bool)(g:bu):(MB f acc g).1.length<=acc.1.length+1:=by unfold MB;grind
def vU(f:bu):∀(t:List bu)(acc:List bu×Bool),(t.foldl (nh f) acc).1.length<=acc.1.length+2*t.length
 |[],acc=>by simp
 |g::r,acc=>by
  have b:=vU f r (nh f acc g);have a:=Bn f acc g.1;have c:=JG f (qc f acc g.1) g;simp only[iT,gd];have:(nh f acc g).1.length<=acc.1.length+2:=by unfold nh;omega
  omega
abbrev dV(l:Nat)(t:List bu):D:=.e (.one (.vec l 2 t.length (cF.fn t)))
abbrev bV(t:List bu):ba:=.vec 110 2 t.length (cF.fn t)
def MC(t:List bu)(f:bu)(u:t.length<=4000000):Ev X 112 [cF.sl t,dP f] [] (dV 0 (rj t f)) [bV (rj t f)]:=by
 refine Ev.bQ Tryz.func112 rfl λs=>?_;refine br rfl ar ?_;refine AK.g8 5 110 2 rfl rfl ?_;let A:Nat->List bu×Bool:=λi=>kp f (t.take i);have b:∀i,i<=t.length->(A i).1.length<=8000000:=by intro i hi;have:=vU f (t.take i) ([],ae);simp at this;show(kp f (t.take i)).1.length<=_;unfold kp;omega
 refine AK.iM (λi=>i<=t.length) (λi:Nat=>[(0,cF.sl t),(3,.e (.one (.ptr 0 0))),(7,dI i),(5,dV 1 (A i).1),(6,dB (A i).2)]) (λi=>[.cells 110 [.c (.str f.1),.c (.str f.2)],bV (A i).1]) (λi=>t.length-i) 0 rfl ?_ rfl ?_ (by omega) ?_
 .simp[cn,A,kp]
 .simp[cn,A,kp]
 intro i hi;by_cases h:i<t.length
 .have r:A (i+1)=nh f (A i) (eL t i,tg t i):=Bm h;have q:=b i hi;generalize A i=acc at *;have p:=Bn f acc (eL t i);apply AK.join [(0,cF.sl t),(3,.e (.one (.ptr 0 0))),(7,dI i),(5,dV 1 (qc f acc (eL t i)).1),(6,dB (qc f acc (eL t i)).2)] [.cells 110 [.c (.str f.1),.c (.str f.2)],bV (qc f acc (eL t i)).1]
  .intro g;cases d:acc.2 with
   |true =>
    have k:qc f acc (eL t i)=acc:=by unfold qc;grind
    rw[k]at g;refine bE [(12,ab),(15,ab),(1000009,ab)] rfl ?_ (g _ _ rfl ?_)
    .simp[h]
    .simp[d]
   |false =>
    cases l:aY (eL t i) f.1 with
    |true =>
     have k:qc f acc (eL t i)=acc:=by unfold qc;grind
     rw[k]at g;refine bE [(12,ab),(15,ae),(25,ae),(1000009,ab)] rfl ?_ (g _ _ rfl ?_)
     .simp[-ai,h,fT,l]
     .simp[d]
    |false =>
     have k:qc f acc (eL t i)=(acc.1++[f],ab):=by unfold qc;grind
     rw[k]at g;refine bE [(12,ab),(15,ae),(25,ab),(1000009,ab)] rfl ?_ (AK.norm _ rfl ?_ (g _ _ rfl ?_))
     .simp[-ai,h,fT,l,i110];omega
     .simp[-ai];exact cF.cg _ f
     .simp[-ai];exact cF.cg _ f
  .have m:A (i+1)=MB f (qc f acc (eL t i)) (eL t i,tg t i):=r;generalize qc f acc (eL t i)=a1 at *;by_cases n:eL t i=f.1
   .have a:A (i+1)=a1:=by rw[m];exact bt n
    refine bE [(38,ae)] rfl ?_ (AK.fa (i+1) rfl ?_ rfl ?_ ?_ ?_)
    .simp[-ai,h,fT,n,bq];omega
    .rw[a];simp
    .rw[a];simp
    .omega
    .omega
   .have a:A (i+1)=(a1.1++[(eL t i,tg t i)],a1.2):=by rw[m];exact bh n
    refine bE [(38,ab)] rfl ?_ (AK.fa (i+1) rfl ?_ rfl ?_ ?_ ?_)
    .simp[-ai,h,fT,n,bq,i110];omega
    .rw[a];simp[-ai];exact cF.cg _ (eL t i,tg t i)
    .rw[a];simp[-ai];exact cF.cg _ (eL t i,tg t i)
    .omega
    .omega
 .have:i=t.length:=by omega
  subst this;have o:A t.length=kp f t:=by grind
  have q:=b t.length (aZ _);refine aV [(12,ae)] rfl (by simp) (AK.leave rfl rfl ?_);have j:rj t f=if(A t.length).2=ab then(A t.length).1 else(A t.length).1++[f]:=by rw[o];rfl
  cases d:(A t.length).2 with
  |true =>
   rw[d,bt rfl]at j;refine aV [(46,ab)] rfl ?_ (AK.norm [.cells 110 [.c (.str f.1),.c (.str f.2)],bV (rj t f)] rfl ?_ (AK.dA [1] rfl ?_ rfl rfl rfl ?_))
   .simp
   .rw[j];simp
   .rw[j];simp
   grind
  |false =>
   rw[d,bh (by simp)]at j;refine aV [(46,ae)] rfl ?_ (AK.norm [.cells 110 [.c (.str f.1),.c (.str f.2)],bV (rj t f)] rfl ?_ (AK.dA [1] rfl ?_ rfl rfl rfl ?_))
   .simp[i110];omega
   .rw[j];simp[-ai];exact cF.cg _ f
   .rw[j];simp[-ai];exact cF.cg _ f
   grind
end
end R1
def cn.app0{f g:Nat->List C}:cn n (cD 0 f g) g:=λi _=>by simp[cD]
namespace R1
variable {X:Cx ag}
def Qe:di:=λargs σ=>match args,σ with
 |[d,.e (.agg [.c (.str b0),.c (.str b1)])],[]=>match jl 2 d with
  |none=>af
  |some (a,b)=>aa (dV 0 (rj (cF.list a b) (b0,b1)) ,[ bV (rj (cF.list a b) (b0,b1))],[cF.fits a b,((cF.list a b)).length<=4000000])
 |_,_=>af
def t112:dw X 112 Qe:=by
 intro args σ res σ' obs h a;unfold Qe at h;split at h
 .split at h
  .cases h
  rename_i d c b;cases h;exact(MC _ _ (a.2)).args (λ_ vs=>cd.imp (λ_=>cF.iF b a.1) (cd.imp (λ_ r=>r) (λ_ r=>r)) vs)
 .cases h
def XB:List (Nat×di):=(112,Qe)::XA
def Gc:bA X XB:=bA.cons t112 (Wj)
def dN(t:List bu)(p x:Bs):List bu×Bool :=
 if db t=ab/\dr p=ab/\dO x=ab then(if db (rj t (p,x))=ab then(rj t (p,x),ab)else(t,ae))else([],ae)
abbrev tVB(l:Nat)(t:List bu)(b:Bool):D:=.fe [.one (.vec l 2 t.length (cF.fn t)),.one (.c (.bool b))]
def m9{t:List bu}(h:db t=ab):t.length<=6:=by simp only[db,bP,bc]at h;exact h.2
def sV(t:List bu)(p x:Bs):Ev X 86 [cF.sl t,dS p,dS x] [] (tVB 0 (dN t p x).1 (dN t p x).2) [bV (dN t p x).1]:=by
 refine Ev.bQ Tryz.func86 rfl λi=>?_;have a:¬(db t=ab/\dr p=ab/\dO x=ab)->dN t p x=([],ae):=λh=>bh h;cases b:db t with
 |false =>
  rw[a (by grind)];refine aM Gc [(10,ae)] rfl ?_ ?_
  .simp[cF.list_fn,cF.aR,b]
  .refine AK.g8 6 110 2 rfl rfl (AK.norm [bV []] rfl ?_ (AK.dA [0] rfl ?_ rfl rfl rfl ?_))
   .simp[cn]
   .simp[cn]
   grind
 |true =>
  have g:=m9 b;cases c:dr p with
  |false =>
   rw[a (by grind)];refine aM Gc [(10,ab),(14,ae)] rfl ?_ ?_
   .simp[cF.list_fn,cF.aR,b,c]
   .refine AK.g8 6 110 2 rfl rfl (AK.norm [bV []] rfl ?_ (AK.dA [0] rfl ?_ rfl rfl rfl ?_))
    .simp[cn]
    .simp[cn]
    grind
  |true =>
   cases f:dO x with
   |false =>
    rw[a (by grind)];refine aM Gc [(10,ab),(14,ab),(19,ae)] rfl ?_ ?_
    .simp[cF.list_fn,cF.aR,b,c,f]
    .refine AK.g8 6 110 2 rfl rfl (AK.norm [bV []] rfl ?_ (AK.dA [0] rfl ?_ rfl rfl rfl ?_))
     .simp[cn]
     .simp[cn]
     grind
   |true =>
    have d:dN t p x=if db (rj t (p,x))=ab then(rj t (p,x),ab)else(t,ae):=bt ⟨b,c,f⟩;cases e:db (rj t (p,x))with
    |true =>
     rw[e,bt rfl]at d;rw[d];refine aM Gc [(10,ab),(14,ab),(19,ab),(29,ab)] rfl ?_ (AK.norm [bV (rj t (p,x))] rfl ?_ (AK.dA [0] rfl ?_ rfl rfl rfl ?_))
     .simp[cF.list_fn,cF.aR,b,c,f,e];omega
     .simp[cF.list_fn]
     .simp[cF.list_fn]
     grind
    |false =>
     rw[e,bh (by simp)]at d;rw[d];refine aM Gc [(10,ab),(14,ab),(19,ab),(29,ae)] rfl ?_ (AK.norm [bV (rj t (p,x)),bV t] rfl ?_ (AK.dA [1] rfl ?_ rfl rfl rfl ?_))
     .simp[cF.list_fn,cF.aR,b,c,f,e,i110];omega
     .simp[cF.list_fn,cn.app0]
     .simp[cn.app0]
     grind
def vV(t:List bu)(p x:Bs):Ev X 86 [cF.sl t,dS p,dS x] [] (LM (dN t p x).1 (dN t p x).2) [] :=
 (sV t p x).forget rfl (by simp) rfl
def Wk:di:=λargs σ=>match args,σ with
 |[f,.e (.one (.c (.str b))),.e (.one (.c (.str c)))],[]=>match jl 2 f with
  |none=>af
  |some (a,d)=>aa (LM (dN (cF.list a d) b c).1 (dN (cF.list a d) b c).2,[],[cF.fits a d])
 |_,_=>af
def t86:dw X 86 Wk:=by
 intro args σ res σ' obs h a;unfold Wk at h;split at h
 .split at h
  .cases h
  rename_i d c b;cases h;exact(vV _ _ _ ).args (λ_ vs=>cd.imp (λ_=>cF.iF b a) (cd.imp (λ_ r=>r) (cd.imp (λ_ r=>r) (λ_ r=>r))) vs)
 .cases h
def XC:List (Nat×di):=(86,Wk)::XB
def Wl:bA X XC:=bA.cons t86 (Gc)
end R1
end Go.AM
