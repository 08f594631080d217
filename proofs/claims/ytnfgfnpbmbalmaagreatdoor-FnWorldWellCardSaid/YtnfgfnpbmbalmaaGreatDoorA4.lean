/- Part 4. No condition. -/
import Derived.Test.YtnfgfnpbmbalmaaGreatDoorA3
import Derived.Lib.FrozenHead
import Derived.Lib.UnsafeStr
import Derived.Lib.MakeNoZero
import Derived.Laws.Externs
import Derived.Lib.Builder
import Derived.Maps.RangeRun
import Derived.Lib.Bytealg
import Derived.Conc.DeferLaws
set_option linter.all false
set_option maxHeartbeats 8000000
open Go renaming Value → ak
open Option renaming some → aa
open Go renaming Program → aq
open Go renaming TypeId → ar
open Bool renaming true → ab
open Go renaming Goroutine → au
open Go renaming Frame → aR
open Go renaming Oper → aw
open Go renaming FuncId → aW
open Go renaming execOp → ay
open Go renaming Operand → an
open Option renaming none → af
open Bool renaming false → ae
open Go renaming undef → aj
open Go.World renaming cell? → a9
open List renaming getD_eq_getElem?_getD → ai
open Go.Sem renaming events_bind → aO
open Go.Result renaming evThen_ok → aU
open Go renaming World → az
open Go renaming stepG → aK
open List renaming range → bh
open Nat renaming beq → aG
open Nat renaming ble → bo
open Go.Region renaming ready → bd
open Go.Op renaming bytesLess → bl
open Go.Proofs.Tryz renaming prog → ah
open Go.Conc renaming stepG_seq → aE
open Go.Conc renaming stepG_region_end → aA
namespace Go.AM
section
open Go.Conc (G)
def qj(xs:List UInt8):List ak:=xs.map λx=>.int .u8 x.toNat
theorem uZ{xs:List UInt8}:(qj xs).length=xs.length:=by simp[qj]
def Nc{xs b:List UInt8}:qj (xs++b)=qj xs++qj b:=by simp[qj]
def oO(bf:Option (Nat×Nat))(n:Nat):ak:=match bf with|none=>.slice af 0 0|some (g,cap)=>.slice (aa ⟨g,0,af⟩) n cap
def BB(T E:ar)(a:Bool)(v1:ak)(bf:Option (Nat×Nat))(xs:List UInt8)(f:Nat):ak->(Nat->Option Obj)->Prop:=λv d =>
 ∃ b,v=.pointer (aa ⟨b,0,af⟩)/\cX v1=ab/\d b=aa (.cells #[if a then v else .pointer af,v1] T (0,0)) /\
 match bf with
 |none=>xs=[]/\∀ c,(d c).isSome=ab↔c=b
 |some (g,cap)=>g≠b/\xs.length<=cap/\0<cap/\cap<=9223372036854775807/\f<=xs.length/\(∃ e,(qj xs++e).length=cap/\d g=aa (.cells (qj xs++e).toArray E (0,f)))/\∀ c,(d c).isSome=ab↔c=b∨c=g
section
variable {P:aq}{X:Cx P}{N:Nat}{m:List (Nat×TI)}{o:aw}{k:an->D}{σ:List aV}{l:Nat}{T E:ar}{a:Bool}{v1:ak}{bf:Option (Nat×Nat)}{xs:List UInt8}{f:Nat}{s:St}
structure vo (P:aq)(σ:List aV)(s:St)(l:Nat)(T E:ar)(a:Bool)(v1:ak)(bf:Option (Nat×Nat))(xs:List UInt8)(f:Nat)(L:Loc)(b:Nat)(ch:Nat->Option Obj):Prop where
 β:s.β[l]?=aa L
 v:L.v=.pointer (aa ⟨b,0,af⟩)
 bb:BB T E a v1 bf xs f L.v ch
 heap:∀ (b:Nat) (o:Obj),ch b=aa o->s.w.heap[b]?=aa o
 bs:∀ b,b∈L.bs↔(ch b).isSome=ab
 M:∀ b∈L.bs,∀ o,s.M b o=af
 ch:ch b=aa (.cells #[if a then L.v else .pointer af,v1] T (0,0))
 cell:cX v1=ab
def BB.row(hh:aJ σ s)(hl:σ[l]?=aa (.dz (BB T E a v1 bf xs f))):∃ L b ch,vo P σ s l T E a v1 bf xs f L b ch:=by
 have c:l<s.β.length:=by rw[hh.len];grind
 have d:=br c;generalize s.β[l]=L at d;obtain⟨ch,g,h1,h2,i⟩:=hh.box l _ L hl d;have e:=g;obtain⟨b,j,h,hb,_⟩:=e;exact⟨L,b,ch,d,j,g,h1,h2,i,hb,h⟩
def vo.mem{L:Loc}{b:Nat}{ch:Nat->Option Obj}(r:vo P σ s l T E a v1 bf xs f L b ch):b∈L.bs:=(r.bs b).2 (by rw[r.ch];rfl)
def vo.ptr{L:Loc}{b:Nat}{ch:Nat->Option Obj}(r:vo P σ s l T E a v1 bf xs f L b ch){v:ak}{off:Nat}(h:c8 σ s v (.e (.one (.ptr l off)))):v=.pointer (aa ⟨b,off,af⟩):=by
 obtain⟨_,c,d,h1,h2,rfl⟩:=(h:gv σ s v (.ptr l off));rw[r.β] at h1;cases h1;rw[r.v] at h2;grind
def I6(y:db P m){t:ar}{x:an}{i:TI}(h:o.op=.load t x)(hi:bE m t=aa i)(C:i.agg=ae)(J:σ[l]?=aa (.dz (BB T E a v1 bf xs f))){off:Nat}{d:D}(K:k x=.e (.one (.ptr l off)))
  (H:∀ s L b ch,aJ σ s->vo P σ s l T E a v1 bf xs f L b ch->∃ v,(#[if a then L.v else .pointer af,v1]:Array ak)[off]?=aa v/\c8 σ s v d):bF P o k σ d σ:=by
 refine .nJ λs ρ z F=>?_
 obtain⟨L,b,ch,r⟩:=BB.row (P:=P) z J;have A:=r.ptr (by have:=F x;rwa [K] at this)
 obtain⟨v,G,u⟩:=H s L b ch z r;have g:s.w.cell? ⟨b,off,af⟩=aa v:=by
  simp only[a9,r.heap _ _ r.ch]
  grind
 have c:(loadVar t ⟨b,off,af⟩).run P s.w=.ok v s.w:=by
  simp[loadVar,(y t i hi).j9,C,run_load,g]
 refine⟨v,by simp[ay,h,A,Instr.loadAt,Instr.sureAddr,c],u,λB q=>?_⟩
 have p:B∈(loadVar t ⟨b,off,af⟩).events P s.w #[]:=by
  have e:ay ρ o=(do pure (.value (<-loadVar t ⟨b,off,af⟩))):=by simp[ay,h,A,Instr.loadAt,Instr.sureAddr]
  rw[e] at q;simpa[c] using q
 obtain⟨j,I,rfl⟩:=kg (y t i hi) (n:=1) (λj I=>by
  grind) (by grind) B p
 exact rz (bT r.β) r.mem
def bF.fa(g:db P m){t:ar}{x:an}{i:TI}(h:o.op=.load t x)(hi:bE m t=aa i)(c:i.agg=ae)(hl:σ[l]?=aa (.dz (BB T E a v1 bf xs f)))(d:k x=.e (.one (.ptr l 1))):bF P o k σ (.e (.one (.v v1))) σ :=
 I6 g h hi c hl d λs L b ch hh r=>⟨v1,by simp,Rd.val r.cell⟩
def Nd{H:ak->(Nat->Option Obj)->Prop}(b:σ[l]?=aa (.dz H)):∀ B,σ[l]?=aa B->B.gr=ae:=by intro B h;rw[b] at h;cases h;rfl
def bF.I7(g:db P m){t:ar}{x:an}{i:TI}(h:o.op=.load t x)(hi:bE m t=aa i)(c:i.agg=ae)(hl:σ[l]?=aa (.dz (BB T E ab v1 bf xs f)))(d:k x=.e (.one (.ptr l 0))):bF P o k σ (.e (.one (.ptr l 0))) σ :=
 I6 g h hi c hl d λs L b ch hh r=>⟨L.v,by simp,Nd hl,L,b,r.β,r.v,r.v⟩
def bF.Qu(j:db P m){t:ar}{x:an}{i:TI}(h:o.op=.load t x)(hi:bE m t=aa i)(d:i.agg=ae)(hl:σ[l]?=aa (.dz (BB T E ae v1 bf xs f)))(g:k x=.e (.one (.ptr l 0))):bF P o k σ (.e (.one (.c .kh))) σ :=
 I6 j h hi d hl g λs L b ch hh r=>⟨.pointer af,by simp,Rd.kh⟩
def setRow_size(w:az)(b:Nat)(row:Array ak):(w.setRow b row).heap.size=w.heap.size:=by simp[World.setRow]
def I8(U:db P m){t:ar}{x y:an}{i:TI}(h:o.op=.store t x y)(hi:bE m t=aa i)(I:i.size=1)(W:σ[l]?=aa (.dz (BB T E a v1 bf xs f))){off:Nat}{c:Bool}{d:ak}(hx:k x=.e (.one (.ptr l off)))(ho:off<2)(hc:cX d=ab)
  (hd:∀ s L b ch v,aJ σ s->vo P σ s l T E a v1 bf xs f L b ch->c8 σ s v (k y)->cX v=ab/\(#[if a then L.v else .pointer af,v1]:Array ak).setIfInBounds off v=#[if c then L.v else .pointer af,d]):bF P o k σ .any (σ.set l (.dz (BB T E c d bf xs f))):=by
 intro s ρ S hr;obtain⟨L,b,ch,r⟩:=BB.row (P:=P) S W;have H:=r.ptr (by have:=hr x;rwa [hx] at this)
 obtain⟨J,K⟩:=hd s L b ch (ρ y) S r (hr y);have q:(ρ y).cells=#[ρ y]:=by cases Q:ρ y <;> simp[Q,cX,Value.cells] at J ⊢
 have A:∀ v∈[ρ y],v.oneCell'=ab:=by
  intro v H;simp at H;subst H;cases Q:ρ y <;> simp[Q,cX,Value.oneCell'] at J ⊢
 have n:=r.heap _ _ r.ch;have G:=run_storeCells_at P b off T [ρ y] 0 _ s.w n (by grind) A
 have B:((#[if a then L.v else .pointer af,v1]:Array ak).toList.take (off+0)++[ρ y]++(#[if a then L.v else .pointer af,v1]:Array ak).toList.drop (off+0+[ρ y].length)).toArray=#[if c then L.v else .pointer af,d]:=by
  rw[<-K]
  match off,ho with
  |0,_=>grind
  |1,_=>grind
 rw[B] at G;have I9:(s.w.setRow b #[if c then L.v else .pointer af,d]).heap[b]?=aa (.cells #[if c then L.v else .pointer af,d] T (0,0)):=setRow_heap s.w b _ _ T _ n
 have z:∀ g,g≠b->(s.w.setRow b #[if c then L.v else .pointer af,d]).heap[g]?=s.w.heap[g]?:=λg p=>setRow_other s.w b g _ p
 obtain⟨Y,t2⟩:=S.lb (l:=l) (H':=BB T E c d bf xs f) (L':=L) (w':=s.w.setRow b #[if c then L.v else .pointer af,d]) W r.β rfl (by rw[setRow_size];grind)
  (λg p hn=>z g (by rintro rfl;exact hn r.mem)) (λg p=>.inl p)
  ⟨λg=>if g=b then aa (.cells #[if c then L.v else .pointer af,d] T (0,0)) else ch g,by
   obtain⟨R,Z,q2,q3,q4⟩:=r.bb;have:R=b:=by rw[r.v] at Z;grind
   subst this;have O:∀ g,(if g=R then aa (Obj.cells #[if c then L.v else .pointer af,d] T (0,0)) else ch g).isSome=ab↔(ch g).isSome=ab:=by
    grind
   refine⟨R,Z,hc,by simp,?_⟩
   grind,λg o' p=>by
   by_cases e:g=b
   .grind
   .simp only[e,b9] at p;rw[z g e];exact r.heap _ _ p,λg=>by
   rw[r.bs g]
   by_cases e:g=b
   .subst e;simp[r.ch]
   grind⟩ rfl rfl rfl
 have C:s.β.set l L=s.β:=by
  apply iL
  intro j
  by_cases e:l=j
  .subst e;rw[fH (cp.1 r.β).1,r.β]
  grind
 rw[C] at Y t2;refine⟨.skip,{ s with w:=s.w.setRow b #[if c then L.v else .pointer af,d] },?_,rfl,Y,t2,?_⟩
 .simp[ay,h,H,Instr.storeAt,Instr.sureAddr,storeVar,(U t i hi).run_sizeOf,I,q,G]
 .intro V u;have e:ay ρ o=(do storeVar t ⟨b,off,af⟩ (ρ y);pure .skip):=by simp[ay,h,H,Instr.storeAt,Instr.sureAddr]
  rw[e] at u;have F:V∈(storeCells ⟨b,off,af⟩ [ρ y]).events P s.w #[]:=by
   simp only[storeVar,aO,(U t i hi).run_sizeOf,q,I,aU,events_sizeOf,cT,ft,b9,bX,b8,Sem.events_pure,List.size_toArray,er] at u;generalize (storeCells ⟨b,off,af⟩ [ρ y]).run P s.w=r at u;cases r with
   |ok v w'=>simpa using u
   |halt x w'=>simpa using u
  rcases eE [ρ y] 0 _ s.w #[] n (by grind) A V F with Qv|⟨j,_,_,rfl⟩
  .grind
  .exact mh (bT r.β) r.mem (r.M _ r.mem _)
def bF.zq(j:db P m){t:ar}{x y:an}{i:TI}(h:o.op=.store t x y)(hi:bE m t=aa i)(d:i.size=1)(hl:σ[l]?=aa (.dz (BB T E a v1 bf xs f))){c:ak}(q:k x=.e (.one (.ptr l 1)))(p:k y=.e (.one (.v c)))(n:cX c=ab):bF P o k σ .any (σ.set l (.dz (BB T E a c bf xs f))) :=
 I8 j h hi d hl q (by omega) n λs L b ch v hh r g=>by
  rw[p] at g;have:=Rd.fX g
  grind
def bF.Nf(g:db P m){t:ar}{x y:an}{i:TI}(h:o.op=.store t x y)(hi:bE m t=aa i)(c:i.size=1)(hl:σ[l]?=aa (.dz (BB T E a v1 bf xs f)))(p:k x=.e (.one (.ptr l 0)))(n:k y=.e (.one (.ptr l 0)))(j:cX v1=ab):bF P o k σ .any (σ.set l (.dz (BB T E ab v1 bf xs f))) :=
 I8 g h hi c hl p (by omega) j λs L b ch v hh r d=>by
  rw[n] at d;have:=r.ptr d;subst this;refine⟨rfl,?_⟩;rw[<-r.v];rfl
def bF.Qw{T:ar}(h:o.op=.alloc T)(p:∀ w,(zeroValue T).run P w=.ok (.agg #[.pointer af,.slice af 0 0]) w)(g:∀ w es,(zeroValue T).events P w es=es):bF P o k σ (.e (.one (.ptr σ.length 0))) (σ++[.dz (BB T E ae (.slice af 0 0) af [] 0)]):=by
 intro s ρ hh hr
 let w':=s.w.alloc (.cells #[.pointer af,.slice af 0 0] T)
 obtain⟨r,g2⟩:=hh.grow (M':=s.M) (w':=w') (by simp[w']) (λb hb=>cJ s.w _ hb) (λ_ _ _=>rfl) (λb hb o v i=>by have:=hh.block i;omega) rfl rfl rfl
 have q:w'.heap.size=s.w.heap.size+1:=by simp[w']
 have n:w'.heap[s.w.heap.size]?=aa (.cells #[.pointer af,.slice af 0 0] T (0,0)):=dt s.w _;obtain⟨u,t⟩:=r.gR g2 rfl hh (B:=.dz (BB T E ae (.slice af 0 0) af [] 0)) (L:=⟨.pointer (aa ⟨s.w.heap.size,0,af⟩),[s.w.heap.size]⟩)
  ⟨λd=>if d=s.w.heap.size then aa (.cells #[.pointer af,.slice af 0 0] T (0,0)) else af,⟨s.w.heap.size,rfl,rfl,by simp,rfl,λd=>by by_cases e:d=s.w.heap.size <;> simp[e]⟩,λd j c=>by
   grind,λd=>by by_cases e:d=s.w.heap.size <;> simp[e],λd c j=>by
   simp at c;subst c;show s.M _ _=af;cases i:s.M s.w.heap.size j with
   |none=>rfl
   |some v=>have:=hh.block i;omega⟩ (λd c=>by grind)
 refine⟨.value (.pointer (aa ⟨s.w.heap.size,0,af⟩)),_,?_,⟨by simp,⟨.pointer (aa ⟨s.w.heap.size,0,af⟩),[s.w.heap.size]⟩,s.w.heap.size,?_,rfl,rfl⟩,u,t,?_⟩
 .simp[ay,h,Instr.alloc,p,Go.newVar,newRow,Value.cells,w']
 .simp[<-hh.len]
 .simp[ay,h,Instr.alloc,p,g,Go.newVar,newRow];exact .nil
end
section
variable {P:aq}{X:Cx P}{N:Nat}{z:List (Nat×TI)}{o:aw}{q:an->D}{σ:List aV}{l:Nat}{T E:ar}{d:Bool}{v1:ak}{bf:Option (Nat×Nat)}{xs:List UInt8}{k:Nat}{s:St}
def oP{P:aq}{b o:Nat}{t:ar}{k:Nat×Nat}:∀ (vs:List ak)(i:Nat)(a:Array ak)(w:az)(es:Array Event),w.heap[b]?=aa (.cells a t k)->k.2<=o+i->o+i+vs.length<=a.size->(∀ v∈vs,v.oneCell'=ab) ->
  ∀ e∈(storeCells ⟨b,o,af⟩ vs i).events P w es,e∈es∨∃ j,i<=j/\j<i+vs.length/\e=GK b (o+j)
 |[],_,_,_,_,_,_,_,_=>λe h=>.inl (by simpa[storeCells] using h)
 |v::rest,i,a,w,es,g,r,A,p=>λe h=>by
  have hi:o+i<a.size:=by grind
  have c:w.cell? ⟨b,o+i,af⟩=aa a[o+i]:=by simp[a9,g,hi]
  have f:w.frozen? ⟨b,o+i,af⟩=ae:=by
   obtain⟨lo,x⟩:=k;simp only[World.frozen?,g,qY,bJ]
   grind
  have m:(store (⟨b,o+i,af⟩:Addr) v).run P w=.ok () (w.setRow b (a.setIfInBounds (o+i) v)):=by
   grind [run_store,setCell_eq_setRow]
  have n:(store (⟨b,o+i,af⟩:Addr) v).events P w es=es.push (GK b (o+i)):=by
   rw[events_store P w es _ v _ (p v (by simp)),c]
   simp only[f,jE,b9];rfl
  simp only[storeCells,aO,dg,m,n,aU] at h;rcases oP rest (i+1) (a.setIfInBounds (o+i) v) _ _ (setRow_heap _ _ _ _ _ _ g) (by omega) (by grind) (λu F=>p u (by grind)) e h with y|⟨j,B,C,rfl⟩
  .grind
  grind
def vo.at{L:Loc}{b g cap:Nat}{ch:Nat->Option Obj}(r:vo P σ s l T E d v1 (aa (g,cap)) xs k L b ch) :
  g≠b/\xs.length<=cap/\0<cap/\cap<=9223372036854775807/\k<=xs.length/\(∃ a,(qj xs++a).length=cap/\ch g=aa (.cells (qj xs++a).toArray E (0,k)))/\(∀ c,(ch c).isSome=ab↔c=b∨c=g)/\g∈L.bs:=by
 obtain⟨i,e,_,_,a1,a2,a3,a4,a5,a6,f⟩:=r.bb;have:i=b:=by rw[r.v] at e;grind
 subst this;obtain⟨a,a6,h⟩:=a6;exact⟨a1,a2,a3,a4,a5,⟨a,a6,h⟩,f,(r.bs g).2 (by grind)⟩
def Ja{L:Loc}(h:s.β[l]?=aa L):s.β.set l L=s.β:=by
 apply iL
 grind
def vo.lb{L:Loc}{b g cap:Nat}{ch:Nat->Option Obj}(hh:aJ σ s)(hl:σ[l]?=aa (.dz (BB T E d v1 (aa (g,cap)) xs k)))(r:vo P σ s l T E d v1 (aa (g,cap)) xs k L b ch){xs':List UInt8}{fz':Nat}{zs':List ak}{w':az}
  (f:(qj xs'++zs').length=cap) (y:xs'.length<=cap) (m:fz'<=xs'.length) (i:w'.heap.size=s.w.heap.size) (h:∀ a,a≠g->w'.heap[a]?=s.w.heap[a]?) (C:w'.heap[g]?=aa (.cells (qj xs'++zs').toArray E (0,fz'))) (j:w'.os=s.w.os) (t:w'.tape=s.w.tape) (n:w'.output=s.w.output) :
  aJ (σ.set l (.dz (BB T E d v1 (aa (g,cap)) xs' fz'))) { s with w:=w' }/\Step σ s (σ.set l (.dz (BB T E d v1 (aa (g,cap)) xs' fz'))) { s with w:=w' }:=by
 obtain⟨a1,a2,a3,a4,a5,⟨A,a6,G⟩,B,p⟩:=r.at;obtain⟨x,u⟩:=hh.lb (l:=l) (H':=BB T E d v1 (aa (g,cap)) xs' fz') (L':=L) (w':=w') hl r.β rfl (by omega)
  (λa c hn=>h a (by grind)) (λa c=>.inl c)
  ⟨λa=>if a=g then aa (.cells (qj xs'++zs').toArray E (0,fz')) else ch a,⟨b,r.v,r.cell,(show (if b=g then _ else ch b)=_ from (aY λe=>a1 e.symm).trans r.ch),a1,y,a3,a4,m,⟨zs',f,by simp⟩,λa=>by
   grind⟩,λa F c=>by
   by_cases e:a=g
   .grind
   .simp only[e,b9] at c;rw[h a e];exact r.heap _ _ c,λa=>by
   rw[r.bs a]
   grind⟩ j t n
 rw[Ja r.β] at x u
 grind
def bF.Ng{t Q:ar}{x y:an}(Y:o.op=.call { callee:=.builtin .append,args:=#[x,y],argTypes:=#[t,Q] }){S:TypeInfo}(ht:P.underlying t=aa (.slice E))(m:P.underlying Q=aa .string)(u:P.info? E=aa S)(p:S.size=1)
  {g cap n:Nat} (hl:σ[l]?=aa (.dz (BB T E d v1 (aa (g,cap)) xs k))) (hx:q x=.e (.one (.v (oO (aa (g,cap)) n)))) (hn:xs.length=n) {str:List UInt8} (hy:q y=.e (.one (.c (.str str)))) (Z:n+str.length<=cap) :
  bF P o q σ (.e (.one (.v (oO (aa (g,cap)) (n+str.length))))) (σ.set l (.dz (BB T E d v1 (aa (g,cap)) (xs++str) k))):=by
 intro s ρ hh hr;subst hn;obtain⟨L,b,ch,r⟩:=BB.row (P:=P) hh hl;obtain⟨a1,a2,a3,a4,a5,⟨a,a6,a7⟩,a8,B⟩:=r.at;have H:=hr x;rw[hx] at H;have H:=Rd.fX H;have F:=hr y;rw[hy] at F;have F:=fx F;generalize G:ρ y=vy at F;cases F with
 |@str sb _ hs aa9 =>
 have I:sb.size=str.length:=by rw[<-hs,jh];rfl
 have O:=r.heap _ _ a7;have hlen:(qj xs++a).toArray.size=cap:=by grind
 have C:=Lib.run_append_room_stringF (P:=P) s.w t Q o.type E S ht m u p g xs.length cap _ _ O a5 sb (by omega) (by grind)
 have K:((qj xs++a).toArray.toList.take xs.length++Lib.strCells sb++(qj xs++a).toArray.toList.drop (xs.length+sb.size))=qj (xs++str)++a.drop str.length:=by
  have e1:(qj xs++a).take xs.length=qj xs:=by grind [uZ]
  have e2:(qj xs++a).drop (xs.length+sb.size)=a.drop str.length:=by
   rw[List.drop_append,uZ,List.drop_eq_nil_of_le (by grind),I]
   simp
  have e3:Lib.strCells sb=qj str:=by simp[Lib.strCells,qj,hs]
  rw[List.toList_toArray,e1,e2,e3,Nc]
 rw[K,I] at C;have hlz:a.length=cap-xs.length:=by grind [uZ]
 have i:(qj (xs++str)++a.drop str.length).length=cap:=by grind [uZ]
 have J:(s.w.setRow g (qj (xs++str)++a.drop str.length).toArray).heap[g]?=aa (.cells (qj (xs++str)++a.drop str.length).toArray E (0,k)):=setRow_heap s.w g _ _ E _ O;obtain⟨t1,U⟩:=r.lb (fz':=k) (w':=s.w.setRow g (qj (xs++str)++a.drop str.length).toArray) hh hl i (by grind) (by grind) (setRow_size _ _ _) (λb' W=>setRow_other s.w g b' _ W) J rfl rfl rfl
 refine⟨.value (.slice (aa ⟨g,0,af⟩) (xs.length+str.length) cap),_,?_,Rd.val rfl,t1,U,?_⟩
 .rw[cY Y,H,G];simp only[bX,cW];have A:(Builtin.append_ #[t,Q] o.type #[oO (aa (g,cap)) xs.length,.string sb]).run P s.w=_:=C;rw[A];rfl
 .rw[cY Y,H,G];refine eB λe he=>?_
  have hf:=Lib.run_firstCells_string (P:=P) s.w 1 sb;have V:=run_storeCells_atF P g xs.length E (0,k) (Lib.strCells sb) 0 _ s.w O (by grind) (by grind) (Lib.strCells_oneCell sb)
  have f:xs.length+sb.size<=cap:=by omega
  have R:(Builtin.firstCells 1 sb.size (.string sb)).events P s.w #[]=#[]:=rfl;simp[oO,Builtin.append_,run_underlying ht,run_underlying m,sizeOf,typeInfo,u,p,Builtin.lenOf,f,hf,R,dg,V] at he;rcases oP (Lib.strCells sb) 0 _ s.w _ O (by grind) (by grind) (Lib.strCells_oneCell sb) e he with h|⟨j,h1,h2,rfl⟩
  .grind
  .exact mh (bT r.β) B (r.M _ B _)
def bF.Jb{t A:ar}{x y:an}(p:o.op=.call { callee:=.builtin .append,args:=#[x,y],argTypes:=#[t,A] }){n:TypeInfo}(u:P.underlying t=aa (.slice E))(b:P.underlying A=aa .string)(g:P.info? E=aa n)
  (C:q x=.e (.one (.v (oO af 0)))) (B:q y=.e (.one (.c (.str [])))):bF P o q σ (.e (.one (.v (oO af 0)))) σ:=by
 refine .quiet λs ρ hh hr=>?_
 have h:=hr x;rw[C] at h;have h:=Rd.fX h;have i:=hr y;rw[B] at i;have i:=fx i;generalize f:ρ y=vy at i;cases i with
 |@str sb _ F r =>
 have a:sb.size=0:=by
  have:sb.data.toList.length=0:=by grind
  rw[jh] at this;exact this
 have m:=Lib.run_firstCells_string (P:=P) s.w n.size sb;rw[a] at m;have j:(Builtin.firstCells n.size 0 (.string sb)).events P s.w #[]=#[]:=rfl;refine⟨.slice af 0 0,?_,Rd.val rfl,?_⟩
 .rw[cY p,h,f];simp[oO,Builtin.append_,run_underlying u,run_underlying b,sizeOf,typeInfo,g,Builtin.lenOf,a,m]
 .rw[cY p,h,f];simp[oO,Builtin.append_,run_underlying u,run_underlying b,sizeOf,typeInfo,g,Builtin.lenOf,a,m,j]
def Tp{f:aW}{fn:Func}{ps:Array ar}{t:ar}(ht:P.underlying t=aa (.slice E))(hf:P.funcs[f]?=aa fn)(C:(fn.name== "runtime.NumGoroutine")=ae)
  (hb:fn.body.isNone=ab) (Y:Extern.findNext fn=af) (K:Extern.find fn=aa (Extern.BytealgMakeNoZero.makeNoZero ps #[t])) {H x:an} {O:Array ar} (ho:o.op=.call { callee:=.value H,args:=#[x],argTypes:=O })
  (VO:q H=.e (.one (.c (.fn (.func f) [] [])))) {n:Nat} (hx:q x=.e (.one (.c (.int .i64 n)))) (h0:0<n) (aba:n<=140737488355328) (hl:σ[l]?=aa (.dz (BB T E d v1 af xs k))) :
  ∀ s ρ,aJ σ s->(∀ y,c8 σ s (ρ y) (q y))->∃ (j:{ p:Nat×Nat // n<=p.2 }) (s':St) (v:ak),(ay ρ o).run P s.w=.ok (.value v) s'.w/\c8 (σ.set l (.dz (BB T E d v1 (aa j.1) [] 0))) s' v (.e (.one (.v (oO (aa j.1) n)))) /\
   aJ (σ.set l (.dz (BB T E d v1 (aa j.1) [] 0))) s'/\Step σ s (σ.set l (.dz (BB T E d v1 (aa j.1) [] 0))) s'/\eX s ((ay ρ o).events P s.w #[]):=by
 intro s ρ Z hr;obtain⟨L,b,ch,r⟩:=BB.row (P:=P) Z hl;have F:ρ H=.func (.func f) #[] #[]:=by
  have g:=hr H;rw[VO] at g;have g:=fx g;generalize ρ H=v at g;cases g with
  |fn fs cs a b f1 f2 c1 c2 d1 d2 =>
   grind
 have G:ρ x=.int .i64 n:=by
  have g:=hr x;rw[hx] at g;have g:=fx g;generalize ρ x=v at g;cases g;rfl
 obtain⟨cs,g,V,S⟩:=Lib.run_makeNoZero (P:=P) s.w ps t E ht n (by omega)
 have S:=S (by simp only[maxLen];omega)
 have B:(callFunc f #[.int .i64 n]).run P s.w=.ok (.value (.slice (aa ⟨s.w.heap.size,0,af⟩) n cs.size)) (s.w.drew.drew.alloc (.cells cs E)):=by
  rw[run_callFunc_extern hf C hb Y K,g];rfl
 let w':az:=s.w.drew.drew.alloc (.cells cs E)
 have I9:w'.heap[s.w.heap.size]?=aa (.cells cs E (0,0)):=dt s.w.drew.drew _;have Dv:w'.heap.size=s.w.heap.size+1:=by show (s.w.drew.drew.heap.push _).size=_;simp
 obtain⟨A,q1,q2,q3,q4⟩:=r.bb;have W:A=b:=by rw[r.v] at q1;grind
 subst W;have I:A<s.w.heap.size:=Z.lt L (bT r.β) A r.mem;have M:s.w.heap.size≠A:=by omega
 obtain⟨t1,t2⟩:=Z.lb (l:=l) (H':=BB T E d v1 (aa (s.w.heap.size,cs.size)) [] 0) (L':=⟨L.v,[A,s.w.heap.size]⟩) (w':=w') hl r.β rfl (by omega)
  (λu i Y=>cJ s.w.drew.drew _ i) (λu i=>by
   simp at i;rcases i with rfl|rfl
   .exact .inl r.mem
   grind)
  ⟨λu=>if u=A then aa (.cells #[if d then L.v else .pointer af,v1] T (0,0)) else if u=s.w.heap.size then aa (.cells cs E (0,0)) else af,⟨A,r.v,r.cell,by simp,M,by simp,by omega,by simp only[maxLen] at S;omega,by simp,⟨cs.toList,by simp[qj],by simp[M,qj]⟩,λu=>by
   grind⟩,λu o' i=>by
   by_cases e:u=A
   .subst e;simp only[cq] at i;have:w'.heap[u]?=s.w.heap[u]?:=cJ s.w.drew.drew _ I;rw[this,<-i];exact r.heap _ _ r.ch
   grind,λu=>by
   grind⟩ rfl rfl rfl
 refine⟨⟨(s.w.heap.size,cs.size),V⟩,_,_,?_,Rd.val rfl,t1,t2,?_⟩
 .simp[ay,ho,resolve,Deferred.ofValue,invoke,F,G,B,w',oO]
 .intro ev Q;simp only[ay,ho,resolve,Deferred.ofValue,invoke,F,G] at Q;have J:ev∈(callFunc f #[.int .i64 n]).events P s.w #[]:=by
   grind
  have R:fn.name≠ "runtime.NumGoroutine":=by grind
  have U:fn.body=af:=by simpa using hb
  have key:∀ es:Array Event,∀ e∈(Extern.BytealgMakeNoZero.makeNoZero ps #[t] #[.int .i64 n]).events P s.w es,e∈es∨∃ m,e=⟨.mark m,ae,ab⟩/\Go.Conc.Neutral m:=by
   intro es e K
   change e∈Sem.events P (underlying _ >>= _) _ _ at K
   have g:¬(n:Int)<0:=by omega
   have V:¬(281474976710656:Int)<(n:Int):=by omega
   have VK:e∈(askRoom (grownCap s.w n 0 E)).events P s.w.drew es:=by
    simpa[run_underlying ht,g,V,Question.forced,newRow,grownCap] using K
   grind [Go.Conc.events_askRoom]
  have:ev∈(Extern.BytealgMakeNoZero.makeNoZero ps #[t] #[.int .i64 n]).events P s.w ((#[]:Array Event).push ⟨.mark (.extern f),ae,ab⟩):=by
   have e:callFunc f #[.int .i64 n]=callFunc f #[.int .i64 n]:=rfl;simpa[callFunc,hf,R,U,Y,K,g] using J
  rcases key _ _ this with h|⟨m,rfl,hm⟩
  .simp at h;subst h;exact .inr ⟨f,rfl⟩
  .exact .inl hm
def Tq{C H:ar}{x y:an}(ho:o.op=.call { callee:=.builtin .unsafeString,args:=#[x,y],argTypes:=#[C,H] })(hp:P.underlying C=aa (.pointer E))(K:P.cellsOf E=1)
  {g cap:Nat} (Z:σ[l]?=aa (.dz (BB T E d v1 (aa (g,cap)) xs k))) (hx:q x=.e (.one (.v (.pointer (aa ⟨g,0,af⟩))))) (hy:q y=.e (.one (.c (.int .i64 xs.length)))) :
  bF P o q σ (.e (.one (.c (.str xs)))) (σ.set l (.dz (BB T E d v1 (aa (g,cap)) xs xs.length))):=by
 intro s ρ hh hr;obtain⟨L,b,ch,r⟩:=BB.row (P:=P) hh Z;obtain⟨a1,a2,a3,a4,a5,⟨O,a6,a7⟩,a8,hgL⟩:=r.at;have B:=hr x;rw[hx] at B;have B:=Rd.fX B;have t:ρ y=.int .i64 xs.length:=by
  have I:=hr y;rw[hy] at I;have I:=fx I;generalize ρ y=v at I;cases I;rfl
 have Y:=r.heap _ _ a7;have p:ay ρ o=(do pure (.value (<-Builtin.unsafeString_ #[C,H] o.type #[ρ x,ρ y]))):=by simp[ay,ho,resolve,invoke,builtin]
 have hlen:(qj xs++O).toArray.size=cap:=by grind
 by_cases h0:xs=[]
 .subst h0;have i:=Lib.run_unsafeString_none (P:=P) s.w C H o.type (aa ⟨g,0,af⟩);obtain⟨t1,t2⟩:=r.lb (xs':=[]) (fz':=0) (zs':=O) (w':=s.w) hh Z a6 a2 (by simp) rfl (λ_ _=>rfl) (by grind) rfl rfl rfl
  refine⟨.value (.string .empty),_,?_,Rd.str rfl (by simp),t1,t2,?_⟩
  .rw[p,B,t];simp only[bX,cW];have:(Builtin.unsafeString_ #[C,H] o.type #[.pointer (aa ⟨g,0,af⟩),.int .i64 ([]:List UInt8).length]).run P s.w=_:=i;rw[this];rfl
  .rw[p,B,t];refine eB ?_
   change eX s (Sem.events P (asInt (.int .i64 0) >>= _) _ _)
   simp[asInt,asIntOf,IntKind.max];exact .nil
 .have m:∀ j x,xs[j]?=aa x->s.w.cell? ((⟨g,0,af⟩:Addr).add j)=aa (.int .u8 x.toNat):=by
   intro j x Q;rw[dg];simp only[a9,Y,bt];have u4:j<xs.length:=(cp.1 Q).1;have:(qj xs)[j]?=aa (.int .u8 x.toNat):=by simp[qj,Q]
   grind
  have u:s.w.shape? g=aa (E,cap):=by simp only[World.shape?,Y];grind
  have i:=Lib.run_unsafeString_row (P:=P) s.w C H o.type E hp K g cap u xs h0 a2 (by omega) m
  have f:xs.length≠0:=by grind
  have hfz:(s.w.freeze ⟨g,0,af⟩ xs.length).heap[g]?=aa (.cells (qj xs++O).toArray E (0,xs.length)):=by
   simp only[World.freeze,f,b9,zk,cq,Y,j6]
   grind
  obtain⟨t1,t2⟩:=r.lb (xs':=xs) (fz':=xs.length) (zs':=O) (w':=s.w.freeze ⟨g,0,af⟩ xs.length) hh Z a6 a2 (bg _) (by simp[World.freeze,f]) (λb' oG=>by
   simp only[World.freeze,f,b9,zk]
   grind) hfz (by simp[World.freeze,f]) (by simp[World.freeze,f]) (by simp[World.freeze,f])
  refine⟨.value (.string ⟨xs.toArray⟩),_,?_,Rd.str (by simp) (by omega),t1,t2,?_⟩
  .rw[p,B,t];simp only[bX,cW,i];rfl
  .rw[p,B,t];refine eB λe A=>?_
   have G:¬(xs.length:Int)<0:=by omega
   have h63:¬(9223372036854775807:Int)<(xs.length:Int):=by omega
   have n:=Lib.liesAt_bytes (P:=P) K (cap / P.cellsOf E) xs.length (by grind)
   have F:IntKind.i64.max=9223372036854775807:=rfl;have R:=Lib.run_loadBytes (P:=P) s.w xs ⟨g,0,af⟩ .empty m;have V:∀ (J:List UInt8) (a:Nat) (acc:ByteArray) (es:Array Event),(∀ j x,J[j]?=aa x->s.w.cell? ⟨g,a+j,af⟩=aa (.int .u8 x.toNat))->∀ e∈(loadBytes ⟨g,a,af⟩ acc J.length).events P s.w es,e∈es∨∃ j,e=zo g j:=by
    intro J
    induction J with
    |nil=>intro a acc es _ e A;exact .inl (by simpa[loadBytes] using A)
    |cons y J ih =>
     intro a acc es K e A;have M:=K 0 y rfl;simp only[iN] at M;have U:(load ⟨g,a,af⟩).run P s.w=.ok (.int .u8 y.toNat) s.w:=by grind [run_load]
     simp only[eZ,loadBytes,aO,U,aU,zr M,dg] at A;rcases ih (a+1) _ _ (λj x Q=>by have:=K (j+1) x (by grind);grind) e A with h|h
     .grind
     grind
   have W:(variablesAt ⟨g,0,af⟩ E xs.length).run P s.w=.ok ab s.w:=by simp[variablesAt,u,n]
   have S:∀ es,(variablesAt ⟨g,0,af⟩ E xs.length).events P s.w es=es:=λes=>by simp[variablesAt,u,n]
   have Qx:e∈(loadBytes ⟨g,0,af⟩ .empty xs.length).events P s.w #[]:=by
    change e∈Sem.events P (asInt (.int .i64 (xs.length:Int)) >>= _) _ _ at A
    simpa[asInt,asIntOf,F,G,h63,f,elemOf,run_underlying hp,W,S,R] using A
   rcases V xs 0 .empty #[] (λj x Q=>by grind [dg]) e Qx with h|⟨j,rfl⟩
   .grind
   .exact rz (bT r.β) hgL
end
section
variable {P:aq}{X:Cx P}{N:Nat}{q:List (Nat×TI)}{o:aw}{g:an->D}{σ:List aV}{l:Nat}{T E:ar}{i:Bool}{v1:ak}{bf:Option (Nat×Nat)}{xs:List UInt8}{p:Nat}{s:St}
def bF.exact{x:an}{v r:ak}{d:D}(b:g x=.e (.one (.v v)))(h:∀ (ρ:an->ak) w,ρ x=v->(ay ρ o).run P w=.ok (.value r) w/\(ay ρ o).events P w #[]=#[])(c:∀ σ s,c8 σ s r d):bF P o g σ d σ:=by
 refine .quiet λs ρ hh hr=>?_
 have a:=hr x;rw[b] at a;have a:=Rd.fX a;obtain⟨h1,h2⟩:=h ρ s.w a
 grind
def bF.ur{x:an}{b:Array ar}{t E:ar}(h:o.op=.call { callee:=.builtin .len,args:=#[x],argTypes:=b })(j:b[0]?=aa t)(k:P.underlying t=aa (.slice E)){a:Option Addr}{n c:Nat}(f:g x=.e (.one (.v (.slice a n c))))(hn:n<=9223372036854775807):bF P o g σ (.e (.one (.c (.int .i64 n)))) σ :=
 .exact f (λρ w d=>by constructor <;> simp[ay,h,resolve,invoke,builtin,Builtin.len_,d,run_underlying k,goInt,j]) (λ_ _=>Rd.int (by simp only[bu];omega))
def bF.Nh{x:an}{b:Array ar}{t E:ar}(h:o.op=.call { callee:=.builtin .cap,args:=#[x],argTypes:=b })(j:b[0]?=aa t)(k:P.underlying t=aa (.slice E)){a:Option Addr}{n c:Nat}(f:g x=.e (.one (.v (.slice a n c))))(hn:c<=9223372036854775807):bF P o g σ (.e (.one (.c (.int .i64 c)))) σ :=
 .exact f (λρ w d=>by constructor <;> simp[ay,h,resolve,invoke,builtin,Builtin.cap_,d,run_underlying k,goInt,j]) (λ_ _=>Rd.int (by simp only[bu];omega))
def bF.Tr{x:an}{a:Array ar}(h:o.op=.call { callee:=.builtin .unsafeSliceData,args:=#[x],argTypes:=a }){n c:Nat}(d:g x=.e (.one (.v (.slice af n c)))):bF P o g σ (.e (.one (.v (.pointer af)))) σ :=
 .exact d (λρ w b=>by
  have e:Builtin.unsafeSliceData_ a o.type #[.slice af n c]=pure (.pointer af):=rfl
  constructor <;> simp[ay,h,resolve,invoke,builtin,b,e]) (λ_ _=>Rd.val rfl)
def bF.Ts{x:an}{b:Array ar}(h:o.op=.call { callee:=.builtin .unsafeSliceData,args:=#[x],argTypes:=b }){a:Addr}{n c:Nat}(j:g x=.e (.one (.v (.slice (aa a) n c))))(d:c≠0):bF P o g σ (.e (.one (.v (.pointer (aa a))))) σ :=
 .exact j (λρ w f=>by
  obtain⟨m,rfl⟩:=Nat.exists_eq_succ_of_ne_zero d;have e:Builtin.unsafeSliceData_ b o.type #[.slice (aa a) n (m+1)]=pure (.pointer (aa a)):=rfl
  constructor <;> simp[ay,h,resolve,invoke,builtin,f,e]) (λ_ _=>Rd.val rfl)
def bF.Tt{t E:ar}{x y:an}(h:o.op=.slice t x af (aa y) af)(u:P.underlying t=aa (.slice E)){B:TypeInfo}(hi:P.info? E=aa B){a:Addr}{n c k:Nat}(A:g x=.e (.one (.v (.slice (aa a) n c))))(F:g y=.e (.one (.c (.int .i64 k))))(C:k<=n)(hn:n<=c)(r:c≠0)(z:a.add 0=a):bF P o g σ (.e (.one (.v (.slice (aa a) k c)))) σ:=by
 refine .quiet λs ρ hh hr=>?_
 have d:=hr x;rw[A] at d;have d:=Rd.fX d;have b:ρ y=.int .i64 k:=by
  have h1:=hr y;rw[F] at h1;have h1:=fx h1;generalize ρ y=v at h1;cases h1;rfl
 have hl:((af:Option ak)=af/\(af:Option Int)=af)∨∃ k j,(af:Option ak)=aa (.int k j)/\(af:Option Int)=aa j:=.inl ⟨rfl,rfl⟩;have hh:(aa (Value.int .i64 k)=af/\(aa (k:Int))=af)∨∃ k' j,aa (Value.int .i64 k)=aa (.int k' j)/\(aa (k:Int))=aa j:=.inr ⟨_,_,rfl,rfl⟩;have m:ag (iP n af (aa (k:Int))):=by simp[ag,iP,C]
 obtain⟨hb,_,_⟩:=nK (P:=P) (isS:=ab) hn hl hh m s.w;have f:=pQ (P:=P) (isS:=ab) hn hl hh m s.w;simp only[cr,bz] at hb;refine⟨.slice (aa a) k c,?_,Rd.val rfl,?_⟩
 .simp[ay,h,d,b,Instr.sliceAt,run_underlying u,Instr.slice,hb,sizeOf,typeInfo,hi,r,z]
 .simp[ay,h,d,b,Instr.sliceAt,run_underlying u,Instr.slice,hb,f,sizeOf,typeInfo,hi,r]
def bF.copyV{t E m:ar}{x y:an}(h:o.op=.call { callee:=.builtin .copy,args:=#[x,y],argTypes:=#[t,m] })(n:P.underlying t=aa (.slice E)){j:TypeInfo}(hi:P.info? E=aa j){a:Addr}{c:Nat}(k:g x=.e (.one (.v (.slice (aa a) 0 c))))(f:g y=.e (.one (.v (.slice af 0 0)))):bF P o g σ (.e (.one (.c (.int .i64 0)))) σ:=by
 refine .quiet λs ρ hh hr=>?_
 have b:=hr x;rw[k] at b;have b:=Rd.fX b;have d:=hr y;rw[f] at d;have d:=Rd.fX d;refine⟨.int .i64 0,?_,Rd.int (by simp[bu]),?_⟩ <;>
 simp[ay,h,resolve,invoke,builtin,Builtin.copy_,b,d,run_underlying n,sizeOf,typeInfo,hi,Builtin.lenOf,Builtin.firstCells,storeCells,goInt]
def bF.Tu{h j:ar}{x y:an}(k:o.op=.call { callee:=.builtin .unsafeString,args:=#[x,y],argTypes:=#[h,j] })(n:g x=.e (.one (.v (.pointer af))))(m:g y=.e (.one (.c (.int .i64 ((0:Nat):Int))))):bF P o g σ (.e (.one (.c (.str [])))) σ:=by
 refine .nJ λs ρ hh hr=>?_
 have f:=hr x;rw[n] at f;have f:=Rd.fX f;have a:ρ y=.int .i64 0:=by
  have h1:=hr y;rw[m] at h1;have h1:=fx h1;generalize ρ y=v at h1;cases h1;rfl
 have b:ay ρ o=(do pure (.value (<-Builtin.unsafeString_ #[h,j] o.type #[ρ x,ρ y]))):=by simp[ay,k,resolve,invoke,builtin]
 have d:=Lib.run_unsafeString_none (P:=P) s.w h j o.type af;refine⟨.string .empty,?_,Rd.str rfl (by simp),?_⟩
 .rw[b,f,a];simp only[bX,cW,d];rfl
 .rw[b,f,a];refine eB ?_
  change eX s (Sem.events P (asInt (.int .i64 0) >>= _) _ _)
  simp[asInt,asIntOf,IntKind.max];exact .nil
def bF.bTo(m:σ[l]?=aa (.dz (BB T E i v1 bf xs p))){d dst:ar}{x:an}(h:o.op=.convert d dst x)(t:P.underlying d=aa (.pointer T))(n:P.underlying dst=aa .unsafePointer){j:TypeInfo}(hj:P.info? T=aa j)(f:j.size≠0)(v:g x=.e (.one (.ptr l 0))):bF P o g σ (.e (.one (.ptr l 0))) σ:=by
 refine .quiet λs ρ hh hr=>?_
 obtain⟨L,b,ch,r⟩:=BB.row (P:=P) hh m;have c:=hr x;rw[v] at c;have u:=r.ptr c;have k:s.w.shape? b=aa (T,2):=by simp[World.shape?,r.heap _ _ r.ch]
 have a:=Lib.run_to_unsafe (P:=P) s.w ⟨b,0,af⟩ t n hj f k (by simp)
 refine⟨ρ x,by simp[ay,h,u,a],c,?_⟩
 have:(convert d dst (.pointer (aa ⟨b,0,af⟩))).events P s.w #[]=#[]:=by
  simp[convert,run_underlying t,run_underlying n,Conv.unsafePointer,Conv.seenAt,viewAt,cellsIn,k,sizeOf,typeInfo,hj,f]
 simp[ay,h,u,a,this]
def bF.Tv(n:σ[l]?=aa (.dz (BB T E i v1 bf xs p))){f dst:ar}{x:an}(h:o.op=.convert f dst x)(u:P.underlying f=aa .unsafePointer)(t:P.underlying dst=aa (.pointer T)){j:TypeInfo}(hj:P.info? T=aa j)(m:j.size≠0)(a:liesAt P P.depth T (2 / P.cellsOf T) 0 T 1=ab)(y:g x=.e (.one (.ptr l 0))):bF P o g σ (.e (.one (.ptr l 0))) σ:=by
 refine .quiet λs ρ hh hr=>?_
 obtain⟨L,b,ch,r⟩:=BB.row (P:=P) hh n;have d:=hr x;rw[y] at d;have v:=r.ptr d;have k:s.w.shape? b=aa (T,2):=by simp[World.shape?,r.heap _ _ r.ch]
 have c:=Lib.run_from_unsafe (P:=P) s.w ⟨b,0,af⟩ u t hj k a;refine⟨ρ x,by simp[ay,h,v,c],d,?_⟩
 have:(convert f dst (.pointer (aa ⟨b,0,af⟩))).events P s.w #[]=#[]:=by
  simp[convert,run_underlying u,run_underlying t,Conv.unsafePointer,Conv.seenAt,viewAt,variablesAt,k,sizeOf,typeInfo,hj,m,a]
 simp[ay,h,v,c,this]
def bF.Tw{f:aW}{fn:Func}(y:P.funcs[f]?=aa fn)(j:(fn.name== "runtime.NumGoroutine")=ae)(hb:fn.body.isNone=ab)(hn:Extern.findNext fn=af)(A:Extern.find fn=aa Extern.AbiNoEscape.same)
  {m x:an} {r:Array ar} (z:o.op=.call { callee:=.value m,args:=#[x],argTypes:=r }) (u:g m=.e (.one (.c (.fn (.func f) [] [])))) {d:D} (G:g x=d):bF P o g σ d σ:=by
 refine .nJ λs ρ hh hr=>?_
 have n:ρ m=.func (.func f) #[] #[]:=by
  have h1:=hr m;rw[u] at h1;have h1:=fx h1;generalize ρ m=v at h1;cases h1 with
  |fn fs cs a b B F c1 c2 d1 d2 =>
   grind
 have k:(callFunc f #[ρ x]).run P s.w=.ok (.value (ρ x)) s.w:=by
  rw[run_callFunc_extern y j hb hn A];rfl
 have t:=lR (P:=P) y j hb hn A #[ρ x] (λ_ _=>rfl) s.w #[]
 refine⟨ρ x,?_,by grind,λC h=>?_⟩
 .simp[ay,z,resolve,Deferred.ofValue,invoke,n,k]
 .simp[ay,z,resolve,Deferred.ofValue,invoke,n,t] at h;subst h;exact .inr ⟨_,rfl⟩
end
end
end Go.AM
namespace Go.AM.R1
section
open Go.Proofs
variable {X:Cx ah}
abbrev bB(a:Bool)(v1:ak)(bf:Option (Nat×Nat))(xs:Bs)(b:Nat):aV:=.dz (BB 194 5 a v1 bf xs b)
def B4(v1:ak)(b:cX v1=ab)(bf:Option (Nat×Nat))(xs:Bs)(a:Nat):Ev X 175 [.e (.one (.ptr 0 0))] [bB ae v1 bf xs a] (.eJ []) [bB ab v1 bf xs a]:=by
 refine Ev.bQ Tryz.func175 rfl λd=>?_
 refine bk rfl av ?_;refine AK.law (bF.Qu tok rfl rfl rfl rfl rfl) rfl rfl ?_;refine AK.law (Kn rfl Tryz.underlying192 rfl rfl rfl) rfl rfl ?_;refine bk rfl av ?_;refine AK.law (bF.bTo rfl rfl Tryz.underlying192 Tryz.underlying176 (bx Tryz.type194) (by simp[Tryz.t194]) rfl) rfl rfl ?_
 refine AK.law (bF.Tw Tryz.func193 (by kernel_rfl) (by kernel_rfl) (by kernel_rfl) (by kernel_rfl) rfl rfl rfl) rfl rfl ?_
 refine AK.law (bF.Tv rfl rfl Tryz.underlying176 Tryz.underlying192 (bx Tryz.type194) (by simp[Tryz.t194]) (by kernel_rfl) rfl) rfl rfl ?_
 refine bk rfl av ?_;refine AK.law (bF.Nf tok rfl rfl rfl rfl rfl rfl b) rfl rfl ?_;refine bk rfl av ?_;exact b5.s9 [0] rfl av rfl rfl rfl (λj c=>by
  have:j=0:=by simpa using c
  subst this;rfl)
def B5(v1:ak)(bf:Option (Nat×Nat))(xs:Bs)(a:Nat):Ev X 175 [.e (.one (.ptr 0 0))] [bB ab v1 bf xs a] (.eJ []) [bB ab v1 bf xs a]:=by
 refine Ev.bQ Tryz.func175 rfl λc=>?_
 refine bk rfl av ?_;refine AK.law (bF.I7 tok rfl rfl rfl rfl rfl) rfl rfl ?_;refine AK.law (Ro rfl Tryz.underlying192 rfl rfl rfl) rfl rfl ?_;refine bk rfl av ?_;refine AK.law (bF.I7 tok rfl rfl rfl rfl rfl) rfl rfl ?_;refine bk rfl av ?_;refine AK.law (N0 rfl Tryz.underlying192 (n:=2) (by decide) (λw=>by simp[sizeOf,typeInfo,bx Tryz.type194,Tryz.t194]) (λw es=>by simp[sizeOf,typeInfo,bx Tryz.type194]) rfl rfl rfl) rfl rfl ?_
 refine bk rfl av ?_;exact b5.s9 [0] rfl av rfl rfl rfl (λj b=>by
  have:j=0:=by simpa using b
  subst this;rfl)
end
end Go.AM.R1
namespace Go.AM
section
open Go.Conc (G)
def fb(i:Nat)(D:Nat->Bool):Nat->Bool:=λj=>match aG j i with|true=>ab|false=>D j
section
variable {P:aq}{X:Cx P}{N:Nat}{ops:Array aw}{φ:Fr}{σ:List aV}{g:Type}{x:g->Nat->D}{idx:Nat->Option Nat}{S:g->(Nat->Bool)->List aV}{Inv:g->(Nat->Bool)->Prop}{c:Nat}
def lr(L:Array Bool):Nat->Bool:=λi=>L.getD i ae
def Hb{L:Array Bool}{i:Nat}(hi:i<L.size):lr (L.setIfInBounds i ab)=fb i (lr L):=by
 funext j
 have h:=eC (L:=L) (i:=i) (j:=j) hi;simp only[lr,fb]
 grind [Nat.eq_of_beq_eq_true,Nat.beq_refl]
def Rc{L:Array Bool}{n c:Nat}(d:L.size=n)(h:∀ k,c<=k->¬L.getD k ae=ab):n-c<=(L.toList.filter (λb=>!b)).length:=by
 have e:(L.toList.drop c).filter (λb=>!b)=L.toList.drop c:=by
  rw[uP];intro b a;obtain⟨i,hi,rfl⟩:=dT a;have:=h (c+i) (by omega)
  simp only[oJ,jh] at hi;simp only[dC,fQ (by omega:c+i<L.size),fI] at this
  grind
 grind [List.drop_sublist]
theorem Names.Ui(all:List aw)(c:Nat):Names all (List.range' c (all.length-c)) (all.drop c):=by
 have key:∀ (l:List aw) (n:Nat),(∀ j o,l[j]?=aa o->all[n+j]?=aa o)->Names all (List.range' n l.length) l:=by
  intro l
  induction l with
  |nil=>intro n _;trivial
  |cons o r b =>
   intro n h;rw[eZ,List.range'_succ];refine⟨by simpa using h 0 o rfl,b (n+1) λj a hj=>?_⟩
   have:=h (j+1) a (by grind)
   grind
 have:=key (all.drop c) c λj o h=>by grind
 grind
structure Uj {P:aq}(X:Cx P)(N:Nat)(ops:Array aw)(φ:Fr){g:Type}(x:g->Nat->D)(S:g->(Nat->Bool)->List aV)(Inv:g->(Nat->Bool)->Prop)(idx:Nat->Option Nat)(c:Nat):Prop where
 back:∀ i o,ops[i]?=aa o->∀ e∈o.after,cZ e=ab->e.on<i
 Jq:∀ i o d,ops[i]?=aa o->o.dst=aa d->idx d=aa i/\d<N
 xE:∀ d i,idx d=aa i->∃ o,ops[i]?=aa o/\o.dst=aa d
 one:∀ κ (D:Nat->Bool) i o,Inv κ D->ops[i]?=aa o->i<c->D i=ae->(∀ e∈o.after,cZ e=ab->D e.on=ab)->(∀ j o',ops[j]?=aa o'->D j=ab->∀ e∈o'.after,cZ e=ab->D e.on=ab)->rU X N ops.toList o (mU ops.toList φ (x κ) i) (S κ D) (λq:{ κ':g // (∀ j,D j=ab->x κ' j=x κ j)/\Inv κ' (fb i D) }=>x q.1 i) (λq=>S q.1 (fb i D))
 SX:∀ (x:Nat->D) i o,ops[i]?=aa o->∀ t σ s v,c8 σ s v (match idx t with|some j=>(if ∃ e∈o.after,cZ e=ab/\e.on=j then x j else .any)|none=>look φ t)->c8 σ s v (look (mU ops.toList φ x i) t)
 fin:∀ (x:Nat->D) t σ s v,c8 σ s v (match idx t with|some j=>x j|none=>look φ t)->c8 σ s v (look (MT ops.toList φ x) t)
 S4:∀ i o,ops[i]?=aa o->c<=i->∀ L:Array Bool,(∀ i o,ops[i]?=aa o->L.getD i ae=ab->∀ e∈o.after,cZ e=ab->L.getD e.on ae=ab)->(∀ e∈o.after,cZ e=ab->L.getD e.on ae=ab)->∀ k,k<i->L.getD k ae=ab
 cc:c<=ops.size
 Re:∀ κ (D:Nat->Bool),Inv κ D->(∀ i,i<c->D i=ab)->∀ i,c<=i->i<ops.size->x κ i=.any
def FU{L:Array Bool}{i n:Nat}(a:L.size=n)(hi:i<n):L.getD i ab=ae↔¬L.getD i ae=ab:=by
 grind
def Uj.seq(h:Uj X N ops φ x S Inv idx c):∀ (a d:Nat)(L:Array Bool)(t:Nat),L.size=ops.size->c<=d->d<=ops.size->ops.size-d<=a->(∀ k,k<ops.size->(L.getD k ae=ab↔k<d)) ->
  Region.linearise.go .any ops a t L []=List.range' d (ops.size-d):=by
 intro a
 induction a with
 |zero =>
  grind [vJ]
 |succ a y =>
  intro d L t u C A z v
  by_cases B:d=ops.size
  .grind [BV]
  .rw[oS];have j:d<ops.size:=by omega
   have s:∀ i o,ops[i]?=aa o->L.getD i ae=ab->∀ e∈o.after,cZ e=ab->L.getD e.on ae=ab:=λi o m hi e l hb=>by
    have b:=(hY.1 m).1;have h1:=(v i b).1 hi;have h2:=h.back i o m e l hb
    grind
   have r:∀ i,i∈bd .any ops L->i=d:=λi hi=>by
    obtain⟨o,m,hl,w⟩:=mem_ready.1 hi;have b:=(hY.1 m).1;have hn:¬i<d:=λn=>(FU u b).1 hl ((v i b).2 n)
    rcases cG d i with h1|h1
    .have:=h.S4 i o m (by omega) L s w d h1
     grind
    .omega
   have q:d∈bd .any ops L:=mem_ready.2 ⟨ops[d],fQ j,(FU u j).2 (λhh=>by grind),λe l hb=>by
    have:=h.back d _ (fQ j) e l hb
    grind⟩
   have p:0<(bd .any ops L).length:=List.length_pos_of_mem q;have f:=jF t p;rw[br f];have e1:=r _ (oK f);simp only[e1];rw[y (d+1) _ _ (by grind) (by omega) (by omega) (by omega) (λk E=>by
    grind [eC])]
   rw[show ops.size-d=(ops.size-(d+1))+1 by omega,List.range'_succ]
def Uj.arr(h:Uj X N ops φ x S Inv idx c){R:au->St->Prop}{b:aR}{kk:List Item}{cs:List aR}(hb:b.kind≠.early){σ0:List aV}{s0:St}
  (hQ:∀ l D s a,Inv l D->(∀ i,i<c->D i=ab)->cv N (S l D) s (MT ops.toList φ (x l)) a->aJ (S l D) s->cB σ0 s0 (S l D) s->fp X R (G (b.aT a (.inRegion ops (List.range' c (ops.size-c))::kk)) cs) s) :
  ∀ (f:Nat) (l:g) (L:Array Bool),Inv l (lr L)->L.size=ops.size->(L.toList.filter (λb=>!b)).length<=f->(∀ k,c<=k->¬L.getD k ae=ab) ->
   (∀ i o,ops[i]?=aa o->L.getD i ae=ab->∀ e∈o.after,cZ e=ab->L.getD e.on ae=ab) ->
   ∀ (s:St) (a:Act),IN N (S l (lr L)) s (fZ φ (x l) idx L) a->aJ (S l (lr L)) s->cB σ0 s0 (S l (lr L)) s ->
   ∀ t,fp X R (G (b.aT a (.inRegion ops (Region.linearise.go .any ops f t L [])::kk)) cs) s:=by
 have fin:∀ (l:g) (L:Array Bool) (s:St) (a:Act) (f t:Nat),Inv l (lr L)->L.size=ops.size->(L.toList.filter (λb=>!b)).length<=f->(∀ k,c<=k->¬L.getD k ae=ab)->(∀ i,i<c->L.getD i ae=ab)->IN N (S l (lr L)) s (fZ φ (x l) idx L) a->aJ (S l (lr L)) s->cB σ0 s0 (S l (lr L)) s->fp X R (G (b.aT a (.inRegion ops (Region.linearise.go .any ops f t L [])::kk)) cs) s:=by
  intro l L s a f t C H Q w r m hh st;have Y:=h.cc;rw[h.seq f c L t H (bg _) Y (by
   have h2:=Rc (n:=ops.size) (c:=c) H w;omega) (λk hk=>⟨λJ=>by
    grind,λJ=>r k J⟩)]
  exact hQ l _ s a C r (m.Jp λt σ s v I=>h.fin (x l) t σ s v (by
   unfold fZ at I;cases hi:idx t with
   |none=>grind
   |some k =>
    simp only[hi] at I ⊢;obtain⟨o,A,_⟩:=h.xE _ _ hi;rcases cG k c with h1|h1
    .grind
    .rw[h.Re l _ C r k h1 (hY.1 A).1];trivial)) hh st
 intro f
 induction f with
 |zero =>
  intro l L C H Q w B s a m hh st t;have Y:=h.cc
  grind [z0]
 |succ f ih =>
  intro l L C H Q w B s a m hh st t;have Y:=h.cc;cases u:(bd .any ops L)[t % (bd .any ops L).length]? with
  |none=>exact fin l L s a _ t C H Q w (λi hi=>J6 (back:=h.back) H (D1 u) i (by omega)) m hh st
  |some i =>
   have hi:=bT u;obtain⟨o,A,ZA,p⟩:=mem_ready.1 hi;have u4:i<ops.size:=(hY.1 A).1;rcases cG i c with E|E
   rotate_left
   .exact fin l L s a _ t C H Q w (λk hk=>h.S4 i o A E L B p k (by omega)) m hh st
   rw[oS,u];have O:¬L.getD i ae=ab:=by
    grind
   have z:((L.setIfInBounds i ab).toList.filter (λb=>!b)).length<=f:=by
    have h1:L.toList[i]?=aa ae:=by
     rw[zj,fQ (by omega:i<L.size)]
     simpa[dC,fQ (by omega:i<L.size)] using O
    grind [count_set]
   have K:∀ j Z,ops[j]?=aa Z->(L.setIfInBounds i ab).getD j ae=ab->∀ e∈Z.after,cZ e=ab->(L.setIfInBounds i ab).getD e.on ae=ab:=by
    grind [eC]
   have V:cv N (S l (lr L)) s (mU ops.toList φ (x l) i) a:=NR (h.SX (x l) i o A) m p;have:=h.one l (lr L) i o C A E (by unfold lr;grind) p B s a V hh b kk cs R i (Region.linearise.go .any ops f (t / (bd .any ops L).length) (L.setIfInBounds i ab) []) hb (by grind)
   simp only[oH] at this;refine this λq v s' I F y=>?_
   obtain⟨T,U,M⟩:=q;have W:=Hb (L:=L) (i:=i) (by omega)
   simp only at I F y;rw[<-W] at I F y M;exact ih T _ M (by grind) z (λk hk=>by grind [eC]) K s' _ (G6 (λd hd=>h.Jq i o d A hd) h.xE A (by omega) (λj hj=>U j hj) hh.len y m I) F (st.trans y) _
def AW.reg(hf:P.follows Departure.mixedOrders=ab){all:List aw}(c:Nat)(x:g->Nat->D)(S:g->(Nat->Bool)->List aV)(Inv:g->(Nat->Bool)->Prop)(F:g)(hI0:Inv F λ_=>ae)(h0:S F (λ_=>ae)=σ)
  (Z:mo all=ab) (G:rV all 0=ab) (J:nS N all=ab) (hc:c<=all.length)
  (S4:∀ i,c<=i->i<all.length->∀ L:Nat->Prop,(∀ i,i<all.length->L i->∀ e∈bR (all.getD i fT).after.toList,L e)->(∀ e∈bR (all.getD i fT).after.toList,L e)->∀ k,k<i->L k)
  (Re:∀ p (D:Nat->Bool),Inv p D->(∀ i,i<c->D i=ab)->∀ i,c<=i->i<all.length->x p i=.any)
  (one:∀ p (D:Nat->Bool) i o,Inv p D->all[i]?=aa o->i<c->D i=ae->(∀ e∈bR o.after.toList,D e=ab)->(∀ j o',all[j]?=aa o'->D j=ab->∀ e∈bR o'.after.toList,D e=ab)->rU X N all o (mU all φ (x p) i) (S p D) (λq:{ H:g // (∀ j,D j=ab->x H j=x p j)/\Inv H (fb i D) }=>x q.1 i) (λq=>S q.1 (fb i D)))
  {Q:Post} (hQ:∀ p D,Inv p D->(∀ i,i<c->D i=ab)->jC X N all (all.drop c) (Q .normal) (MT all φ (x p)) (S p D)) (id:Nat) :
  AW X N (.region id all.toArray ab) Q φ σ:=by
 have n:∀ i:Nat,all.toArray[i]?=all[i]?:=λi=>by simp
 let idx:Nat->Option Nat:=λt=>(bh all.length).find? (λi=>decide ((all.getD i fT).dst=aa t))
 have I:∀ t j,idx t=aa j->∃ o,all[j]?=aa o/\o.dst=aa t:=by
  grind
 have z:∀ i o d,all[i]?=aa o->o.dst=aa d->idx d=aa i:=by
  intro i o d f O;have hi:i<all.length:=(cp.1 f).1;cases hx:idx d with
  |none =>
   have:=uQ.1 hx i (by grind)
   grind
  |some j =>
   grind [sR]
 have T:∀ t,oU t all=ab↔∃ j,idx t=aa j:=by
  grind [pS,rK]
 have M:∀ i o,all[i]?=aa o->all.getD i fT=o:=λi o h=>by grind
 have O:Uj X N all.toArray φ x S Inv idx c:=by
  refine⟨?_,?_,?_,?_,?_,?_,λi o f W7 L hLc hLp k hk=>?_,by grind,λp D K hD i h1 h2=>Re p D K hD i h1 (by grind)⟩
  .intro i o f e U hb;rw[n] at f;have:=BT G i o f e.on (eD.2 ⟨e,by grind,hb,rfl⟩)
   omega
  .intro i o d f O;rw[n] at f;exact⟨z i o d f O,ik (yn J i o f) d O⟩
  .grind
  .intro p D i o K f ZZ XD QF GI;rw[n] at f;exact one p D i o K f ZZ XD (λe U=>by
    grind [eD]) λj o hj hDj e U=>by
    grind [eD]
  .intro x i o f t σ s v V;rw[n] at f;show c8 σ s v (look (mU all φ x i) t);unfold mU;rw[M i o f];rcases m7 (m:=λj=>fJ j (bR o.after.toList)) (φ:=ux all φ) (t:=t) (l:=zY all 0 x) (i:=0) with⟨j,y,h1,h2,C⟩|C
   .rw[C];rw[wi] at h1;cases hj:all[j]? with
    |none=>grind
    |some oj =>
     simp only[hj,j6,de,k7,bt] at h1;rw[z j oj t hj h1.1] at V;simp only at V;rw[bc] at V
     .grind
     .simp only[bt] at h2;obtain⟨e,a,b,c⟩:=eD.1 (Bx h2)
      grind
   .rw[C,lK];split
    .trivial
    grind
  .intro x t σ s v V;show c8 σ s v (look (MT all φ x) t);unfold MT;rcases m7 (m:=λ_=>ab) (φ:=ux all φ) (t:=t) (l:=zY all 0 x) (i:=0) with⟨j,y,h1,h2,C⟩|C
   .rw[C];rw[wi] at h1
    grind
   .rw[C,lK];split
    .trivial
    grind
  .rw[n] at f;refine S4 i W7 (cp.1 f).1 (λk=>L.getD k ae=ab) (λi' hi' hl e U=>?_) (λe U=>?_) k hk
   .grind [eD]
   grind [eD]
 intro s a VT hh b kk cs SS hb WY;refine .next rfl λB A=>?_
 have A:=X.ij A;have u:=hh.rely A;have R:=VT.rely A hh;have E:Step σ B σ { B with w:={ B.w with drawn:=B.w.drawn+1 } }:=Step.same rfl rfl rfl rfl;have Y:aJ σ { B with w:={ B.w with drawn:=B.w.drawn+1 } }:=u.same rfl;have ZI:=A.stepW.trans (E.ox u);refine⟨_,{ B with w:={ B.w with drawn:=B.w.drawn+1 } },#[],lP,⟨⟨σ,σ,u,Y,E⟩,.nil⟩,?_⟩;simp only[Region.schedule,hf,Bool.true_or,cq];have W:lr (Array.replicate all.toArray.size ae)=λ_=>ae:=by
  funext i
  simp[lr,dC,mI];split <;> simp
 refine O.arr hb (σ0:=σ) (s0:=s) (λp D s2 a2 K hD f2 h2 ot=>?_) all.toArray.size F _ (by grind) (by simp) (by simp) ?_ ?_ _ a ?_ (by grind) (by grind) _
 .refine hQ p D K hD s2 a2 f2 h2 b kk cs SS _ hb ?_ λφ3 σ3 s3 a3 q3 f3 C Rf=>WY .normal _ _ s3 a3 q3 f3 C (ot.trans Rf)
  grind [Names.Ui]
 .intro i _ hi;simp[dC,mI] at hi;split at hi <;> simp at hi
 .intro i o f hi;simp[dC,mI] at hi;split at hi <;> simp at hi
 .rw[W,h0];have r:=R.mono (E.ox u) u.len;refine⟨r.size,r.defers,λt=>?_⟩
  unfold fZ;cases hix:idx t with
  |none=>exact r.slot t
  |some j =>
   simp only;rw[aY]
   .exact r.slot t
   .simp[dC,mI];split <;> simp
def rU.to{all:List aw}{o:aw}{φ:Fr}{ι e:Type}{y:ι->D}{σ':ι->List aV}{z:e->D}{d:e->List aV}(h:rU X N all o φ σ y σ')(l:∀ j,∃ k,y j=z k/\σ' j=d k):rU X N all o φ σ z d:=by
 intro s a f hh b k cs S i rest hb hi hK;refine h s a f hh b k cs S i rest hb hi λj v s' r1 r2 r3=>?_
 obtain⟨q,p2,p3⟩:=l j
 grind
def OA.Bc{all:List aw}{o:aw}{φ:Fr}{d:Type}{y:D}{σ':List aV}{z:d->D}{e:d->List aV}(h:OA X N all o φ σ y σ')(k:d)(h1:y=z k)(h2:σ'=e k):rU X N all o φ σ z e:=by
 subst h1 h2;exactλs a f hh b k' cs S i rest hb hi hK=>h s a f hh b k' cs S i rest hb hi λv s' r1 r2 r3=>hK k v s' r1 r2 r3
end
section
variable {P:aq}{X:Cx P}{N:Nat}{all:List aw}{φ:Fr}{σ:List aV}{o:aw}
theorem rU.mb{ι:Type}{x:ι->D}{σ':ι->List aV}(m:o.guard=af)(h:∀ s ρ,aJ σ s->(∀ y,c8 σ s (ρ y) (bZ φ y))->∃ (j:ι)(s':St)(v:ak),(ay ρ o).run P s.w=.ok (.value v) s'.w/\c8 (σ' j) s' v (x j)/\aJ (σ' j) s'/\Step σ s (σ' j) s'/\eX s ((ay ρ o).events P s.w #[])):rU X N all o φ σ x σ':=by
 intro s a f hh b k cs S i rest hb hi hK;refine zO hb hi (dq m) λl c=>?_
 have d:=hh.rely c;obtain⟨j,s',v,h1,h2,e,g,n⟩:=h l a.eval d (dN (f.rely c hh));exact⟨_,s',v,h1,.inl rfl,⟨⟨σ,σ' j,d,e,g⟩,n⟩,hK j v s' h2 e (c.stepW.trans (g.ox d))⟩
def rU.sZ{x:D}{σ':List aV}(h:OA X N all o φ σ x σ'):rU X N all o φ σ (λ_:Unit=>x) (λ_=>σ') :=
 λs a f hh b k cs S i rest hb hi hK=>h s a f hh b k cs S i rest hb hi λv s'=>hK () v s'
def OA.law{x:D}{σ':List aV}(h:bF P o (bZ φ) σ x σ')(a:o.guard=af):OA X N all o φ σ x σ':=.mb (λ_ _ _ _=>dq a) h
def OA.eval{T:List (Nat×TI)}{CT:List (Nat×dh)}{ds:List (Nat×Bool)}{x:D}{obs:List Prop}(b:db P T)(hC:bC X CT)(h:Fw T CT ds all φ σ o=aa (x,af,obs))(a:ag obs):OA X N all o φ σ x σ:=dW b hC h a
def OA.bM{T:List (Nat×TI)}{CT:List (Nat×dh)}{x:D}(a:db P T)(hC:bC X CT)(h:Fw T CT [] all φ σ o=aa (x,af,[])):OA X N all o φ σ x σ:=dW a hC h av
def qE(X:Cx P)(N:Nat)(all:List aw)(φ:Fr)(σ:List aV)(x:Nat->D)(pre:Nat->Bool):List aw->Nat->Prop
 |[],_=>True
 |o::r,i=>(match pre i with|true=>OA X N all o (mU all φ x i) σ (x i) σ|false=>True)/\qE X N all φ σ x pre r (i+1)
def qF(X:Cx P)(N:Nat)(all:List aw)(φ:Fr)(σ:List aV)(x:Nat->D)(m:Nat):List aw->Nat->Prop
 |[],_=>True
 |o::r,i=>(match aG i m with|true=>True|false=>OA X N all o (mU all φ x i) σ (x i) σ)/\qF X N all φ σ x m r (i+1)
theorem qE.get{x:Nat->D}{pre:Nat->Bool}:∀ {l:List aw}{k:Nat},qE X N all φ σ x pre l k->∀ (i:Nat)(o:aw),l[i]?=aa o->pre (k+i)=ab->OA X N all o (mU all φ x (k+i)) σ (x (k+i)) σ
 |[],_,_,i,o,h=>by grind
 |p::r,k,h,0,o,hi=>λa=>by
  simp at hi;subst hi;have h1:=h.1
  grind
 |p::r,k,h,i+1,o,hi=>λa=>by
  have:=qE.get h.2 i o (by grind) (by grind)
  grind
theorem qF.get{x:Nat->D}{m:Nat}:∀ {l:List aw}{k:Nat},qF X N all φ σ x m l k->∀ (i:Nat)(o:aw),l[i]?=aa o->k+i≠m->OA X N all o (mU all φ x (k+i)) σ (x (k+i)) σ
 |[],_,_,i,o,h=>by grind
 |p::r,k,h,0,o,hi=>λa=>by
  simp at hi;subst hi;have h1:=h.1;simp only[iN] at a
  grind [Nat.eq_of_beq_eq_true]
 |p::r,k,h,i+1,o,hi=>λa=>by
  have:=qF.get h.2 i o (by grind) (by omega)
  grind
def qG{ι:Type}(pre:Nat->Bool)(x:Nat->D)(y:ι->Nat->D)(j:ι)(i:Nat):D:=match pre i with|true=>x i|false=>y j i
def z8{ι:Type}{m c:Nat}{pre:Nat->Bool}{x:Nat->D}{a:ι->Nat->D}{σ':ι->List aV}{S:ι->(Nat->Bool)->List aV}(A:pre m=ae)(y:xK pre m all 0=ab)(same:∀ j i,pre i=ab->a j i=x i)
  (one:∀ i o,all[i]?=aa o->pre i=ab->OA X N all o (mU all φ x i) σ (x i) σ)
  (two:∀ j (D:Nat->Bool) i o,all[i]?=aa o->i≠m->i<c->D i=ae->(∀ k f,all[k]?=aa f->D k=ab->∀ e∈bR f.after.toList,D e=ab)->OA X N all o (mU all φ (a j) i) (S j D) (a j i) (S j (fb i D)))
  (G7:∀ o,all[m]?=aa o->rU X N all o (mU all φ x m) σ (λj=>a j m) σ') (z:∀ j (D:Nat->Bool),(∀ i,D i=ab->pre i=ab)->σ' j=S j (fb m D)) :
  ∀ (b:Option ι) (D:Nat->Bool) i o,(b.isSome=D m/\(b=af->∀ i,D i=ab->pre i=ab))->all[i]?=aa o->i<c->D i=ae->(∀ e∈bR o.after.toList,D e=ab)->(∀ j f,all[j]?=aa f->D j=ab->∀ e∈bR f.after.toList,D e=ab) ->
   rU X N all o (mU all φ (b.elim x a) i) (b.elim σ λj=>S j D) (λq:{ d:Option ι // (∀ j,D j=ab->d.elim x a j=b.elim x a j)/\(d.isSome=fb i D m/\(d=af->∀ k,fb i D k=ab->pre k=ab)) }=>q.1.elim x a i) (λq=>q.1.elim σ λj=>S j (fb i D)):=by
 intro b D i o u r s p v n;have B:∀ {k},fb i D k=ab->k=i∨D k=ab:=λ{k} l=>by
  unfold fb at l
  grind [Nat.eq_of_beq_eq_true]
 have w:∀ {k},k≠i->fb i D k=D k:=λ{k} l=>by
  unfold fb
  grind [Nat.eq_of_beq_eq_true]
 by_cases g:i=m
 .subst g;cases b with
  |some j=>grind
  |none =>
   refine(G7 o r).to λj=>⟨⟨aa j,λk l=>same j k (u.2 rfl k l),?_,λh=>by cases h⟩,rfl,z j D (u.2 rfl)⟩
   unfold fb;grind [Nat.beq_refl]
 .cases b with
  |none =>
   have t:pre i=ab:=by
    grind [FQ]
   exact(one i o r t).Bc ⟨af,λ_ _=>rfl,by grind,λ_ k l=>by
    grind⟩ rfl rfl
  |some j=>exact(two j D i o r g s p n).Bc ⟨aa j,λ_ _=>rfl,by grind,λh=>by cases h⟩ rfl rfl
def r5{ι:Type}{m c:Nat}{pre:Nat->Bool}{a:Option ι}{D:Nat->Bool}(b:a.isSome=D m/\(a=af->∀ i,D i=ab->pre i=ab))(d:m<c)(e:∀ i,i<c->D i=ab):∃ j,a=aa j:=by
 cases a with
 |some j=>grind
 |none=>grind
def AK.G7{ι:Type}(p:P.follows Departure.mixedOrders=ab)(m:Nat)(pre:Nat->Bool)(x:Nat->D)(y:ι->Nat->D)(σ':ι->List aV){ops:Array aw}{id:Nat}{K:List It}{Qf:Post}
  (b:mo ops.toList=ab) (c:rV ops.toList 0=ab) (d:nS N ops.toList=ab) (f:Nat.blt m ops.toList.length=ab) (g:pre m=ae) (e:xK pre m ops.toList 0=ab)
  (one:qE X N ops.toList φ σ x pre ops.toList 0) (two:∀ j,qF X N ops.toList φ (σ' j) (qG pre x y j) m ops.toList 0)
  (G7:rU X N ops.toList (ops.toList.getD m fT) (mU ops.toList φ x m) σ (λj=>qG pre x y j m) σ') (k:∀ j,AK X N Qf K .normal (MT ops.toList φ (qG pre x y j)) (σ' j)):AK X N Qf (.code (.region id ops ab)::K) .normal φ σ:=by
 have f:=c7 f;have:=AW.reg (X:=X) (N:=N) (φ:=φ) (σ:=σ) p (all:=ops.toList) ops.toList.length (λa:Option ι=>a.elim x (qG pre x y)) (λa _=>a.elim σ σ') (λa D=>a.isSome=D m/\(a=af->∀ i,D i=ab->pre i=ab)) af ⟨rfl,λ_ _ h=>by cases h⟩ rfl b c d (bg _)
  (λi h1 h2=>absurd h2 (ky.2 h1)) (λa D _ _ i h1 h2=>absurd h2 (ky.2 h1))
  (z8 (S:=λj _=>σ' j) g e (λj i l=>by simp only[qG,l]) (λi o hi l=>by have:=one.get i o hi (by grind);grind) (λj D i o hi Bh _ _ _=>by have:=(two j).get i o hi (by grind);grind)
   (λo r=>by grind) (λ_ _ _=>rfl))
  (Q:=AK X N Qf K) (λa D n q=>by
   obtain⟨j,rfl⟩:=r5 n f q;rw[pF];exact .nil (k j)) id
 rw[oH] at this;exact this
end
end
end Go.AM
namespace Go.AM.R1
section
open Go.Proofs
variable {X:Cx ah}
abbrev bb(a:Bool)(bf:Option (Nat×Nat))(xs:Bs)(b:Nat):aV:=bB a (oO bf xs.length) bf xs b
def l3:∀ j,j<1->([0]:List Nat)[j]?=aa j:=λj a=>by
 have:j=0:=by omega
 subst this;rfl
def Ae(a:Bool)(bf:Option (Nat×Nat))(xs:Bs)(b:Nat)(d:xs.length<=9223372036854775807)(c:bf=af->xs=[]):Ev X 247 [.e (.one (.ptr 0 0))] [bb a bf xs b] (dI xs.length) [bb a bf xs b]:=by
 refine Ev.bQ Tryz.func247 rfl λf=>?_
 refine bk rfl av ?_;refine AK.law (bF.fa tok rfl rfl rfl rfl rfl) rfl rfl ?_;cases bf with
 |none =>
  have:=c rfl;subst this;refine AK.law (bF.ur rfl rfl Tryz.underlying22 rfl (by simp)) rfl rfl ?_
  refine bk rfl av (AK.dD [0] rfl ?_ rfl rfl rfl l3);simp[ag]
 |some p =>
  refine AK.law (bF.ur rfl rfl Tryz.underlying22 rfl d) rfl rfl ?_;refine bk rfl av (AK.dD [0] rfl ?_ rfl rfl rfl l3);simp[ag]
def D8(g cap:Nat)(xs s:Bs)(b:Nat)(f:s.length<=9223372036854775807)(a:xs.length+s.length<=cap):Ev X 144 [.e (.one (.ptr 0 0)),dS s] [bb ab (aa (g,cap)) xs b] (.eJ [.one (.c (.int .i64 s.length)),.one (.c .nN)]) [bb ab (aa (g,cap)) (xs++s) b]:=by
 refine Ev.bQ Tryz.func144 rfl λd=>?_
 refine bk rfl av ?_;refine AK.cQ (B5 (oO (aa (g,cap)) xs.length) (aa (g,cap)) xs b) [0] rfl ?_;refine bk rfl av ?_;refine AK.law (bF.fa tok rfl rfl rfl rfl rfl) rfl rfl ?_;refine bk rfl av ?_;refine AK.law (bF.Ng (l:=0) (g:=g) (cap:=cap) (xs:=xs) rfl Tryz.underlying22 Tryz.underlying9 (bx Tryz.type5) (by simp[Tryz.t5]) rfl rfl rfl rfl a) rfl rfl ?_
 refine bk rfl av ?_;refine AK.law (bF.zq tok rfl rfl rfl rfl rfl rfl rfl) rfl rfl ?_;have e:bb ab (aa (g,cap)) (xs++s) b=.dz (BB 194 5 ab (oO (aa (g,cap)) (xs.length+s.length)) (aa (g,cap)) (xs++s) b):=by simp[bb,bB]
 rw[e];refine bk rfl av (AK.dD [0] rfl ?_ rfl rfl rfl l3);simp[ag,ag.cat]
theorem Rp:Ev X 144 [.e (.one (.ptr 0 0)),dS []] [bb ab af [] 0] (.eJ [.one (.c (.int .i64 0)),.one (.c .nN)]) [bb ab af [] 0]:=by
 refine Ev.bQ Tryz.func144 rfl λa=>?_
 refine bk rfl av ?_;refine AK.cQ (B5 (oO af 0) af [] 0) [0] rfl ?_;refine bk rfl av ?_;refine AK.law (bF.fa tok rfl rfl rfl rfl rfl) rfl rfl ?_;refine bk rfl av ?_;refine AK.law (bF.Jb rfl Tryz.underlying22 Tryz.underlying9 (bx Tryz.type5) rfl rfl) rfl rfl ?_;refine bk rfl av ?_;refine AK.law (bF.zq tok rfl rfl rfl rfl rfl rfl rfl) rfl rfl ?_;refine bk rfl av (AK.dD [0] rfl ?_ rfl rfl rfl l3);simp[ag,ag.cat]
abbrev dp:D:=.e (.one (.ptr 0 0))
abbrev MW:D:=.e (.one (.ptr 0 1))
def D9(g cap:Nat)(xs:Bs)(c:Nat)(a:xs.length<=9223372036854775807)(b:cap≠0):Ev X 145 [.e (.one (.ptr 0 0))] [bb ab (aa (g,cap)) xs c] (dS xs) [bb ab (aa (g,cap)) xs xs.length]:=by
 refine Ev.bQ Tryz.func145 rfl λd=>?_
 refine aX [(1000001,ab)] 100 rfl av ?_;refine AK.G7 eh 10 (λi=>bo i 9) (λi=>[dp,dp,MW,.e (.one (.v (.slice (aa ⟨g,0,af⟩) xs.length cap))),.e (.one (.v (.pointer (aa ⟨g,0,af⟩)))),dp,dp,MW,.e (.one (.v (.slice (aa ⟨g,0,af⟩) xs.length cap))),dI xs.length].getD i .any) (λ(_:Unit) _=>dS xs)
  (λ_=>[bb ab (aa (g,cap)) xs xs.length]) rfl rfl rfl rfl rfl rfl ?_ ?_ ?_ ?_
 .refine⟨.bM tok bC.nil rfl,.bM tok bC.nil rfl,.bM tok bC.nil rfl,?_,?_,.bM tok bC.nil rfl,.bM tok bC.nil rfl,.bM tok bC.nil rfl,?_,?_,av,av,av⟩
  .exact .law (bF.fa (l:=0) tok rfl rfl rfl rfl rfl) rfl
  .exact .law (bF.Ts rfl rfl b) rfl
  .exact .law (bF.fa (l:=0) tok rfl rfl rfl rfl rfl) rfl
  .exact .law (bF.ur rfl rfl Tryz.underlying22 rfl a) rfl
 .intro _;refine⟨.bM tok bC.nil rfl,.bM tok bC.nil rfl,.bM tok bC.nil rfl,?_,?_,.bM tok bC.nil rfl,.bM tok bC.nil rfl,.bM tok bC.nil rfl,?_,?_,av,.bM tok bC.nil rfl,av⟩
  .exact .law (bF.fa (l:=0) tok rfl rfl rfl rfl rfl) rfl
  .exact .law (bF.Ts rfl rfl b) rfl
  .exact .law (bF.fa (l:=0) tok rfl rfl rfl rfl rfl) rfl
  .exact .law (bF.ur rfl rfl Tryz.underlying22 rfl a) rfl
 .exact .sZ (.law (Tq (l:=0) rfl Tryz.underlying224 (by kernel_rfl) rfl rfl rfl) rfl)
 .intro _;refine bk rfl av (AK.dD [0] rfl ?_ rfl rfl rfl l3);simp[ag]
def Un{o:aw}{a:an->D}{σ:List aV}{t ty:ar}{x y:an}(h:o.op=.binOp .add t x y ty){b:Int}(f:a x=dI 0)(e:a y=dI b)(d:bu .i64 b):bF ah o a σ (dI b) σ:=by
 have:=bF.binOp (P:=ah) (σ:=σ) h f e (c:=.int .i64 (0+b)) (obs:=[bu .i64 (0+b)]) rfl (by rw[Int.zero_add];exact d)
 rwa [Int.zero_add] at this
def cK.PU{ι:Type}{f:aW}{fn:Func}{c:Code}{args:List D}{σ:List aV}{σ':ι->List aV}{res:ι->D}(d:Tryz.prog.funcs[f]?=aa fn)(b:(fn.name== "runtime.NumGoroutine")=ae)(hb:fn.body=aa c)(a:bo args.length fn.ntmps=ab)
  (h:AK X fn.ntmps (λe φ σ1=>∃ j,b5 fn σ.length (res j) (σ' j) e φ σ1) [.code c] .normal (ju 0 args) σ):cK X f args σ res σ' :=
 cK.intro d b hb (c7 a) (AK.of_code h)
def N1:Ev X 145 [.e (.one (.ptr 0 0))] [bb ab af [] 0] (dS []) [bb ab af [] 0]:=by
 refine Ev.bQ Tryz.func145 rfl λa=>?_
 refine aX [(1000001,ab)] 100 rfl av ?_;refine AK.G7 eh 10 (λi=>bo i 9) (λi=>[dp,dp,MW,.e (.one (.v (.slice af 0 0))),.e (.one (.v (.pointer af))),dp,dp,MW,.e (.one (.v (.slice af 0 0))),dI (0:Nat)].getD i .any) (λ(_:Unit) _=>dS [])
  (λ_=>[bb ab af [] 0]) rfl rfl rfl rfl rfl rfl ?_ ?_ ?_ ?_
 .refine⟨.bM tok bC.nil rfl,.bM tok bC.nil rfl,.bM tok bC.nil rfl,?_,?_,.bM tok bC.nil rfl,.bM tok bC.nil rfl,.bM tok bC.nil rfl,?_,?_,av,av,av⟩
  .exact .law (bF.fa (l:=0) tok rfl rfl rfl rfl rfl) rfl
  .exact .law (bF.Tr rfl rfl) rfl
  .exact .law (bF.fa (l:=0) tok rfl rfl rfl rfl rfl) rfl
  .exact .law (bF.ur rfl rfl Tryz.underlying22 rfl (by decide)) rfl
 .intro _;refine⟨.bM tok bC.nil rfl,.bM tok bC.nil rfl,.bM tok bC.nil rfl,?_,?_,.bM tok bC.nil rfl,.bM tok bC.nil rfl,.bM tok bC.nil rfl,?_,?_,av,.bM tok bC.nil rfl,av⟩
  .exact .law (bF.fa (l:=0) tok rfl rfl rfl rfl rfl) rfl
  .exact .law (bF.Tr rfl rfl) rfl
  .exact .law (bF.fa (l:=0) tok rfl rfl rfl rfl rfl) rfl
  .exact .law (bF.ur rfl rfl Tryz.underlying22 rfl (by decide)) rfl
 .exact .sZ (.law (bF.Tu rfl rfl rfl) rfl)
 .intro _;refine bk rfl av (AK.dD [0] rfl ?_ rfl rfl rfl l3);simp[ag]
def N2(n:Nat)(c:0<n)(d:n<=140737488355328):cK (ι:={ p:Nat×Nat // n<=p.2 }) X 176 [.e (.one (.ptr 0 0)),dI n] [bb ab af [] 0] (λ_=>.eJ []) (λj=>[bb ab (aa j.1) [] 0]):=by
 refine cK.PU Tryz.func176 rfl rfl rfl ?_;refine aX [(1000000,ab)] 100 rfl av ?_;have a:bu .i64 (n:Int):=by simp only[bu];omega
 have v0:D:=.e (.one (.v (.slice af 0 0)));refine AK.G7 (ι:={ p:Nat×Nat // n<=p.2 }) eh 8 (λi=>bo i 7||(bo 9 i&&bo i 13)) (λi=>[dp,dp,MW,.e (.one (.v (.slice af 0 0))),dI (0:Nat),dI 0,dI n,dI n,.any,dp,dp,MW,.e (.one (.v (.slice af 0 0))),dI (0:Nat)].getD i .any)
  (λj i=>[.e (.one (.v (oO (aa j.1) n))),.any,.any,.any,.any,.any,.e (.one (.v (.slice (aa ⟨j.1.1,0,af⟩) 0 j.1.2))),.e (.one (.v (.slice (aa ⟨j.1.1,0,af⟩) 0 j.1.2)))].getD (i-8) .any)
  (λj=>[bB ab (.slice af 0 0) (aa j.1) [] 0]) rfl rfl rfl rfl rfl rfl ?_ ?_ ?_ ?_
 .refine⟨.bM tok bC.nil rfl,.bM tok bC.nil rfl,.bM tok bC.nil rfl,?_,?_,?_,.bM tok bC.nil rfl,?_,av,.bM tok bC.nil rfl,.bM tok bC.nil rfl,.bM tok bC.nil rfl,?_,?_,av,av,av⟩
  .exact .law (bF.fa (l:=0) tok rfl rfl rfl rfl rfl) rfl
  .exact .law (bF.Nh rfl rfl Tryz.underlying22 rfl (by decide)) rfl
  .exact .law (Ko 0 rfl rfl rfl (by simp[bu]) (λw=>rfl) (λw=>rfl)) rfl
  .exact .law (Un rfl rfl rfl a) rfl
  .exact .law (bF.fa (l:=0) tok rfl rfl rfl rfl rfl) rfl
  .exact .law (bF.ur rfl rfl Tryz.underlying22 rfl (by decide)) rfl
 .intro j;have b:j.1.2≠0:=by grind
  refine⟨.bM tok bC.nil rfl,.bM tok bC.nil rfl,.bM tok bC.nil rfl,?_,?_,?_,.bM tok bC.nil rfl,?_,av,.bM tok bC.nil rfl,.bM tok bC.nil rfl,.bM tok bC.nil rfl,?_,?_,?_,.bM tok bC.nil rfl,av⟩
  .exact .law (bF.fa (l:=0) tok rfl rfl rfl rfl rfl) rfl
  .exact .law (bF.Nh rfl rfl Tryz.underlying22 rfl (by decide)) rfl
  .exact .law (Ko 0 rfl rfl rfl (by simp[bu]) (λw=>rfl) (λw=>rfl)) rfl
  .exact .law (Un rfl rfl rfl a) rfl
  .exact .law (bF.fa (l:=0) tok rfl rfl rfl rfl rfl) rfl
  .exact .law (bF.ur rfl rfl Tryz.underlying22 rfl (by decide)) rfl
  .exact .law (bF.Tt (k:=0) rfl Tryz.underlying22 (bx Tryz.type5) rfl rfl (gB _) j.2 b (dg _ _ _)) rfl
 .exact .mb rfl (Tp (l:=0) (ps:=#[3]) Tryz.underlying22 Tryz.func194 (by kernel_rfl) (by kernel_rfl) (by kernel_rfl) (by kernel_rfl) rfl rfl rfl c d rfl)
 .intro j;refine bk rfl av ?_;refine AK.law (bF.fa (l:=0) tok rfl rfl rfl rfl rfl) rfl rfl ?_;refine AK.law (bF.copyV rfl Tryz.underlying22 (bx Tryz.type5) rfl rfl) rfl rfl ?_;refine bk rfl av ?_;refine AK.law (bF.zq (l:=0) tok rfl rfl rfl rfl rfl rfl rfl) rfl rfl ?_;refine bk rfl av ?_;exact⟨j,b5.s9 [0] rfl av rfl rfl rfl l3⟩
def FY(n:Nat)(a:0<n)(b:n<=140737488355328):cK (ι:={ p:Nat×Nat // n<=p.2 }) X 143 [.e (.one (.ptr 0 0)),dI n] [bb ae af [] 0] (λ_=>.eJ []) (λj=>[bb ab (aa j.1) [] 0]):=by
 refine cK.PU Tryz.func143 rfl rfl rfl ?_;refine bk rfl av ?_;refine AK.cQ (B4 (oO af 0) rfl af [] 0) [0] rfl ?_;refine aX [(7,ae),(1000003,ab)] 100 rfl ?_ ?_
 .simp[ag]
 refine AK.G7 eh 4 (λi=>bo i 3||(bo 5 i&&bo i 9)||aG i 11) (λi=>[dp,dp,MW,.e (.one (.v (.slice af 0 0))),.any,dp,dp,MW,.e (.one (.v (.slice af 0 0))),dI (0:Nat),.any,dI n].getD i .any)
  (λ(_:Unit) i=>[dI (0:Nat),.any,.any,.any,.any,.any,dI (0-0),.any,dB ab].getD (i-4) .any)
  (λ_=>[bb ab af [] 0]) rfl rfl rfl rfl rfl rfl ?_ ?_ ?_ ?_
 .refine⟨.bM tok bC.nil rfl,.bM tok bC.nil rfl,.bM tok bC.nil rfl,?_,av,.bM tok bC.nil rfl,.bM tok bC.nil rfl,.bM tok bC.nil rfl,?_,?_,av,.bM tok bC.nil rfl,av,av⟩
  .exact .law (bF.fa (l:=0) tok rfl rfl rfl rfl rfl) rfl
  .exact .law (bF.fa (l:=0) tok rfl rfl rfl rfl rfl) rfl
  .exact .law (bF.ur rfl rfl Tryz.underlying22 rfl (by decide)) rfl
 .intro _;refine⟨.bM tok bC.nil rfl,.bM tok bC.nil rfl,.bM tok bC.nil rfl,?_,av,.bM tok bC.nil rfl,.bM tok bC.nil rfl,.bM tok bC.nil rfl,?_,?_,?_,.bM tok bC.nil rfl,?_,av⟩
  .exact .law (bF.fa (l:=0) tok rfl rfl rfl rfl rfl) rfl
  .exact .law (bF.fa (l:=0) tok rfl rfl rfl rfl rfl) rfl
  .exact .law (bF.ur rfl rfl Tryz.underlying22 rfl (by decide)) rfl
  .exact .eval (ds:=[]) tok bC.nil (obs:=[bu .i64 (((0:Nat):Int)-((0:Nat):Int))]) rfl (by simp[ag,bu])
  .exact .eval (ds:=[(21,ab)]) tok bC.nil (obs:=[decide ((0:Int)-0<(n:Int))=ab]) rfl (by simp[ag];omega)
 .exact .sZ (.law (bF.Nh rfl rfl Tryz.underlying22 rfl (by decide)) rfl)
 .intro _;refine bk rfl av ?_;refine AK.cP (N2 n a b) [0] rfl (λ_=>rfl) λj=>?_
  refine bk rfl av ?_;exact⟨j,b5.s9 [0] rfl av rfl rfl rfl l3⟩
def Kp:Ev X 143 [.e (.one (.ptr 0 0)),dI (0:Nat)] [bb ae af [] 0] (.eJ []) [bb ab af [] 0]:=by
 refine Ev.bQ Tryz.func143 rfl λa=>?_
 refine bk rfl av ?_;refine AK.cQ (B4 (oO af 0) rfl af [] 0) [0] rfl ?_;refine aX [(7,ae),(1000003,ab)] 100 rfl ?_ ?_
 .simp[ag]
 refine AK.G7 eh 4 (λi=>bo i 3||(bo 5 i&&bo i 9)||aG i 11) (λi=>[dp,dp,MW,.e (.one (.v (.slice af 0 0))),.any,dp,dp,MW,.e (.one (.v (.slice af 0 0))),dI (0:Nat),.any,dI (0:Nat)].getD i .any)
  (λ(_:Unit) i=>[dI (0:Nat),.any,.any,.any,.any,.any,dI (0-0),.any,dB ae].getD (i-4) .any)
  (λ_=>[bb ab af [] 0]) rfl rfl rfl rfl rfl rfl ?_ ?_ ?_ ?_
 .refine⟨.bM tok bC.nil rfl,.bM tok bC.nil rfl,.bM tok bC.nil rfl,?_,av,.bM tok bC.nil rfl,.bM tok bC.nil rfl,.bM tok bC.nil rfl,?_,?_,av,.bM tok bC.nil rfl,av,av⟩
  .exact .law (bF.fa (l:=0) tok rfl rfl rfl rfl rfl) rfl
  .exact .law (bF.fa (l:=0) tok rfl rfl rfl rfl rfl) rfl
  .exact .law (bF.ur rfl rfl Tryz.underlying22 rfl (by decide)) rfl
 .intro _;refine⟨.bM tok bC.nil rfl,.bM tok bC.nil rfl,.bM tok bC.nil rfl,?_,av,.bM tok bC.nil rfl,.bM tok bC.nil rfl,.bM tok bC.nil rfl,?_,?_,?_,.bM tok bC.nil rfl,?_,av⟩
  .exact .law (bF.fa (l:=0) tok rfl rfl rfl rfl rfl) rfl
  .exact .law (bF.fa (l:=0) tok rfl rfl rfl rfl rfl) rfl
  .exact .law (bF.ur rfl rfl Tryz.underlying22 rfl (by decide)) rfl
  .exact .eval (ds:=[]) tok bC.nil (obs:=[bu .i64 (((0:Nat):Int)-((0:Nat):Int))]) rfl (by simp[ag,bu])
  .exact .eval (ds:=[(21,ae)]) tok bC.nil (obs:=[decide ((0:Int)-0<((0:Nat):Int))=ae]) rfl (by simp[ag])
 .exact .sZ (.law (bF.Nh rfl rfl Tryz.underlying22 rfl (by decide)) rfl)
 .intro _;refine bk rfl av ?_;exact b5.s9 [0] rfl av rfl rfl rfl l3
def Kq{o:aw}{a:an->D}{σ:List aV}(h:o.op=.alloc 194):bF ah o a σ (.e (.one (.ptr σ.length 0))) (σ++[bb ae af [] 0]) :=
 bF.Qw h (λw=>by simp[zeroValue,typeInfo,bx Tryz.type194,Tryz.t194]) (λw es=>by simp)
def Kr{o:aw}{n:an->D}{σ:List aV}{x y z:an}{p:Array ar}{a b c:Int} (m:Int)(h:o.op=.call { callee:=.builtin .min,args:=#[x,y,z],argTypes:=p })(u:n x=dI a)(t:n y=dI b)(r:n z=dI c)(w:min (min a b) c=m)(q:bu .i64 m):bF ah o n σ (dI m) σ:=by
 refine .quiet λs ρ v d=>?_
 have l:=d x;have g:=d y;have k:=d z;rw[u] at l;rw[t] at g;rw[r] at k
 replace l:=fx l
 replace g:=fx g
 replace k:=fx k
 generalize i:ρ x=vx at l;generalize j:ρ y=vy at g;generalize f:ρ z=vz at k;cases l;cases g;cases k;have e:(if c<(if b<a then b else a) then c else if b<a then b else a)=m:=by
  grind
 exact⟨.int .i64 m,by simp[ay,h,resolve,invoke,builtin,i,j,f,Builtin.min_,Builtin.min2,e],.int q,by simp[ay,h,resolve,invoke,builtin,i,j,f,Builtin.min_,Builtin.min2]⟩
def Ks(n:Nat)(l:2<=n)(p:n<=3):Ev X 238 [dS [46],dI n] [] (dS (List.replicate n 46)) []:=by
 refine Ev.bQ Tryz.func238 rfl λo=>?_
 have a:bC X [(246,Rq)]:=.cons t246 .nil;refine aD a [(13,ae),(15,ae),(18,ae),(30,ae),(33,ae),(40,ae),(44,ae),(45,ae),(46,ae),(47,ae),(48,ae),(96,ae),(1000035,ab)] 200 rfl ?_ ?_
 .have h:(n:Int)=2∨(n:Int)=3:=by omega
  have e:(iR [46] 0).toNat=46:=rfl;simp[ag,bu,e,h];omega
 refine AK.region ?_;refine AK.law (Kq rfl) rfl rfl ?_;refine aD a [] 200 rfl av ?_;refine AK.cP (FY n (by omega) (by omega)) [0] rfl (λ_=>rfl) λj=>?_
 obtain⟨⟨g,cap⟩,b⟩:=j;have b:n<=cap:=b;refine aD a [] 200 rfl av ?_;refine AK.cQ (D8 g cap [] [46] 0 (by simp) (by simp;omega)) [0] rfl ?_
 refine aD a [] 200 rfl av ?_;refine AK.jO (λk=>1<=k/\k<=n) (λk:Nat=>[(0,dS [46]),(7,dI n),(8,dI n),(9,.e (.one (.ptr 0 0)))]) (λk=>[bb ab (aa (g,cap)) (List.replicate k 46) (k-1)]) (λk=>n-k) 1 rfl ?_ rfl ?_ ⟨by omega,by omega⟩ ?_
 .simp[ag,ag.cat]
 .exact ag.cat.2 ⟨rfl,av⟩
 rintro k ⟨c,d⟩;refine aD a [] 200 rfl av ?_;refine AK.cQ (Ae ab (aa (g,cap)) (List.replicate k 46) (k-1) (by simp;omega) (by simp)) [0] rfl ?_
 by_cases q:k<n
 .refine aD a [(113,ab)] 200 rfl ?_ ?_
  .simp[ag];omega
  refine AK.cQ (Ae ab (aa (g,cap)) (List.replicate k 46) (k-1) (by simp;omega) (by simp)) [0] rfl ?_
  refine aD a [] 200 rfl ?_ ?_
  .simp[ag,bu];omega
  refine AK.cQ (Ae ab (aa (g,cap)) (List.replicate k 46) (k-1) (by simp;omega) (by simp)) [0] rfl ?_
  refine aD a [] 200 rfl av ?_;refine AK.law (Kr 1 rfl rfl rfl rfl (by simp;omega) (by simp[bu])) rfl rfl ?_
  refine aD a [] 200 rfl av ?_;refine AK.cQ (D9 g cap (List.replicate k 46) (k-1) (by simp;omega) (by omega)) [0] rfl ?_
  have i:rO (List.replicate k (46:UInt8)) af (aa 1)=[46]:=by
   obtain⟨m,rfl⟩:∃ m,k=m+1:=⟨k-1,by omega⟩
   simp[rO,List.replicate_succ]
  refine aD a [] 200 rfl ?_ ?_
  .simp[ag];omega
  rw[i];refine AK.cQ (D8 g cap (List.replicate k 46) [46] (List.replicate k 46).length (by simp) (by simp;omega)) [0] rfl ?_
  have f:List.replicate k (46:UInt8)++[46]=List.replicate (k+1) 46:=by rw[List.replicate_succ']
  rw[f];refine aD a [] 200 rfl av (AK.fU (k+1) rfl ?_ rfl ?_ ⟨by omega,by omega⟩ (by omega))
  .simp[ag,ag.cat]
  .refine ag.cat.2 ⟨?_,av⟩;simp[ag]
 .refine aD a [(113,ae)] 200 rfl ?_ (AK.leave rfl rfl ?_)
  .simp[ag];omega
  have e:k=n:=by omega
  subst e;refine aD a [] 200 rfl av ?_;refine AK.cQ (D9 g cap (List.replicate k 46) (k-1) (by simp;omega) (by omega)) [0] rfl ?_
  refine aD a [] 200 rfl av (AK.bm rfl ?_);simp[ag,ag.cat]
def XN:dG X 238 Hc:=Uo (Ks 2 (by omega) (by omega)) (Ks 3 (by omega) (by omega))
def Up:dG X 219 pb:=Uq XN
def Room(bf:Option (Nat×Nat))(n:Nat):Prop:=match bf with|none=>n=0|some (_,cap)=>n<=cap/\0<cap
def _root_.Go.AM.cK.re{P:aq}{ι b:Type}{X:Cx P}{f:aW}{args:List D}{σ:List aV}{res:ι->D}{σ':ι->List aV}{a:b->D}{σ2:b->List aV}(h:cK X f args σ res σ')(g:ι->b)(c:∀ i,a (g i)=res i)(d:∀ i,σ2 (g i)=σ' i):cK X f args σ a σ2 :=
 ⟨h.1,λs vs h1 h2 S cs hS=>h.2 s vs h1 h2 S cs λi fr v s' k1 k2 k3 k4=>hS (g i) fr v s' k1 (by grind) (by grind) (by grind)⟩
def Kt(n:Nat)(a:n<=140737488355328):cK (ι:={ bf:Option (Nat×Nat) // Room bf n }) X 143 [.e (.one (.ptr 0 0)),dI n] [bb ae af [] 0] (λ_=>.eJ []) (λj=>[bb ab j.1 [] 0]):=by
 by_cases h:n=0
 .subst h;exact Kp.Bc.re (λ_=>⟨af,rfl⟩) (λ_=>rfl) (λ_=>rfl)
 .exact(FY n (by omega) a).re (λp=>⟨aa p.1,p.2,by grind⟩) (λ_=>rfl) (λ_=>rfl)
def Ea(bf:Option (Nat×Nat))(xs s:Bs)(a:s.length<=9223372036854775807)(h:Room bf (xs.length+s.length)):Ev X 144 [.e (.one (.ptr 0 0)),dS s] [bb ab bf xs 0] (.eJ [.one (.c (.int .i64 s.length)),.one (.c .nN)]) [bb ab bf (xs++s) 0]:=by
 cases bf with
 |none =>
  have h:xs.length+s.length=0:=h
  grind [Rp]
 |some p=>exact D8 p.1 p.2 xs s 0 a h.1
def shown(bf:Option (Nat×Nat))(xs:Bs):Nat:=match bf with|none=>0|some _=>xs.length
def N3(bf:Option (Nat×Nat))(xs:Bs)(a:xs.length<=9223372036854775807)(h:Room bf xs.length):Ev X 145 [.e (.one (.ptr 0 0))] [bb ab bf xs 0] (dS xs) [bb ab bf xs (shown bf xs)]:=by
 cases bf with
 |none =>
  have h:xs.length=0:=h;have b:xs=[]:=hX h;subst b;exact N1
 |some p=>exact D9 p.1 p.2 xs 0 a (by have:=h.2;omega)
def FZ(l:List Bs)(i:Nat):Bs:=(l.take i).flatten
def Ku{l:List Bs}{i:Nat}(h:i<l.length):FZ l (i+1)=FZ l i++l.getD i []:=by
 unfold FZ
 grind [List.take_add_one]
def Ur{l:List Bs}:FZ l l.length=l.flatten:=by simp[FZ]
def Kv{l:List Bs}(i:Nat):(FZ l i).length<=l.flatten.length:=by
 have e:l.flatten=(l.take i).flatten++(l.drop i).flatten:=by grind [List.take_append_drop]
 rw[e,bP];simp only[FZ];omega
def N4(l:List Bs)(q:l.flatten.length<=140737488355328):Ev X 79 [cS.sl l,dS []] [] (dS l.flatten) []:=by
 refine Ev.bQ Tryz.func79 rfl λo=>?_
 have k:=o.sl 0 rfl
 by_cases m:l=[]
 .subst m;refine aX [(14,ab)] 100 rfl ?_ (AK.bm rfl ?_)
  .simp[ag]
  .simp[ag]
 by_cases s:l.length=1
 .obtain⟨x,rfl⟩:=List.length_eq_one_iff.1 s;refine aX [(14,ae),(16,ab)] 100 rfl ?_ (AK.bm rfl ?_)
  .simp[ag]
  .simp[ag,ag.cat,cS,hU.fn]
 have u:2<=l.length:=by
  have:l.length≠0:=by grind
  omega
 refine aX [(14,ae),(16,ae),(22,ae)] 100 rfl ?_ ?_
 .simp[ag,m];omega
 refine AK.jO (λi=>i<=l.length) (λi:Nat=>[(0,cS.sl l),(1,dS []),(5,dI (FZ l i).length),(39,cS.sl l),(40,dI l.length),(41,dI i)]) (λ_=>[]) (λi=>l.length-i) 0 rfl ?_ rfl av (by omega) ?_
 .simp[ag,ag.cat,aP.same,FZ]
 .intro i hi;have v:=Kv (l:=l) i
  by_cases h:i<l.length
  .have b:=Kv (l:=l) (i+1);rw[Ku h,bP] at b;refine aX [(42,ab),(49,ae)] 100 rfl ?_ (AK.fU (i+1) rfl ?_ rfl av (by omega) (by omega))
   .have e:(l.getD (i:Int).toNat cS.bD)=l.getD i []:=rfl;simp only[ag,bu,e]
    grind
   .have e:(l.getD (i:Int).toNat cS.bD)=l.getD i []:=rfl;rw[Ku h];rw[e];simp[ag,ag.cat,aP.same]
  .have e:i=l.length:=by omega
   subst e;refine aX [(42,ae),(1000018,ab)] 100 rfl ?_ (AK.leave rfl rfl ?_)
   .simp[ag]
   refine aX [(1000018,ab)] 100 rfl av ?_;refine AK.region ?_;refine AK.law (Kq rfl) rfl rfl ?_;refine dO rfl av ?_;rw[Ur];refine AK.cP (Kt l.flatten.length q) [0] rfl (λ_=>rfl) λj=>?_
   obtain⟨bf,f⟩:=j;refine dO rfl ?_ ?_
   .exact⟨by omega,show (0:Int)<(l.length:Int) by omega⟩
   have room:∀ n,n<=l.flatten.length->Room bf n:=λn t=>by
    cases bf with
    |none =>
     have:l.flatten.length=0:=f
     grind
    |some p=>exact⟨eK t f.1,f.2⟩
   have g:FZ l 1=l.getD 0 []:=by rw[Ku (by omega)];simp[FZ]
   have d:=Kv (l:=l) 1;rw[g] at d;refine AK.cQ (Ea bf [] (l.getD 0 []) (by omega) (room _ (by grind))) [0] rfl ?_
   refine dO rfl ?_ ?_
   .exact⟨by omega,show (1:Int)<=(l.length:Int) by omega⟩
   refine AK.jO (λi=>i+1<=l.length) (λi:Nat=>[(1,dS []),(8,.e (.one (.ptr 0 0))),(63,.e (.one (.c (.sl ae 1 (l.length-1) (jK 1 (cS.fn l)))))),(64,dI (l.length-1:Nat)),(65,dI i)]) (λi=>[bb ab bf (FZ l (i+1)) 0]) (λi=>l.length-i) 0 rfl ?_ rfl ?_ (by omega) ?_
   .simp[ag,ag.cat,cr,aP.same]
   .refine ag.cat.2 ⟨?_,av⟩;rw[bt,g];exact rfl
   intro i hi;have r:=Kv (l:=l) (i+1)
   by_cases h:i+1<l.length
   .have a:=Kv (l:=l) (i+2);rw[Ku h,bP] at a;refine aX [(66,ab)] 100 rfl ?_ ?_
    .exact⟨by omega,by omega,cj (by omega)⟩
    refine AK.cQ (Ea bf (FZ l (i+1)) [] (by simp) (room _ (by grind))) [0] rfl ?_
    rw[k6];refine bk rfl av ?_;refine AK.cQ (Ea bf (FZ l (i+1)) (l.getD (1+i) []) (by grind) (room _ (by grind))) [0] rfl ?_
    refine bk rfl ?_ (AK.fU (i+1) rfl ?_ rfl ?_ (by omega) (by omega))
    .simp only[ag,bu];omega
    .simp[ag,ag.cat,aP.same]
    .refine ag.cat.2 ⟨?_,av⟩;rw[Ku h,Nat.add_comm 1 i];exact rfl
   .have e:i+1=l.length:=by omega
    refine aX [(66,ae)] 100 rfl ?_ (AK.leave rfl rfl ?_)
    .exact eu (by omega)
    rw[e,Ur];refine bk rfl av ?_;refine AK.cQ (N3 bf l.flatten (by omega) (room _ (by omega))) [0] rfl ?_
    refine bk rfl av (AK.bm rfl ?_);simp[ag,ag.cat]
def Hh{s:Bs}(h:b7 s=ab)(i:Nat)(hi:i<s.length):97<=cz s i/\cz s i<=122:=by
 have a:=List.all_eq_true.1 h (s.getD i 0) (by grind)
 simp only[eG,bL,ba] at a;unfold cz;omega
def Cc(s:Bs)(i:Nat)(a:b7 s=ab)(j:3<=i)(hi:i<=s.length)(g:s.length<=4000000):Ev X 195 [dS s,dI i] [] (dB (lb s i)) []:=by
 refine Ev.bQ Tryz.func195 rfl λf=>?_
 have k:=Hh a (i-1) (by omega)
 have h:=Hh a (i-2) (by omega)
 have e:=Hh a (i-3) (by omega)
 have c:((iR s ((i:Int)-1)).toNat:Int)=cz s (i-1):=by rw[cy,show ((i:Int)-1).toNat=i-1 by omega]
 have b:((iR s ((i:Int)-2)).toNat:Int)=cz s (i-2):=by rw[cy,show ((i:Int)-2).toNat=i-2 by omega]
 have d:((iR s ((i:Int)-3)).toNat:Int)=cz s (i-3):=by rw[cy,show ((i:Int)-3).toNat=i-3 by omega]
 refine bk rfl ?_ (AK.bm rfl ?_)
 .simp only[ag,bu,c,b,d];omega
 .simp only[ag,ag.cat,c,b,d,lb,dl,aC]
  grind
def Hi:dG X 195 (p0 aS aI (λs i=>dB (lb s i.toNat)) λs i=>[b7 s=ab,3<=i,i<=s.length,s.length<=4000000]):=.tb λs i h=>by
 obtain⟨a,c,d,b⟩:=h;obtain⟨m,rfl⟩:∃ m:Nat,i=m:=⟨i.toNat,by omega⟩
 exact Cc s m a (by omega) (by omega) b
def Aj{o:aw}{j:an->D}{σ:List aV}{x y:an}{k:Array ar}{a b:Int} (m:Int)(h:o.op=.call { callee:=.builtin .min,args:=#[x,y],argTypes:=k })(q:j x=dI a)(p:j y=dI b)(n:min a b=m)(l:bu .i64 m):bF ah o j σ (dI m) σ:=by
 refine .quiet λs ρ r c=>?_
 have i:=c x;have d:=c y;rw[q] at i;rw[p] at d
 replace i:=fx i
 replace d:=fx d
 generalize f:ρ x=vx at i;generalize g:ρ y=vy at d;cases i;cases d;have e:(if b<a then b else a)=m:=by
  rw[<-n];split <;> omega
 exact⟨.int .i64 m,by simp[ay,h,resolve,invoke,builtin,f,g,Builtin.min_,Builtin.min2,e],.int l,by simp[ay,h,resolve,invoke,builtin,f,g,Builtin.min_,Builtin.min2]⟩
def KH{t:Bs}{f j:Nat}(h:t.length<=f+3+j)(c:j<=5):tc t f (5-j)=min (f+8) t.length:=by
 rcases cG j 5 with a|a
 .obtain⟨k,b⟩:∃ k,5-j=k+1:=⟨4-j,by omega⟩
  rw[b];simp only[tc];rw[bc (by omega)]
  omega
 .rw[show 5-j=0 by omega];rfl
def Hj(t:Bs)(f:Nat)(l:b7 t=ab)(o:f<=t.length)(q:t.length<=4000000):Ev X 178 [dS t,dI f] [] (dI (cutAt t f)) []:=by
 refine Ev.bQ Tryz.func178 rfl λp=>?_
 have a:bC X [(195,p0 aS aI (λs i=>dB (lb s i.toNat)) λs i=>[b7 s=ab,3<=i,i<=s.length,s.length<=4000000])]:=.cons Hi .nil
 refine aD a [] 100 rfl ?_ ?_
 .simp[ag,bu];omega
 refine AK.jO (λj=>j<=5/\tc t f (5-j)=cutAt t f) (λj:Nat=>[(0,dS t),(1,dI f),(5,dI (f+3+j))]) (λ_=>[]) (λj=>5-j) 0 rfl ?_ rfl av ⟨by omega,rfl⟩ ?_
 .simp[ag,ag.cat]
 rintro j ⟨r,b⟩
 by_cases h:j<5/\f+3+j<t.length
 .obtain⟨k,n⟩:∃ k,5-j=k+1:=⟨4-j,by omega⟩
  have d:f+(7-k)=f+3+j:=by omega
  rw[n] at b;simp only[tc,d] at b;rw[aY (by omega)] at b
  have e:((f:Int)+3+j).toNat=f+3+j:=by omega
  cases c:lb t (f+3+j) with
  |true =>
   rw[c,bc rfl] at b;refine aD a [(11,ab),(16,ab),(22,ab)] 100 rfl ?_ (AK.gJ (b5.zero rfl ?_))
   .simp only[ag,bu,e,c,l,ba,eq_self,aF,aC];omega
   .simp[ag,ag.cat,<-b]
  |false =>
   rw[c,aY (by simp)] at b
   refine aD a [(11,ab),(16,ab),(22,ae)] 100 rfl ?_ (AK.fU (j+1) rfl ?_ rfl av ⟨by omega,by rw[<-b];congr 1;omega⟩ (by omega))
   .simp only[ag,bu,e,c,l,ba,eq_self,aF,aC];omega
   .simp[ag,ag.cat];omega
 .have e:cutAt t f=min (f+8) t.length:=by
   rw[<-b];rcases cG j 5 with g|g
   .exact KH (by omega) (by omega)
   .rw[show 5-j=0 by omega];rfl
  have m:bu .i64 ((min (f+8) t.length:Nat):Int):=by simp only[bu];omega
  rcases cG j 5 with g|g
  .refine aD a [(11,ab),(16,ae)] 100 rfl ?_ (AK.leave rfl rfl ?_)
   .simp only[ag,bu,ba,bJ];omega
   refine aD a [] 100 rfl ?_ ?_
   .simp only[ag,bu];omega
   refine AK.law (Aj ((min (f+8) t.length:Nat):Int) rfl rfl rfl (by omega) m) rfl rfl ?_
   refine aD a [] 100 rfl av (AK.bm rfl ?_);simp[ag,e]
  .refine aD a [(11,ae)] 100 rfl ?_ (AK.leave rfl rfl ?_)
   .simp only[ag,bu,ba,bJ];omega
   refine aD a [] 100 rfl ?_ ?_
   .simp only[ag,bu];omega
   refine AK.law (Aj ((min (f+8) t.length:Nat):Int) rfl rfl rfl (by omega) m) rfl rfl ?_
   refine aD a [] 100 rfl av (AK.bm rfl ?_);simp[ag,e]
def RA:dG X 178 (p0 aS aI (λs i=>dI (cutAt s i.toNat)) λs i=>[b7 s=ab,0<=i,i<=s.length,s.length<=4000000]):=.tb λs i h=>by
 obtain⟨a,c,d,b⟩:=h;obtain⟨m,rfl⟩:∃ m:Nat,i=m:=⟨i.toNat,by omega⟩
 exact Hj s m a (by omega) b
end
end Go.AM.R1
namespace Go.AM
def lY{B:aV}{r:List aV}(h:B≠.qS)(k:mn r=ab):mn (B::r)=ab:=by
 cases B <;> first|exact k|exact absurd rfl h
section
variable {P:aq}{X:Cx P}{N:Nat}{Qf:Post}{φ:Fr}{σ:List aV}
def AK.iE{Q a:Post}(h:∀ e φ σ,Q e φ σ->a e φ σ):∀ {K:List It}{e:Exit}{φ:Fr}{σ:List aV},AK X N Q K e φ σ->AK X N a K e φ σ
 |[],e,φ,σ,q=>h e φ σ q
 |.code c::K,.normal,φ,σ,q=>AW.mono q λ_ _ _ q=>AK.iE h q
 |.code c::K,.exit _,φ,σ,q=>AK.iE (K:=K) h q
 |.code c::K,.ret,φ,σ,q=>AK.iE (K:=K) h q
 |.code c::K,.panic _,φ,σ,q=>AK.iE (K:=K) h q
 |.code c::K,.goto _,φ,σ,q=>AK.iE (K:=K) h q
 |.code c::K,.outgrown,φ,σ,q=>AK.iE (K:=K) h q
 |.blk id::K,.exit IV,φ,σ,q=>by
  simp only[AK] at q ⊢;split
  .rename_i e;rw[bc e] at q;exact AK.iE (K:=K) h q
  .rename_i e;rw[aY e] at q;exact AK.iE (K:=K) h q
 |.blk id::K,.normal,φ,σ,q=>AK.iE (K:=K) h q
 |.blk id::K,.ret,φ,σ,q=>AK.iE (K:=K) h q
 |.blk id::K,.panic _,φ,σ,q=>AK.iE (K:=K) h q
 |.blk id::K,.goto _,φ,σ,q=>AK.iE (K:=K) h q
 |.blk id::K,.outgrown,φ,σ,q=>AK.iE (K:=K) h q
 |.ops all rest::K,.normal,φ,σ,q=>jC.mono q λ_ _ q=>AK.iE h q
 |.ops all rest::K,.exit _,φ,σ,q=>AK.iE (K:=K) h q
 |.ops all rest::K,.ret,φ,σ,q=>AK.iE (K:=K) h q
 |.ops all rest::K,.panic _,φ,σ,q=>AK.iE (K:=K) h q
 |.ops all rest::K,.goto _,φ,σ,q=>AK.iE (K:=K) h q
 |.ops all rest::K,.outgrown,φ,σ,q=>AK.iE (K:=K) h q
def AK.J2{id:Nat}{A:Fr->List aV->Prop}{b c a:List It}(h1:kM id b=af)(h2:kM id c=aa a)(k:AK X N Qf a .normal φ σ) :
  AK X N (FM A (AK X N Qf c)) (.code (.exit id)::b) .normal φ σ :=
 AK.iE (λe d σ' q=>by cases e <;> exact q) (AK.leave (X:=X) (N:=N) (Qr:=Qf) (A:=A) (φ:=φ) (σ:=σ) h1 h2 k)
end
end Go.AM
namespace Go.AM.R1
section
open Go.Proofs
variable {X:Cx ah}
abbrev PX(t:Bs):C:=.fn (.func 177) [] [.rp [.str t]]
def Ob(t:Bs):Ev X 147 [dS t] [] (.e (.one (.c (PX t)))) []:=by
 refine Ev.bQ Tryz.func147 rfl λa=>?_
 refine aX [] 5 rfl av ?_;refine AK.freeze 1 0 rfl rfl rfl ?_;refine bk rfl av (AK.bm rfl ?_);simp[ag]
def Hk{T:Type}(text:Bs)(r:b7 text=ab)(v:text.length<=4000000){l:Nat}{a:Fr}{j:Loop}(g B1 B2:T->aV)(R:Nat->T->Prop)(k:T)(u:R 0 k)(n:∀ t,g t≠.qS/\B1 t≠.qS/\B2 t≠.qS)
  (b:∀ f t,f<text.length->R f t->Yields (ι:={ d:T // R (cutAt text f) d }) X 3 [dI f,dI (cutAt text f)] [g t,B1 t,B2 t,.loop l a j] ab (λd=>[g d.1,B1 d.1,B2 d.1,.loop l a j])) :
  cK (ι:={ t:T // R text.length t }) X 177 [.e (.one (.ref 3)),.e (.one (.c (.rp [.str text])))] [g k,B1 k,B2 k,.loop l a j] (λ_=>.eJ []) (λi=>[g i.1,B1 i.1,B2 i.1,.loop l a j]):=by
 refine cK.mQ Tryz.func177 rfl rfl rfl (AK.of_code ?_);have m:bC X [(178,p0 aS aI (λs i=>dI (cutAt s i.toNat)) λs i=>[b7 s=ab,0<=i,i<=s.length,s.length<=4000000])]:=.cons RA .nil
 refine aD m [] 100 rfl av ?_;show AW X _ (.loop _) _ _ _;refine AW.loop (S:=T×Nat) (λx=>x.2<=text.length/\R x.2 x.1) (λx=>[(0,.e (.one (.ref 3))),(1,.e (.one (.c (.rp [.str text])))),(3,dI x.2)]) (λx=>[g x.1,B1 x.1,B2 x.1,.loop l a j]) (λx=>text.length-x.2) (k,0) ⟨gB _,u⟩ (dc rfl (by simp[ag,ag.cat])) rfl ?_
 rintro⟨t,f⟩ ⟨q,p⟩;simp only at q p;refine AK.of_code ?_
 by_cases h:f<text.length
 .have o:=nh text f h;refine aD m [(8,ab)] 100 rfl ?_ ?_
  .simp only[ag,r,ba,eq_self,aF,aC];omega
  refine AK.yield (b f t h p) rfl rfl rfl rfl rfl rfl λd=>?_
  refine aD m [(16,ae)] 100 rfl ?_ ?_
  .simp[ag]
  refine⟨(d.1,cutAt text f),⟨o.2.1,d.2⟩,?_,dc rfl (by simp[ag,ag.cat]),rfl⟩
  simp only;omega
 .have e:f=text.length:=by omega
  subst e;refine aD m [(8,ae)] 100 rfl ?_ ?_
  .simp[ag]
  refine AK.J2 rfl rfl ?_;exact⟨⟨t,p⟩,.inr rfl,rfl,lY (n t).1 (lY (n t).2.1 (lY (n t).2.2 rfl)),[],.eJ [],[],rfl,rfl,rfl,av⟩
def F0{l:List Bs}{i:Nat}(h:i<l.length):l.getD i []=l[i]:=by simp[ai,br h]
def Rs(a b:List Bs):Ev X 81 [cS.sl a,cS.sl b] [] (dB (a==b)) []:=by
 refine Ev.bQ Tryz.func81 rfl λm=>?_
 have k:=m.sl 0 rfl
 by_cases f:a.length=b.length
 .refine aX [(10,ae)] 100 rfl (by simp[ag,f]) ?_
  refine AK.jO (λi=>i<=a.length/\∀ j,j<i->a.getD j []=b.getD j []) (λi:Nat=>[(0,cS.sl a),(1,cS.sl b),(12,dI a.length),(13,dI i)]) (λ_=>[]) (λi=>a.length-i) 0 rfl ?_ rfl av ⟨by omega,by omega⟩ ?_
  .simp[ag.cat,ag,aP.same]
  rintro i ⟨hi,c⟩
  by_cases h:i<a.length
  .by_cases d:a.getD i []=b.getD i []
   .refine aX [(14,ab),(24,ae)] 100 rfl ?_ (AK.fU (i+1) rfl ?_ rfl av ?_ ?_)
    .simp only[ag,bz];have e:(a.getD i cS.bD==b.getD i cS.bD)=ab:=gi.2 d;exact⟨by simp only[bu];omega,by rw[e];rfl,by omega,by omega,by omega,by omega,cj (by omega)⟩
    .simp[ag.cat,ag,aP.same]
    .refine⟨by omega,λj g=>?_⟩
     rcases sJ.1 g with g|rfl
     .exact c j g
     .exact d
    .omega
   .refine aX [(14,ab),(24,ab)] 100 rfl ?_ (AK.gJ (b5.zero rfl ?_))
    .simp only[ag,bz];have e:(a.getD i cS.bD==b.getD i cS.bD)=ae:=dm.2 d;exact⟨by rw[e];rfl,by omega,by omega,by omega,by omega,cj (by omega)⟩
    .have:(a==b)=ae:=dm.2 (by rintro rfl;exact d rfl)
     simp[ag,this]
  .refine aX [(14,ae)] 100 rfl (by simp[ag];omega) (AK.leave rfl rfl ?_)
   refine bk rfl av (AK.bm rfl ?_);have:a=b:=pE f λj d l=>by rw[<-F0 d,<-F0 l];exact c j (by omega)
   simp[ag,this]
 .refine aX [(10,ab)] 100 rfl ?_ (AK.bm rfl ?_)
  .simp[ag];omega
  .have:(a==b)=ae:=dm.2 (by rintro rfl;exact f rfl)
   simp[ag,this]
def lJ:∀ (l:List UInt8)(c:UInt8),Lib.indexByte l c<l.length∨Lib.indexByte l c=-1
 |[],c=>.inr (by rw[Lib.indexByte.eq_def])
 |b::l,c=>by
  have e:=lJ l c;rw[Lib.indexByte.eq_def];simp only[eZ];split
  .left;omega
  .split
   .right;rfl
   .rename_i d a
    left
    simp at a;omega
set_option maxRecDepth 20000 in
theorem A0(s:Bs)(c:UInt8):Ev X 221 [dS s,dU c.toNat] [] (dI (Lib.indexByte s c)) []:=by
 refine Ev.bQ Tryz.func221 rfl λq=>?_
 have t:=q.str 0 rfl;refine bk rfl av ?_;refine AK.one (x:=dI (Lib.indexByte s c)) (σ':=[]) ?_ rfl ?_
 .refine OA.mb (λ_ _ _ _=>dq (by rfl)) ?_
  refine bF.nJ λst ρ y k=>?_
  have p:=fx (k (.tmp 5));have n:=fx (k (.tmp 6));generalize g:ρ (.tmp 5)=v1 at p;generalize j:ρ (.tmp 6)=v2 at n;cases p with
  |str e1 l1 =>
  cases n with
  |int l2 =>
  have h:ρ (.func 240)=.func (.func 240) #[] #[]:=by
   have:=fx (k (.func 240));generalize ρ (.func 240)=v at this;cases this with
   |fn fs cs a b r u c1 c2 d1 d2 =>
    have:fs=[]:=hX a;subst this;have:cs=[]:=hX b;subst this;rfl
  have f:(callFunc 240 #[.string ‹ByteArray›,.int .u8 c.toNat]).run ah st.w=.ok (.value (.int .i64 (Lib.indexByte s c))) st.w:=by
   rw[run_callFunc_extern Tryz.func240 (by kernel_rfl) (by kernel_rfl) (by kernel_rfl) (e:=Extern.BytealgIndexByte.indexByte) (by kernel_rfl),Lib.run_indexByteString]
   subst e1;simp
  have l:cN ah (Extern.BytealgIndexByte.indexByte #[.string ‹ByteArray›,.int .u8 c.toNat]):=by
   refine cN.bind (m:=Extern.Bytes.bytesOf (.string ‹ByteArray›)) (λ_ _=>rfl) λb=>cN.bind (m:=Extern.Bytes.asByte (.int .u8 c.toNat)) (λ_ _=>?_) λd=>?_
   .simp[Extern.Bytes.asByte]
   .skip
    split <;> exact .pure
  have i:=lR Tryz.func240 (by kernel_rfl) (by kernel_rfl) (by kernel_rfl) (e:=Extern.BytealgIndexByte.indexByte) (by kernel_rfl) _ l st.w #[]
  refine⟨.int .i64 (Lib.indexByte s c),?_,Rd.int ?_,?_⟩
  rotate_left 2
  .intro B o;simp[ay,resolve,Deferred.ofValue,invoke,g,j,h,i] at o;subst o;exact .inr ⟨_,rfl⟩
  .simp[ay,resolve,Deferred.ofValue,invoke,g,j,h,f]
  .have z:=Lib.indexByte_ge s c;have A:=lJ s c;simp only[bu];omega
 .refine bk rfl av (AK.bm rfl ?_);simp[ag]
end
end Go.AM.R1
namespace Go.AM
abbrev O1(a b:Bs)(c:Bool):D:=.eJ [.one (.c (.str a)),.one (.c (.str b)),.one (.c (.bool c))]
namespace R1
open Go.Proofs
variable {X:Cx ah}
def x0(s:Bs) (c:Int)(h:0<=c/\c<=255):Ev X 221 [dS s,dU c] [] (dI (Lib.indexByte s (UInt8.ofNat (Int.toNat c)))) []:=by
 have e:c=((UInt8.ofNat c.toNat).toNat:Int):=by
  grind [UInt8.toNat_ofNat']
 grind [A0]
def Sv:dh:=λargs σ=>match args,σ with
 |[.e (.one (.c (.str a))),.e (.one (.c (.int .u8 b)))],[]=>aa (dI (Lib.indexByte a (UInt8.ofNat (Int.toNat b))),[],[0<=b/\b<=255])
 |_,_=>af
def t221:dG X 221 Sv:=by
 intro args σ res σ' obs h a;unfold Sv at h;split at h
 .cases h;exact(x0 _ _ (a)).args (λ_ _ r=>r)
 grind
def Vi:List (Nat×dh):=(221,Sv)::ct7
def Me:bC X Vi:=bC.cons t221 (YW)
def iy(s:Bs):Int:=Lib.indexByte s 47
theorem Mf(s:Bs):Ev X 196 [dS s,dS [47]] [] (dI (iy s)) []:=by
 refine Ev.bQ Tryz.func196 rfl λa=>?_
 by_cases h:s=[47]
 .subst h;refine aD Me [(18,ae),(22,ab)] 100 rfl ?_ (AK.bm rfl ?_)
  .simp[ag]
  .simp[ag,iy,Lib.indexByte.eq_def]
 .refine aD Me [(18,ae),(22,ae),(26,ab)] 100 rfl ?_ (AK.bm rfl ?_)
  .simp[ag,cy,cz];grind
  .simp[ag,iy,iR]
def Sw:dh:=λargs σ=>match args,σ with
 |[.e (.one (.c (.str a))),.e (.one (.c (.str [47])))],[]=>aa (dI (iy a),[],[])
 |_,_=>af
def t196:dG X 196 Sw:=by
 intro args σ res σ' obs h a;unfold Sw at h
 grind [Mf]
def Vj:List (Nat×dh):=(196,Sw)::Vi
def Mg:bC X Vj:=bC.cons t196 (Me)
def jw(s:Bs):Bs:=if 0<=iy s then s.take (iy s).toNat else s
def mE(s:Bs):Bs:=if 0<=iy s then s.drop ((iy s).toNat+1) else []
def j0(s:Bs):Bool:=decide (0<=iy s)
theorem Mh(s:Bs):Ev X 179 [dS s,dS [47]] [] (O1 (jw s) (mE s) (j0 s)) []:=by
 refine Ev.bQ Tryz.func179 rfl λb=>?_
 have d:=b.str 0 rfl;have a:=lJ s 47
 change iy s<s.length∨iy s=-1 at a
 by_cases h:0<=iy s
 .have c:(iy s+1).toNat=(iy s).toNat+1:=by omega
  refine aD Mg [(12,ab)] 100 rfl ?_ (AK.bm rfl ?_)
  .simp[ag,h,bu];omega
  .simp[ag,ag.cat,jw,mE,j0,h,rO,c]
 .refine aD Mg [(12,ae)] 100 rfl ?_ (AK.bm rfl ?_)
  .simp[ag];omega
  .simp[ag,ag.cat,jw,mE,j0,h]
def Sx:dh:=λargs σ=>match args,σ with
 |[.e (.one (.c (.str a))),.e (.one (.c (.str [47])))],[]=>aa (O1 (jw a) (mE a) (j0 a),[],[])
 |_,_=>af
def t179:dG X 179 Sx:=by
 intro args σ res σ' obs h a;unfold Sx at h
 grind [Mh]
def Vk:List (Nat×dh):=(179,Sx)::Vj
def Qd:bC X Vk:=bC.cons t179 (Mg)
theorem Sy(s:Bs):Ev X 148 [dS s,dS [47]] [] (O1 (jw s) (mE s) (j0 s)) []:=by
 refine Ev.bQ Tryz.func148 rfl λa=>?_
 refine aD Qd [] 100 rfl av (AK.bm rfl ?_);simp[ag,ag.cat]
def Sz:dh:=λargs σ=>match args,σ with
 |[.e (.one (.c (.str a))),.e (.one (.c (.str [47])))],[]=>aa (O1 (jw a) (mE a) (j0 a),[],[])
 |_,_=>af
def t148:dG X 148 Sz:=by
 intro args σ res σ' obs h a;unfold Sz at h
 grind [Sy]
def cu(s:Bs):Bool:=decide (s.length=1)&&decide (97<=cz s 0)&&decide (cz s 0<=101)
theorem uG(s:Bs):Ev X 149 [dS s] [] (dB (cu s)) []:=by
 refine Ev.bQ Tryz.func149 rfl λc=>?_
 by_cases a:s.length=1
 .by_cases b:97<=cz s 0
  .refine aX [(5,ab),(9,ab)] 100 rfl ?_ (AK.bm rfl ?_)
   .simp only[ag,ba];grind [cy]
   .show decide (cz s 0<=101)=cu s;simp[cu,a,b]
  .refine aX [(5,ab),(9,ae)] 100 rfl ?_ (AK.bm rfl ?_)
   .simp only[ag,bJ];grind [cy]
   .simp[ag,cu,b]
 .refine aX [(5,ae)] 100 rfl ?_ (AK.bm rfl ?_)
  .simp[ag];omega
  .simp[ag,cu,a]
def SA:dh:=λargs σ=>match args,σ with
 |[.e (.one (.c (.str a)))],[]=>aa (dB (cu a),[],[])
 |_,_=>af
def t149:dG X 149 SA:=by
 intro args σ res σ' obs h a;unfold SA at h
 grind [uG]
def Vl:List (Nat×dh):=(148,Sz)::(149,SA)::Vk
def Gs:bC X Vl:=bC.cons t148 (bC.cons t149 (Qd))
def eT(s:Bs):Bool:=cu (jw s)&&(!j0 s||cu (mE s))
theorem E3(s:Bs):Ev X 83 [dS s] [] (dB (eT s)) []:=by
 refine Ev.bQ Tryz.func83 rfl λc=>?_
 cases a:cu (jw s) with
 |false =>
  refine aD Gs [(13,ae)] 100 rfl ?_ (AK.bm rfl ?_)
  .simp[ag,a]
  .simp[ag,eT,a]
 |true =>
  cases b:j0 s with
  |false =>
   refine aD Gs [(13,ab),(15,ae)] 100 rfl ?_ (AK.bm rfl ?_)
   .simp[ag,a,b]
   .simp[ag,eT,a,b]
  |true =>
   refine aD Gs [(13,ab),(15,ab)] 100 rfl ?_ (AK.bm rfl ?_)
   .simp[ag,a,b]
   .simp[ag,eT,a,b]
def YX:dh:=λargs σ=>match args,σ with
 |[.e (.one (.c (.str a)))],[]=>aa (dB (eT a),[],[])
 |_,_=>af
def t83:dG X 83 YX:=by
 intro args σ res σ' obs h a;unfold YX at h
 grind [E3]
theorem C0(s:Bs):Ev X 146 [dS s] [] (dB (b7 s)) []:=by
 refine Ev.bQ Tryz.func146 rfl λe=>?_
 have g:=e.str 0 rfl;refine bk rfl av ?_;refine AK.jO (λi=>i<=s.length/\∀ j,j<i->eG (s.getD j 0)=ab) (λi:Nat=>[(0,dS s),(5,dI s.length),(6,dI i)]) (λ_=>[]) (λi=>s.length-i) 0 rfl ?_ rfl av ⟨by omega,by omega⟩ ?_
 .simp[ag.cat,ag]
 rintro i ⟨hi,c⟩
 by_cases h:i<s.length
 .generalize a:s.getD i 0=b
  by_cases k:b.toNat<97
  .refine aX [(7,ab),(12,ab)] 100 rfl ?_ (AK.gJ (b5.zero rfl ?_))
   .simp only[ag,kr,ba,a];omega
   .rw[ag,kD h (by rw[a];simp only[eG,qY,bJ];omega)]
  .by_cases f:b.toNat>122
   .refine aX [(7,ab),(12,ae),(17,ab)] 100 rfl ?_ (AK.gJ (b5.zero rfl ?_))
    .simp only[ag,kr,ba,bJ,a];omega
    .rw[ag,kD h (by rw[a];simp only[eG,qY,bJ];omega)]
   .refine aX [(7,ab),(12,ae),(17,ae)] 100 rfl ?_ (AK.fU (i+1) rfl ?_ rfl av ?_ ?_)
    .simp only[ag,kr,ba,bJ,a,bu];omega
    .simp[ag.cat,ag]
    .refine⟨by omega,λj d=>?_⟩
     rcases sJ.1 d with d|rfl
     .grind
     .rw[a];simp only[eG,bL,ba];omega
    .omega
 .refine aX [(7,ae)] 100 rfl (by simp[ag];omega) (AK.leave rfl rfl ?_)
  refine bk rfl av (AK.bm rfl ?_);rw[ag,sA (λj d=>c j (by omega))]
def SB:dh:=λargs σ=>match args,σ with
 |[.e (.one (.c (.str a)))],[]=>aa (dB (b7 a),[],[])
 |_,_=>af
def t146:dG X 146 SB:=by
 intro args σ res σ' obs h a;unfold SB at h
 grind [C0]
def Vm:List (Nat×dh):=(83,YX)::(146,SB)::Vl
def Mi:bC X Vm:=bC.cons t83 (bC.cons t146 (Gs))
theorem wE(s:Bs):Ev X 80 [dS s] [] (dB (dX s)) []:=by
 refine Ev.bQ Tryz.func80 rfl λb=>?_
 by_cases a:s.length<=40
 .refine aD Mi [(5,ab)] 100 rfl ?_ (AK.bm rfl ?_)
  .simp[ag];omega
  .simp[ag,dX,a]
 .refine aD Mi [(5,ae)] 100 rfl ?_ (AK.bm rfl ?_)
  .simp[ag];omega
  .simp[ag,dX,a]
def YY:dh:=λargs σ=>match args,σ with
 |[.e (.one (.c (.str a)))],[]=>aa (dB (dX a),[],[])
 |_,_=>af
def t80:dG X 80 YY:=by
 intro args σ res σ' obs h a;unfold YY at h
 grind [wE]
def lj(s p:Bs):Bool:=decide (p.length<=s.length)&&(s.take p.length==p)
theorem C1(s p:Bs):Ev X 151 [dS s,dS p] [] (dB (lj s p)) []:=by
 refine Ev.bQ Tryz.func151 rfl λb=>?_
 by_cases a:p.length<=s.length
 .refine aX [(9,ab)] 100 rfl ?_ (AK.bm rfl ?_)
  .simp[ag,a]
  .simp[ag,lj,a,rO]
 .refine aX [(9,ae)] 100 rfl ?_ (AK.bm rfl ?_)
  .simp[ag];omega
  .simp[ag,lj,a]
def SC:dh:=λargs σ=>match args,σ with
 |[.e (.one (.c (.str a))),.e (.one (.c (.str b)))],[]=>aa (dB (lj a b),[],[])
 |_,_=>af
def t151:dG X 151 SC:=by
 intro args σ res σ' obs h a;unfold SC at h
 grind [C1]
def Vn:List (Nat×dh):=(80,YY)::(151,SC)::Vm
def Qe:bC X Vn:=bC.cons t80 (bC.cons t151 (Mi))
theorem Ip(s p:Bs):Ev X 86 [dS s,dS p] [] (dB (lj s p)) []:=by
 refine Ev.bQ Tryz.func86 rfl λa=>?_
 refine aD Qe [] 100 rfl av (AK.bm rfl ?_);simp[ag]
def YZ:dh:=λargs σ=>match args,σ with
 |[.e (.one (.c (.str a))),.e (.one (.c (.str b)))],[]=>aa (dB (lj a b),[],[])
 |_,_=>af
def t86:dG X 86 YZ:=by
 intro args σ res σ' obs h a;unfold YZ at h
 grind [Ip]
def Vo:List (Nat×dh):=(86,YZ)::Vn
def Qg:bC X Vo:=bC.cons t86 (Qe)
end R1
def hU.Mj{α:Type}(c:hU α)(l:List α)(k n:Nat)(h:k+n<=l.length):c.list n (jK k (c.fn l))=(l.drop k).take n:=by
 apply pE
 .simp[hU.list];omega
 .intro i h1 h2;have hi:i<n:=by grind
  simp[hU.list,jK,hU.fn,sH,ai,br (by omega:k+i<l.length),c.inv]
def hU.Mk{α:Type}(c:hU α)(l:List α){k n:Nat}:c.fits n (jK k (c.fn l)):=λi _=>by simp[jK,hU.fn,sH,c.inv]
abbrev dR(p x:Bs):D:=.e (.one (.c (.rp [.str p,.str x])))
namespace R1
open Go.Proofs
variable {X:Cx ah}
def under(p q:Bs):Bool:=lj p (q++[47])
def Ml(a:bA)(p x:Bs)(h:a.1.length<=4000000):Ev X 85 [dP a,dR p x] [] (dB (under p a.1)) []:=by
 refine Ev.bQ Tryz.func85 rfl λb=>?_
 refine aD Qg [] 100 rfl ?_ (AK.bm rfl ?_)
 .simp[ag];omega
 .simp[ag,under]
def Y0:dh:=λargs σ=>match args,σ with
 |[.e (.agg [.c (.str a0),.c (.str a1)]),.e (.one (.c (.rp [.str p,.str x])))],[]=>aa (dB (under p a0),[],[a0.length<=4000000/\a1=a1/\x=x])
 |_,_=>af
def t85:dG X 85 Y0:=by
 intro args σ res σ' obs h a;unfold Y0 at h;split at h
 .rename_i b c p x
  cases h;exact Ml (b,c) p x a.1
 grind
def Vp:List (Nat×dh):=(85,Y0)::Vo
def y5:bC X Vp:=bC.cons t85 (Qg)
abbrev Mm(p x:Bs):D:=.e (.one (.c (.fn (.func 85) [] [.rp [.str p,.str x]])))
def uH(t:List bA)(p:Bs):Int:=match t.findIdx? (λf=>under p f.1) with|some i=>i|none=>-1
def O2{t:List bA}{p:Bs}{i:Nat}(hi:i<t.length)(h:under p (fy t i)=ab)(a:∀ j,j<i->under p (fy t j)=ae):uH t p=i:=by
 have:t.findIdx? (λf=>under p f.1)=aa i:=by
  grind [List.findIdx?_eq_some_iff_getElem,fileAt]
 rw[uH,this]
theorem y6{t:List bA}{p:Bs}(a:∀ j,j<t.length->under p (fy t j)=ae):uH t p=-1:=by
 have:t.findIdx? (λf=>under p f.1)=af:=by
  grind [List.getElem_of_mem,fileAt]
 rw[uH,this]
def O3(t:List bA)(p x:Bs)(d:∀ j,j<t.length->(fy t j).length<=4000000):Ev X 150 [cF.sl t,Mm p x] [] (dI (uH t p)) []:=by
 refine Ev.bQ Tryz.func150 rfl λe=>?_
 have c:=e.sl 0 rfl;refine aD y5 [] 100 rfl av ?_;refine AK.jO (λi=>i<=t.length/\∀ j,j<i->under p (fy t j)=ae) (λi:Nat=>[(0,cF.sl t),(1,Mm p x),(7,dI t.length),(8,dI i)]) (λ_=>[]) (λi=>t.length-i) 0 rfl ?_ rfl av ⟨by omega,by omega⟩ ?_
 .simp[ag.cat,ag,aP.same]
 rintro i ⟨hi,a⟩
 by_cases h:i<t.length
 .have f:=d i h;cases b:under p (fy t i) with
  |true =>
   refine aD y5 [(9,ab),(16,ab)] 100 rfl ?_ (AK.gJ (b5.zero rfl ?_))
   .simp[-ai,ag,h,gY,b];omega
   .simp[ag,O2 h b a]
  |false =>
   refine aD y5 [(9,ab),(16,ae)] 100 rfl ?_ (AK.fU (i+1) rfl ?_ rfl av ?_ ?_)
   .simp[-ai,ag,h,gY,b,bu];omega
   .simp[ag.cat,ag,aP.same]
   .grind
   .omega
 .refine aD y5 [(9,ae)] 100 rfl (by simp[ag];omega) (AK.leave rfl rfl ?_)
  refine aD y5 [] 100 rfl av (AK.bm rfl ?_);simp[ag,y6 (λj g=>a j (by omega))]
def A1(t:List bA):Prop:=∀ j,j<t.length->(fy t j).length<=4000000
def SD:dh:=λargs σ=>match args,σ with
 |[d,.e (.one (.c (.fn (.func 85) [] [.rp [.str p,.str x]])))],[]=>match kO 2 d with
  |none=>af
  |some (n,es)=>aa (dI (uH (cF.list n es) p),[],[cF.fits n es,A1 (cF.list n es),x=x])
 |_,_=>af
def t150:dG X 150 SD:=by
 intro args σ res σ' obs h a;unfold SD at h;split at h
 .rename_i d p x
  split at h
  .cases h
  rename_i n es hd
  cases h;exact(O3 _ p x a.2.1).args (λ_ vs=>cw.imp (λ_=>cF.jR hd a.1) (cw.imp (λ_ r=>r) (λ_ r=>r)) vs)
 grind
def Vq:List (Nat×dh):=(150,SD)::Vp
def Qh:bC X Vq:=bC.cons t150 (y5)
def O4(t:List bA)(p x:Bs)(a:A1 t):Ev X 84 [cF.sl t,Mm p x] [] (dB (decide (0<=uH t p))) []:=by
 refine Ev.bQ Tryz.func84 rfl λb=>?_
 refine aD Qh [] 100 rfl ?_ (AK.bm rfl ?_)
 .simp[ag,cF.aH,cF.list_fn,a]
 .simp[ag,cF.list_fn]
def Y1:dh:=λargs σ=>match args,σ with
 |[d,.e (.one (.c (.fn (.func 85) [] [.rp [.str p,.str x]])))],[]=>match kO 2 d with
  |none=>af
  |some (n,es)=>aa (dB (decide (0<=uH (cF.list n es) p)),[],[cF.fits n es,A1 (cF.list n es),x=x])
 |_,_=>af
def t84:dG X 84 Y1:=by
 intro args σ res σ' obs h a;unfold Y1 at h;split at h
 .rename_i d p x
  split at h
  .cases h
  rename_i n es hd
  cases h;exact(O4 _ p x a.2.1).args (λ_ vs=>cw.imp (λ_=>cF.jR hd a.1) (cw.imp (λ_ r=>r) (λ_ r=>r)) vs)
 grind
def Y2:List (Nat×dh):=(84,Y1)::Vq
def qp:bC X Y2:=bC.cons t84 (Qh)
def jg(t:List bA)(i:Nat):Bool :=
 eT (fy t i)&&dX (AB t i)&&(i==0||!(bl (fy t i) (fy t (i-1))||fy t i==fy t (i-1)))&&(bh i).all λj=>!under (fy t i) (fy t j)
def n6(t:List bA):Bool:=(bh t.length).all (jg t)&&decide (t.length<=6)
def kE{t:List bA}{i:Nat}(hi:i<t.length)(h:jg t i=ae):n6 t=ae:=by
 cases a:n6 t with
 |false=>rfl
 |true =>
  simp only[n6,bL] at a
  grind
theorem ua{s:Bs}(h:eT s=ab):s.length<=3:=by
 simp only[eT,cu,bL,mK,ba,ji] at h;obtain⟨⟨⟨d,_⟩,_⟩,a⟩:=h;have c:=lJ s 47
 change iy s<s.length∨iy s=-1 at c
 by_cases b:0<=iy s
 .simp only[jw,b,cq,List.length_take] at d;rcases a with a|a
  .simp[j0,b] at a
  .have:=a.1.1;simp only[mE,b,cq,oJ] at this;omega
 .simp only[jw,b,b9] at d;omega
def E4{t:List bA}{p:Bs}{i:Nat}(hi:i<=t.length):decide (0<=uH (t.take i) p)=!(bh i).all λj=>!under p (fy t j):=by
 have e:∀ j,j<i->fy (t.take i) j=fy t j:=by
  intro j d;simp[fy,ai,d]
 cases g:(bh i).all λj=>!under p (fy t j) with
 |true =>
  grind [y6]
 |false =>
  have a:∃ j,j<i/\under p (fy t j)=ab:=by
   grind
  have:∃ k:Nat,uH (t.take i) p=k:=by
   unfold uH;cases c:(t.take i).findIdx? (λf=>under p f.1) with
   |some k=>grind
   |none =>
    obtain⟨j,d,h⟩:=a;rw[qU] at c;have b:j<(t.take i).length:=by grind
    have:=c _ (oK b)
    grind [fileAt]
  grind
def El(t:List bA):Ev X 45 [cF.sl t] [] (dB (n6 t)) []:=by
 refine Ev.bQ Tryz.func45 rfl λw=>?_
 have q:=w.sl 0 rfl;refine aD qp [] 100 rfl av ?_;refine AK.bO 0 (λi=>i<=t.length/\∀ j,j<i->jg t j=ab) (λi:Nat=>[(0,cF.sl t),(5,cF.sl t),(6,dI t.length),(7,dI i)]) (λ_=>[]) (λi=>t.length-i) 0 rfl ?_ rfl av rfl ⟨by omega,by omega⟩ ?_
 .simp[ag.cat,ag,aP.same]
 rintro i ⟨hi,k⟩
 by_cases h:i<t.length
 .cases d:eT (fy t i) with
  |false =>
   refine aD qp [(8,ab),(14,ae)] 200 rfl ?_ (AK.ei (b5.zero rfl ?_))
   .simp[-ai,ag,h,gY,d]
   .simp[ag,kE h (by simp[jg,d])]
  |true =>
   cases f:dX (AB t i) with
   |false =>
    refine aD qp [(8,ab),(14,ab),(19,ae)] 200 rfl ?_ (AK.ei (b5.zero rfl ?_))
    .simp[-ai,ag,h,gY,pt,d,f]
    .simp[ag,kE h (by simp[jg,f])]
   |true =>
    have y:A1 (t.take i):=by
     intro j z;simp only[List.length_take] at z;have e:fy (t.take i) j=fy t j:=by simp[fy,ai,(by omega:j<i)]
     rw[e];have:=k j (by omega)
     simp only[jg,bL] at this
     grind [ua]
    have x:cF.list ((i:Int).toNat-0) (jK 0 (cF.fn t))=t.take i:=by rw[cF.Mj t 0 _ (by grind)];simp
    cases s:(i==0||!(bl (fy t i) (fy t (i-1))||fy t i==fy t (i-1))) with
    |false =>
     have a:jg t i=ae:=by simp only[jg,s];simp
     have o:i≠0:=by grind
     have m:(bl (fy t i) (fy t (i-1))||fy t i==fy t (i-1))=ab:=by
      grind
     have b:bu .i64 ((i:Int)-1):=by simp only[bu];omega
     have n:((i:Int)-1).toNat=i-1:=by omega
     refine aD qp [(8,ab),(14,ab),(19,ab),(24,ab),(34,ab)] 200 rfl ?_ (AK.ei (b5.zero rfl ?_))
     .simp only[ag,gY,pt,bz,n,m,d,f,ba,b];grind
     .simp[ag,kE h a]
    |true =>
     have a:jg t i=(bh i).all λj=>!under (fy t i) (fy t j):=by simp only[jg,s,d,f];simp
     apply AK.join [(0,cF.sl t),(3,dI i),(5,cF.sl t),(6,dI t.length),(7,dI i),(4,.e (.one (.ptr 0 0)))] [.cells 60 [.c (.str (fy t i)),.c (.str (AB t i))]]
     .intro u
      by_cases o:i=0
      .refine aD qp [(8,ab),(14,ab),(19,ab),(24,ae),(1000006,ab)] 200 rfl ?_ (u _ _ rfl ?_)
       .simp only[ag,gY,pt,bz,d,f,ba,bJ];grind
       .simp[ag.cat,ag,aP.same]
      .have m:(bl (fy t i) (fy t (i-1))||fy t i==fy t (i-1))=ae:=by
        grind
       have b:bu .i64 ((i:Int)-1):=by simp only[bu];omega
       have n:((i:Int)-1).toNat=i-1:=by omega
       refine aD qp [(8,ab),(14,ab),(19,ab),(24,ab),(34,ae),(1000006,ab)] 200 rfl ?_ (u _ _ rfl ?_)
       .simp only[ag,gY,pt,bz,n,m,d,f,ba,b];grind
       .simp[ag.cat,ag,aP.same]
     .refine AK.freeze 4 0 rfl rfl rfl ?_;have r:=E4 (t:=t) (p:=fy t i) (i:=i) hi;have g:cF.fits ((i:Int).toNat-0) (jK 0 (cF.fn t)):=cF.Mk t;cases v:(bh i).all λj=>!under (fy t i) (fy t j) with
      |false =>
       rw[v] at r a;refine aD qp [(41,ab)] 200 rfl ?_ (AK.ei (b5.zero rfl ?_))
       .simp only[ag,cr]
        grind
       .simp[ag,kE h a]
      |true =>
       rw[v] at r a;refine aD qp [(41,ae)] 200 rfl ?_ (AK.aQ (i+1) rfl ?_ ?_ ?_ ?_)
       .simp only[ag,cr];have l:decide (0<=uH (cF.list ((i:Int).toNat-0) (jK 0 (cF.fn t))) (fy t i))=ae:=by grind
        exact⟨by simp only[bu];omega,g,by grind,av,l,by omega,by omega⟩
       .simp[ag.cat,ag,aP.same]
       .trivial
       .grind
       .omega
 .have:i=t.length:=by omega
  subst this;refine aD qp [(8,ae)] 100 rfl (by simp[ag]) (AK.leaveD rfl rfl ?_)
  refine aD qp [] 100 rfl av (AK.bm rfl ?_);simp only[ag,n6]
  grind
end R1
end Go.AM
namespace Go.AM.R1
section
open Go.Proofs
variable {X:Cx ah}
def lE(t:Bs):List Bs:=if dX t then pieces t else []
def PY(t:Bs)(f:Nat)(acc:List Bs):Prop:=∃ k,ff t t.length 0=acc++ff t k f/\t.length<=f+k/\acc.length<=f
def F2:dG X 80 (jX aS (λs=>dB (dX s)) λ_=>[]):=.oi λs _=>wE s
def KI:dh:=λargs σ=>match args,σ with
 |[.e (.one (.c (.str t)))],[]=>aa (.e (.one (.c (PX t))),[],[])
 |_,_=>af
def RB:dG X 147 KI:=by
 intro args σ res σ' obs h a;unfold KI at h;split at h
 .cases h;exact Ob _
 .cases h
def Hl(t:Bs):Ev X 82 [dS t] [] (cS.sl (lE t)) []:=by
 refine(cK.zV (ι:=Unit) (σ':=λ_=>[]) (res:=λ_=>cS.sl (lE t)) Tryz.func82 rfl rfl rfl λv=>?_).uv
 have l:bC X [(80,jX aS (λs=>dB (dX s)) λ_=>[])]:=.cons F2 .nil
 refine ny.seq (AW.top (AK.of_code ?_));refine aD l [] 100 rfl av ?_;refine ny.seq (AW.top (AK.of_code ?_));cases h:dX t with
 |false =>
  refine aD l [(8,ab)] 100 rfl ?_ (AK.ret ⟨(),b5.zero rfl ?_⟩)
  .simp[ag,h]
  .simp[ag,ag.cat,lE,h]
 |true =>
  have b:=h;simp only[dX,bL,ba] at b;refine aD l [(8,ae)] 100 rfl ?_ ?_
  .simp[ag,h]
  refine ny.seq (AW.top (AK.of_code ?_));refine aD l [] 100 rfl av ?_;refine ny.seq (ny.seq (AW.top (AK.of_code (AK.gj 1 0 9 1 (cS.fn []) rfl rfl ?_))));refine aD (.cons RB .nil) [] 100 rfl av ?_;refine ny.block ?_;refine ny.rangeFunc (capD:=fW [.rp [.str t]]) (cv.callee rfl) (Hk (T:=List Bs) t b.2 (by omega) (λ_=>.cells 9 [.c (.str t)]) (λacc=>.cells 93 [.vec 2 1 acc.length (cS.fn acc)]) (λacc=>.vec 9 1 acc.length (cS.fn acc)) (PY t) [] ?_ (λt=>⟨by simp,by simp,by simp⟩) ?_) (λi=>⟨rfl,by simp⟩) λi=>⟨.normal,rfl,?_⟩
  .exact⟨t.length,by simp,by omega,by simp⟩
  .rintro f acc hf hR;have g:=nh t f hf;refine Yields.intro (j:=af) rfl rfl rfl rfl (AK.of_code ?_);refine bk rfl av ?_;refine⟨rfl,rfl,AK.of_code ?_⟩;refine bk rfl ?_ ?_
   .obtain⟨k,_,_,p⟩:=hR;have q:=g.1;have u:=g.2.1;refine⟨rfl,rfl,?_,Int.natCast_nonneg _,Int.ofNat_le.2 (Nat.le_of_lt q),Int.ofNat_le.2 u⟩;show (acc.length+1)*16<=_;omega
   have n:PY t (cutAt t f) (acc++[(t.drop f).take (cutAt t f-f)]):=by
    obtain⟨k,m,r,p⟩:=hR;obtain⟨k',rfl⟩:∃ k',k=k'+1:=⟨k-1,by omega⟩
    refine⟨k',?_,by omega,by grind⟩
    rw[m];simp only[ff];rw[bc hf];simp
   refine⟨rfl,rfl,⟨_,n⟩,lD rfl ?_⟩;have e:rO t (aa (f:Int)) (aa (cutAt t f:Int))=(t.drop f).take (cutAt t f-f):=by simp[rO,List.drop_take]
   have o:aP (acc.length+1) (cO acc.length (cS.fn acc) λi=>[[C.str (rO t (aa (f:Int)) (aa (cutAt t f:Int)))]].getD i []) (cS.fn (acc++[(t.drop f).take (cutAt t f-f)])):=by
    rw[e];exact hU.cn cS acc _
   have a:acc.length+1=(acc++[(t.drop f).take (cutAt t f-f)]).length:=by simp
   refine ag.cat.2 ⟨by simp[ag,ag.cat],ag.cat.2 ⟨ag.cat.2 ⟨⟨a,o⟩,av⟩,ag.cat.2 ⟨⟨a,o⟩,ag.cat.2 ⟨rfl,av⟩⟩⟩⟩
  .obtain⟨acc,k,m,r,p⟩:=i;have d:ff t k t.length=[]:=by cases k <;> simp[ff]
   rw[d,k6] at m;have e:lE t=acc:=by simp only[lE,h,cq,pieces,m]
   rw[e];show ny X _ _ _ _ _;refine AW.top (AK.of_code ?_);refine bk rfl av ?_;refine AK.ret ⟨(),b5.zero rfl ?_⟩;exact⟨rfl,aP.same⟩
def Oc:dG X 82 (jX aS (λs=>cS.sl (lE s)) λ_=>[]):=.oi λs _=>Hl s
def Uw:dG X 79 (p0 (aL cS) aS (λl _=>dS l.flatten) λl s=>[s=[],l.flatten.length<=140737488355328]):=.tb λl s h=>by
 obtain⟨rfl,h⟩:=h;exact N4 l h
def Od:dh:=p0 (aL cS) (aL cS) (λa b=>dB (a==b)) λ_ _=>[]
def XS:dG X 81 Od:=.tb λa b _=>Rs a b
def Ej(l:List Bs)(h:l.flatten.length<=140737488355328):Ev X 44 [cS.sl l] [] (Ag (fO l)) []:=by
 refine Ev.bQ Tryz.func44 rfl λd=>?_
 have c:bC X [(79,p0 (aL cS) aS (λl _=>dS l.flatten) λl s=>[s=[],l.flatten.length<=140737488355328]),(80,jX aS (λs=>dB (dX s)) λ_=>[]),(81,Od),(82,jX aS (λs=>cS.sl (lE s)) λ_=>[])]:=.cons Uw (.cons F2 (.cons XS (.cons Oc .nil)))
 have el:cS.list l.length (cS.fn l)=l:=cS.list_fn l;cases a:dX l.flatten with
 |false =>
  refine aD c [(8,ae),(9,ab),(16,ab)] 100 rfl ?_ (AK.bm rfl ?_)
  .simp only[ag,el,a,cS.aH,eq_self,aF,aC];simp[h,-List.length_flatten]
  .simp[ag,ag.cat,fO,a]
 |true =>
  cases b:(pieces l.flatten==l) with
  |false =>
   refine aD c [(8,ab),(9,ae),(14,ae),(16,ab)] 100 rfl ?_ (AK.bm rfl ?_)
   .simp only[ag,el,cS.list_fn,a,cS.aH];simp[h,lE,a,b,-List.length_flatten]
   .simp[ag,ag.cat,fO,b]
  |true =>
   refine aD c [(8,ab),(9,ae),(14,ab),(16,ae)] 100 rfl ?_ (AK.bm rfl ?_)
   .simp only[ag,el,cS.list_fn,a,cS.aH];simp[h,lE,a,b,-List.length_flatten]
   .simp[ag,ag.cat,fO,a,b,el]
end
section
open Go.Proofs Go.Conc Go.Conc.Lib Go.ConcR.Gen
open Go.ConcN (WgLive PayAt Has RW AtR0)
open Go.ConcN.Gen
open Go.ConcR (KK WgAt stA smA rd wr mk Payload DC0)
def KN:KJ=#[{ dst:=af,op:=.defer { callee:=.value (.func 76),args:=#[.tmp 0],argTypes:=#[139] },type:=0,pos:= "l12_snap.go:81",after:=#[],guard:=af }]:=by kernel_rfl
def bW(a:ak):aR:={ baseD 75 with defers:=[dcall 76 #[a]] }
abbrev tW(v0 v1 v2 v3 v4 v5:ak):Array ak:=#[v0,v1,v2,v3,v4,v5,aj,aj,aj,aj,aj,aj,aj]
def RD(v0 v1 v2 v3 v4 v5:ak)(w:az):Goes ah ae (λ_ _=>True) DC0 (λg _=>g=G ((bW v0).aT ⟨tW v0 v1 v2 v3 v4 v5,[]⟩ [.code (.region 1 KL ab)]) [uB]) 8 (born ah (wF #[v0,v1,v2,v3,v4,v5])) w:=by
 have a:True:=av;have b:True->True->True:=λ_ _=>trivial
 refine Goes.step rfl (λw1 h1=>?_)
 rw[Ho];simp only[goes_go];refine⟨⟨rfl,rfl⟩,?_⟩;clear h1;rw[KN]
 u_c aE b a
 u_reg b a
 u_defer b a
 u_c aA b a
 exact Goes.stop λ_ _=>rfl
def XT(T:Array ak):QuitsD ah 2 0 (G { (baseD 75).at ⟨T,[]⟩ [] with mode:=.returning } [uB]):=by
 have a:Tryz.f75.results=#[]:=by kernel_rfl
 refine QuitsD.ctl (g':=G uB []) rfl (λw=>?_) ?_
 .simp[G,aK,unwind,doReturn,results,Frame.at,baseD,uB,Tryz.func75,a,seen,GStep.after,goexitEntry]
 refine QuitsD.ctl (g':={ G uB [] with status:=.finished }) rfl (λw=>?_) ⟨rfl,rfl⟩
 simp[G,aK,unwind,uB,goexitEntry,Frame.catches];rfl
section
variable {Y:Lay}{n:Nat}{val:Nat->Nat->ak}
def tailW(x:Nat)(d:Y.kc=2)(T:Array ak)(w:az)(a:WgLive 139 Y.Wg w/\Has Y.C (Y.kc*x+1-1) (val x 0) w) :
  ∃ m,Goes ah ae (RW 139 Y.Wg Y.C (2*n) 0 (Y.kc*x+1-1)) DC0 (AtR0 ah 139 Y.Wg Y.C (2*n) 0 (Y.kc*x+1) (val x 0)) m (G ((bW (.pointer (aa ⟨Y.Wg,0,af⟩))).aT ⟨T,[]⟩ [.inRegion uA.toArray []]) [uB]) w:=by
 refine⟨26,?_⟩;have e:(bW (.pointer (aa ⟨Y.Wg,0,af⟩))).aT ⟨T,[]⟩ [.inRegion uA.toArray []]=(baseD 75).at ⟨T,[dcall 76 #[.pointer (aa ⟨Y.Wg,0,af⟩)]]⟩ [.inRegion uA.toArray []]:=rfl;rw[e]
 u_c aA kn_rely a
 u_c stepG_end kn_rely a
 u_in kn_rely a
 rw[stepG_unwind_enter (c:=body_done PZ) rfl Cf.f_done (by kernel_rfl) (by kernel_rfl)]
 simp only[goes_go];refine⟨by u_nil,?_⟩
 have b:=Uz (P:=ah) (L:=PZ) (Wg:=Y.Wg) (C:=Y.C) (n:=2*n) (Low:=0) (x:=Y.kc*x+1) (val:=val x 0) (c:={ (baseD 75).at ⟨T,[]⟩ [] with mode:=.returning }) (cs:=[uB]) Cf rfl (XT T) _ a;exact b
def rd_str{M:Mem}{v:ak}{l:Bs}(h:Rd M v (.str l)):v=.string ⟨l.toArray⟩:=by
 cases h with
 |str h1 h2=>rw[<-h1]
def rd_bool{M:Mem}{v:ak}{b:Bool}(h:Rd M v (.bool b)):v=.bool b:=by cases h;rfl
def S7:aw:=oW af (.store 142 (.tmp 12) (.tmp 11)) 0 #[⟨6,.data⟩,⟨5,.data⟩,⟨5,.chain⟩,⟨0,.phase⟩,⟨1,.phase⟩,⟨2,.phase⟩,⟨3,.phase⟩,⟨4,.phase⟩,⟨5,.phase⟩]
def UA{x:Nat}(hx:x<n)(z:Y.kc=2){k:Int}{ps:List bw}{J:Int}(F:val x 0=.string ⟨((du k ps J).getD []).toArray⟩)(B:val x 1=.bool (du k ps J).isSome){s:St}{T:Array ak}
  (m:c8 [] s (T.getD 12 aj) (xW k ps J n x Y.C 6)) (p:c8 [] s (T.getD 11 aj) (V9 (du k ps J))) :
  JJ ah 139 Y (2*n) val x (G ((bW (.pointer (aa ⟨Y.Wg,0,af⟩))).aT ⟨T,[]⟩ [.inRegion uA.toArray [7]]) [uB]) s:=by
 have m:T.getD 12 aj=.pointer (aa ⟨Y.C,x*2,af⟩):=Rd.fX m;have p:T.getD 11 aj=.agg #[val x 0,val x 1]:=by
  obtain⟨vs,X,d⟩:=p
  match vs,d with
  |[],d=>exact d.elim
  |[_],d=>exact d.2.elim
  |_::_::_::_,d=>exact d.2.2.elim
  |[u0,u1],d =>
   rw[X,rd_str d.1,rd_bool d.2.1,F,B]
 refine⟨rfl,λw1 hr Q0 KO=>?_⟩
 obtain⟨cs,c,Z⟩:=Q0;have M:Y.kc*x=x*2:=by grind
 have H:∀ v∈[val x 0,val x 1],v.oneCell'=ab:=by
  intro v P;simp only[e9,rf,or_false] at P;rcases P with rfl|rfl
  .rw[F];rfl
  .rw[B];rfl
 have q:x*2+0+[val x 0,val x 1].length<=cs.size:=by grind
 have l:=run_storeCells_at ah Y.C (x*2) 142 [val x 0,val x 1] 0 cs w1 c q H;simp only[iN,eZ,hZ,bt] at l;generalize r:(cs.toList.take (x*2)++[val x 0,val x 1]++cs.toList.drop (x*2+2)).toArray=new at l;have V:new.size=cs.size:=by
  grind
 have u:=setRow_heap w1 Y.C cs new 142 (0,0) c;have w:∀ o,(w1.setRow Y.C new).cell? ⟨Y.C,o,af⟩=new[o]?:=λo=>cell_setRow_same w1 Y.C o cs new 142 (0,0) c
 have K:∀ o,w1.cell? ⟨Y.C,o,af⟩=cs[o]?:=λo=>by simp[a9,c]
 have S:∀ i,i<2->new[x*2+i]?=aa (val x i):=by
  intro i hi;rw[<-r];have L:(cs.toList.take (x*2)).length=x*2:=by grind
  rw[j5];simp only[iI];rw[gh (by omega),L]
  match i,hi with
  |0,_=>simp
  |1,_=>simp
 have O:∀ o,(o<x*2∨x*2+2<=o)->new[o]?=cs[o]?:=by
  intro o I;rw[<-r];have L:(cs.toList.take (x*2)).length=x*2:=by grind
  rw[j5];simp only[iI];rcases I with I|I
  .grind
  .rw[gh (by omega),L,gh (by grind)]
   simp only[eZ,hZ,nB];rw[show x*2+2+(o-x*2-(0+1+1))=o by omega]
   simp
 have D:(Value.agg #[val x 0,val x 1]).cells=#[val x 0,val x 1]:=rfl;have A:(ay (⟨T,[]⟩:Act).eval S7).run ah w1=.ok .skip (w1.setRow Y.C new):=by
  have t:(⟨T,[]⟩:Act).eval (.tmp 12)=.pointer (aa ⟨Y.C,x*2,af⟩):=m;have y:(⟨T,[]⟩:Act).eval (.tmp 11)=.agg #[val x 0,val x 1]:=p;simp[ay,S7,oW,t,y,Instr.storeAt,Instr.sureAddr,storeVar,(tok 142 i142 rfl).run_sizeOf,i142,D,l]
 have f:∀ e∈(ay (⟨T,[]⟩:Act).eval S7).events ah w1 #[],∃ j,j<2/\e=GK Y.C (x*2+j):=by
  intro N f;have t:(⟨T,[]⟩:Act).eval (.tmp 12)=.pointer (aa ⟨Y.C,x*2,af⟩):=m;have y:(⟨T,[]⟩:Act).eval (.tmp 11)=.agg #[val x 0,val x 1]:=p;have e:ay (⟨T,[]⟩:Act).eval S7=(do storeVar 142 ⟨Y.C,x*2,af⟩ (.agg #[val x 0,val x 1]);pure .skip):=by simp[ay,S7,oW,t,y,Instr.storeAt,Instr.sureAddr]
  rw[e] at f;have E:N∈(storeCells ⟨Y.C,x*2,af⟩ [val x 0,val x 1]).events ah w1 #[]:=by
   simp only[storeVar,aO,(tok 142 i142 rfl).run_sizeOf,i142,D,aU,events_sizeOf,cT,b9,bX,b8,Sem.events_pure] at f;simpa[l] using f
  rcases eE [val x 0,val x 1] 0 cs w1 #[] c q H N E with R|⟨j,_,hj,rfl⟩
  .grind
  grind
 have g:WgLive 139 Y.Wg (w1.setRow Y.C new):=by
  obtain⟨st,Q,h⟩:=KO;refine⟨st,Q,?_⟩;show (w1.setRow Y.C new).heap[Y.Wg]?=_;rw[setRow_other w1 Y.C Y.Wg new ?_]
  .exact h
  .intro e;have d:w1.heap[Y.Wg]?=aa (Go.ConcR.wgBlock 139 st Q):=h;rw[e,c] at d;simp[Go.ConcR.wgBlock] at d;exact absurd d.2 (by decide)
 refine⟨_,w1.setRow Y.C new,_,Fi (b:=bW (.pointer (aa ⟨Y.Wg,0,af⟩))) (a:=⟨T,[]⟩) (k:=[]) (ops:=uA.toArray) (i:=7) (rest:=[]) (o:=S7) rfl rfl (by simp[bW,baseD]) A,?_,?_,?_⟩
 .refine⟨rfl,rfl,rfl,by simp,λb U=>setRow_other w1 Y.C b new U,⟨new,u,by grind⟩,λo I=>?_,λi hi=>?_⟩
  .grind
  .rw[z] at hi;rw[w,M]
   grind
 .intro e W;obtain⟨j,hj,rfl⟩:=f e (Go.Conc.mem_seen W);exact⟨x*2+j,rfl,by omega,by omega⟩
 .exact tailW x z T _ ⟨g,by show (w1.setRow Y.C new).cell? _=_;grind⟩
def worker{k:Int}(l:dG (Cx.work ah) 77 (l4 k)){x:Nat}(m:x<n)(e:Y.kc=2){ps:List bw}{d:Int}(j:val x 0=.string ⟨((du k ps d).getD []).toArray⟩)(f:val x 1=.bool (du k ps d).isSome)
  {s:St} (E:aJ [] s) (F:s.β=[]) {v1 v2 v3 v4 v5:ak} (q:Rd s.M v1 (.rp [.int .i64 k])) (p:Rd s.M v2 (.rp [.sl ae 2 ps.length (cP.fn ps)])) (o:Rd s.M v3 (.rp [.int .i64 d]))
  (u:Rd s.M v4 (.rp [.val (.slice (aa ⟨Y.C,0,af⟩) n n)])) (v:Rd s.M v5 (.rp [.int .i64 x])) :
  ek (Cx.work ah) E0 (JJ ah 139 Y (2*n) val x) (born ah (wF #[.pointer (aa ⟨Y.Wg,0,af⟩),v1,v2,v3,v4,v5])) s:=by
 refine ek.goes (X:=Cx.work ah) (R:=λ_ _=>True) (D:=DC0) (Stop:=λg _=>g=G ((bW (.pointer (aa ⟨Y.Wg,0,af⟩))).aT ⟨tW (.pointer (aa ⟨Y.Wg,0,af⟩)) v1 v2 v3 v4 v5,[]⟩ [.code (.region 1 KL ab)]) [uB])
  (λb=>aJ [] b/\b.M=s.M) (λb s2 h r=>⟨h.1.rely r,r.M.trans h.2⟩) (λ_ _ _ _=>trivial) ?_ (λb h=>cg.vV h.1.mem) ?_ 8 _ s ⟨E,rfl⟩ (RD _ _ _ _ _ _ _)
 .rintro b es h w' ⟨rfl,rfl⟩;exact⟨rfl,.inl (.quiet h.1)⟩
 .rintro g b ⟨i,y⟩ rfl;rw[Og];refine fp.toE (λ_ _ _ h=>h) ?_
  refine(Uy l ps d n x Y.C m (.pointer (aa ⟨Y.Wg,0,af⟩))).region (by kernel_rfl) (by simp[bW,baseD]) ⟨by simp[tW],⟨[],av⟩,λt=>?_⟩ rfl i λs2 a A c z w st=>.stop ?_
  .rw[<-y] at q p o u v
   match t with
   |0=>exact Rd.val rfl
   |1=>exact q
   |2=>exact p
   |3=>exact o
   |4=>exact u
   |5=>exact v
   |t+6=>trivial
  .obtain⟨T,B⟩:=a;obtain rfl:B=[]:=z;exact UA m e j f (c 12) (c 11)
end
end
section
open Go.Proofs Go.Conc Go.Conc.Lib
open Go.ConcN (WgLive PayAt Has RW AtR0)
open Go.ConcR (KK WgAt stA smA rd wr mk Payload DC0)
def wG:Code->Code|.seq a _=>a|c=>c
def kQ:Code->Code|.seq _ a=>a|c=>c
def UB:Code->Code|.block _ a=>a|c=>c
def XU:Code->Code|.loop a=>a|c=>c
def RE:Code->Array aw|.region _ o _=>o|_=>#[]
noncomputable def En:Code:=(Tryz.f43.body).getD .skip
noncomputable def iv:Code:=XU (UB (kQ (wG (kQ (kQ (kQ En))))))
noncomputable def cR4:Code:=wG iv
noncomputable def RF:Code:=UB (wG (kQ (kQ iv)))
noncomputable def cR5:Code:=wG RF
noncomputable def Al:Array aw:=RE (wG (kQ RF))
noncomputable def xO:Array aw:=RE (kQ (kQ RF))
noncomputable def MX:Code:=kQ (kQ (kQ iv))
noncomputable def ni:Code:=kQ (kQ (kQ (kQ En)))
noncomputable def xP:Array aw:=RE (wG ni)
noncomputable def qo:Code:=kQ ni
def Cg:iv=.seq cR4 (.seq (.cond (.tmp 21) .skip (.exit 0)) (.seq (.block 1 (.seq cR5 (.seq (.region 6 Al ae) (.region 7 xO ae)))) MX)):=by kernel_rfl
def KP:ni=.seq (.region 9 xP ae) qo:=by kernel_rfl
def NQ(j:Fr)(σ1:List aV):Post:=λe φ σ=>e=.normal/\oZ φ j/\σ=σ1
structure At (σ0:List aV)(s0:St)(φ:Fr)(σ:List aV)(a:Act)(s:St):Prop where
 fr:cv 45 σ s φ a
 hh:aJ σ s
 st:cB σ0 s0 σ s
section
variable {σ0:List aV}{s0:St}{φ j:Fr}{σ σ1:List aV}{a:Act}{s:St}
def At.rely(h:At σ0 s0 φ σ a s){d:St}(c:cg s d):At σ0 s0 φ σ a d:=⟨h.fr.rely c h.hh,h.hh.rely c,h.st.trans c.stepW⟩
structure MY (b:Nat)(s:St):Prop where
 own:¬s.own b
 β:∀ L∈s.β,b∉L.bs
 M:∀ o,s.M b o=af
 lt:b<s.w.heap.size
def MY.step{b:Nat}(h:MY b s0)(st:cB σ0 s0 σ s):MY b s :=
 ⟨by rw[st.own];exact h.own,λL d hb=>by
  rcases st.xx L d b hb with h1|⟨e,c,h1⟩
  .have:=h.lt;omega
  .exact h.β e c h1,λo=>by rw[st.jA b h.lt h.β];exact h.M o,cE h.lt st.size⟩
def At.apart{Wg:Nat}(d:MY Wg s0):Apart Wg (At σ0 s0 φ σ a) :=
 ⟨λ_ _ h e=>h.rely e,λ_ h=>⟨σ,h.hh⟩,λ_ h=>let c:=d.step h.st;⟨c.own,c.β,c.M⟩⟩
variable {X:Cx ah}{S:au->St->Prop}{b:aR}{k:List Item}{cs:List aR}
def At.ctl(h:At σ0 s0 φ σ a s){g g':au}(e:g.status=.running)(d:∀ w,aK ah X.main g w=.go g' w #[])(kk:∀ c,At σ0 s0 φ σ a c->fp X S g' c):fp X S g s :=
 .ctl h.hh e d λc h1=>kk c (h.rely h1)
def At.code(h:At σ0 s0 φ σ a s)(hb:b.kind≠.early){c:Code}(l:AW X 45 c (NQ j σ1) φ σ)(kk:∀ a1 s1,At σ0 s0 j σ1 a1 s1->fp X S (G (b.aT a1 k) cs) s1):fp X S (G (b.aT a (.code c::k)) cs) s:=by
 refine l s a h.fr h.hh b k cs S hb ?_;rintro e g σ' s' a' ⟨rfl,hl,rfl⟩ i f d;exact kk a' s' ⟨i.le hl,f,h.st.trans d⟩
end
def fp.live{Wg:Nat}{E:St->St->Array Event->Prop}{S:au->St->Prop}{g:au}{s:St}(h:fp (Cx.lead ah 139 Wg) S g s)(f:Clear (λb=>b=Wg) s)(hl:WgLive 139 Wg s.w) :
  ek (Cx.lead ah 139 Wg) E (λg s=>S g s/\WgLive 139 Wg s.w) g s:=by
 induction h with
 |stop h=>exact⟨.leaf,h,hl⟩
 |@step g s q ns ne hr h1 h2 _ m =>
  refine .step hr λe c=>?_
  have l:=c.2 hl;have d:Clear (λb=>b=Wg) e:=⟨λb hb=>by rw[c.1.own];exact f.own b hb,λb hb=>by rw[c.1.β];exact f.β b hb,λb hb o=>by rw[c.1.M];exact f.M b hb o,λb hb=>cE (f.lt b hb) c.1.size⟩
  obtain⟨⟨σ,σ',hh,i,st⟩,n⟩:=h2 e c;refine⟨_,_,_,h1 e c,.inl ⟨⟨σ,σ',hh,i,st⟩,n⟩,m e c (d.step st) ?_⟩;obtain⟨x,y,p⟩:=l;exact⟨x,y,by show (ns e).w.heap[Wg]?=_;rw[st.eL Wg (d.lt Wg rfl) (d.β Wg rfl)];exact p⟩
 |ghost hg _ m=>exact .ghost hg (m (f.ghost hg) (by rw[hg.w];exact hl))
 |forget hx _ _ _=>exact hx.elim
 |xA hj _ _=>exact hj.elim
def MY.clear{Wg:Nat}{s:St}(h:MY Wg s):Clear (λb=>b=Wg) s:=⟨λb e=>e▸h.own,λb e=>e▸h.β,λb e=>e▸h.M,λb e=>e▸h.lt⟩
section
variable (k:Int)(ps:List bw)(ns:List Int)(C Wg:Nat)
def mR(i:Nat):Fr:=[(3,.e (.one (.c (.rp [.int .i64 k])))),(4,.e (.one (.c (.rp [.sl ae 2 ps.length (cP.fn ps)])))),(8,.e (.one (.c (.rp [.val (.slice (aa ⟨C,0,af⟩) ns.length ns.length)])))),(9,.e (.one (.v (.pointer (aa ⟨Wg,0,af⟩))))),
 (18,cI.sl ns),(19,dI ns.length),(20,dI i)]
variable {k ps ns C Wg}{X:Cx ah}{σ:List aV}
def pR4{i:Nat}(hi:i<=ns.length):AW X 45 cR4 (NQ ((21,dB (decide (i<ns.length)))::mR k ps ns C Wg i) σ) (mR k ps ns C Wg i) σ:=by
 refine AK.of_code ?_
 by_cases h:i<ns.length
 .refine aX [(21,ab)] 100 rfl ?_ ⟨rfl,dc rfl ?_,rfl⟩
  .simp[ag];omega
  .simp[ag.cat,ag,h,aP.same]
 .refine aX [(21,ae)] 100 rfl ?_ ⟨rfl,dc rfl ?_,rfl⟩
  .simp[ag];omega
  .simp[ag.cat,ag,h,aP.same]
abbrev d5:List aV:=[.dead,.dead,.dead,.dead,.dead]
def pR5{i:Nat}(hi:i<ns.length):AW X 45 cR5 (NQ ((10,.e (.one (.ptr 5 0)))::(11,.e (.one (.ptr 6 0)))::mR k ps ns C Wg i) [.dead,.dead,.dead,.dead,.dead,.cells 3 [.c (.int .i64 i)],.cells 3 [.c (.int .i64 (ns.getD i 0))]]) (mR k ps ns C Wg i) d5:=by
 refine AK.of_code ?_;refine bk rfl ?_ ⟨rfl,dc rfl ?_,?_⟩
 .simp[ag];omega
 .simp[ag.cat,ag,aP.same]
 grind
def pR8{i:Nat}(hi:i<ns.length)(c:ns.length<=4000000):AW X 45 MX (NQ (mR k ps ns C Wg (i+1)) d5) (mR k ps ns C Wg i) d5:=by
 refine AK.of_code ?_;refine bk rfl ?_ ⟨rfl,dc rfl ?_,rfl⟩
 .simp[ag,bu];omega
 .simp[ag.cat,ag,aP.same]
variable {σ0:List aV}{s0:St}{S:au->St->Prop}{b:aR}{kk:List Item}{cs:List aR}
abbrev d7:List aV:=[.dead,.dead,.dead,.dead,.dead,.dead,.dead]
variable (k ps ns C Wg) in
abbrev qJ(i:Nat):Fr:=(11,.e (.one (.c (.rp [.int .i64 (ns.getD i 0)]))))::(10,.e (.one (.c (.rp [.int .i64 i]))))::mR k ps ns C Wg i
noncomputable abbrev tg(kk:List Item):List Item:=.code (.region 7 xO ae)::.inBlock 1::.code MX::.inLoop iv::.inBlock 0::kk
def vf{P:aq}{main:Bool}{b:aR}{a:Act}{k:List Item}{cs:List aR}{w:az}{c x y:Code}(h:c=.seq x y):aK P main (G (b.aT a (.code c::k)) cs) w=.go (G (b.aT a (.code x::.code y::k)) cs) w:=by
 grind [nI]
def toAdd{i:Nat}(hi:i<ns.length)(m:b.kind≠.early){a:Act}{s:St}(h:At σ0 s0 (mR k ps ns C Wg i) d5 a s)
  (K:∀ n l,At σ0 s0 (qJ k ps ns C Wg i) d7 n l->fp X S (G (b.aT n (.inRegion Al [0]::tg kk)) cs) l) :
  fp X S (G (b.aT a (.code iv::.inLoop iv::.inBlock 0::kk)) cs) s:=by
 refine h.ctl rfl (λw=>vf Cg) λs h=>?_
 refine h.code m (pR4 (Nat.le_of_lt hi)) λa s h=>?_
 refine h.ctl rfl (λw=>nI) λs h=>?_
 have q:a.eval (.tmp 21)=.bool ab:=by
  have:=h.fr.slot 21;simp only[hi,ib] at this;exact rd_bool (fx this)
 refine h.ctl rfl (λw=>uX q) λs h=>?_
 refine h.ctl rfl (λw=>Fg) λs h=>?_
 refine h.ctl rfl (λw=>nI) λs h=>?_
 refine h.ctl rfl (λw=>ru) λs h=>?_
 refine h.ctl rfl (λw=>nI) λs h=>?_
 have h:At σ0 s0 (mR k ps ns C Wg i) d5 a s:=⟨h.fr.le (dc rfl (by simp[ag.cat,ag,aP.same])),h.hh,h.st⟩
 refine h.code m (pR5 hi) λa s h=>?_
 obtain⟨l,w1,o,d,g⟩:=cv.freeze 10 5 (E:=3) (cs:=[.c (.int .i64 i)]) (cc:=[.int .i64 i]) rfl rfl rfl h.fr h.hh;refine .ghost (.of h.hh d w1 (g.ox h.hh)) ?_;obtain⟨s2,w2,p,e,f⟩:=cv.freeze 11 6 (E:=3) (cs:=[.c (.int .i64 (ns.getD i 0))]) (cc:=[.int .i64 (ns.getD i 0)]) rfl rfl rfl o d;refine .ghost (.of d e w2 (f.ox d)) ?_;have h:At σ0 s0 (qJ k ps ns C Wg i) d7 a s2:=⟨p.le (dc rfl (by simp[ag.cat,ag,aP.same])),e,h.st.trans ((g.ox h.hh).trans (f.ox d))⟩
 refine h.ctl rfl (λw=>nI) λs h=>?_
 refine h.ctl rfl (λw=>pP) λs h=>?_
 exact K a s h
def o6:aw:={ dst:=aa 25,op:=.call { callee:=.value (.func 74),args:=#[.tmp 9,.const (.int .i64 1)],argTypes:=#[139,3] },type:=0,pos:= "l12_snap.go:79",after:=#[],guard:=af }
theorem F5:Al=#[o6]:=by kernel_rfl
def KQ{i:Nat}(g:b.kind≠.early){a:Act}{s:St}(h:At σ0 s0 (qJ k ps ns C Wg i) d7 a s)
  (K:∀ c,At σ0 s0 (qJ k ps ns C Wg i) d7 a c->fp X S (G (Frame.enter ah 74 #[.pointer (aa ⟨Wg,0,af⟩),.int .i64 1] .normal) (b.aT a (.inRegion Al [0]::tg kk)::cs)) c) :
  fp X S (G (b.aT a (.inRegion Al [0]::tg kk)) cs) s:=by
 refine .next rfl λc d=>?_
 have e:=h.rely (X.ij d);have m:a.eval (.tmp 9)=.pointer (aa ⟨Wg,0,af⟩):=Rd.fX (e.fr.slot 9);have l:(ay a.eval o6).run ah c.w=.ok (.enter 74 #[.pointer (aa ⟨Wg,0,af⟩),.int .i64 1]) c.w:=by
  have:=run_call_body (P:=ah) (a:=a) (w:=c.w) (o:=o6) (f:=74) (fn:=Tryz.f74) rfl Tryz.func74 (by kernel_rfl) (by kernel_rfl)
  rw[this,<-m];simp only[List.map_toArray,rl,List.map_nil];rfl
 have p:(ay a.eval o6).events ah c.w #[]=#[]:=events_call_body (P:=ah) (a:=a) (w:=c.w) (o:=o6) (f:=74) (fn:=Tryz.f74) rfl Tryz.func74 (by kernel_rfl) (by kernel_rfl) #[]
 have n:listed ah b.fn a o6 c.w=#[]:=by unfold listed;grind [seen_none]
 refine⟨_,c,#[],?_,.quiet e.hh,K c e⟩;have:=oM (P:=ah) (main:=X.main) (b:=b) (a:=a) (k:=tg kk) (cs:=cs) (w:=c.w) (ops:=Al) (i:=0) (rest:=[]) (o:=o6) (by grind [F5]) rfl g l
 grind
def UC:aw:={ dst:=aa 26,op:=.makeFunc (.func 75) #[] #[.tmp 9,.tmp 3,.tmp 4,.tmp 11,.tmp 8,.tmp 10],type:=1,pos:= "l12_snap.go:80",after:=#[],guard:=af }
def Oi:aw:={ dst:=af,op:=.go { callee:=.value (.tmp 26),args:=#[],argTypes:=#[] },type:=0,pos:= "l12_snap.go:80",after:=#[⟨0,.data⟩],guard:=af }
theorem F6:xO=[UC,Oi].toArray:=by kernel_rfl
variable (k ps ns C Wg) in
abbrev Eo(i:Nat):AM.C:=.fn (.func 75) [] [.val (.pointer (aa ⟨Wg,0,af⟩)),.rp [.int .i64 k],.rp [.sl ae 2 ps.length (cP.fn ps)],.rp [.int .i64 (ns.getD i 0)],.rp [.val (.slice (aa ⟨C,0,af⟩) ns.length ns.length)],.rp [.int .i64 i]]
def UD{i:Nat}:OA X 45 [UC,Oi] UC ((25,.any)::qJ k ps ns C Wg i) d7 (.e (.one (.c (Eo k ps ns C Wg i)))) d7:=by
 have h:Fw tt [] [] [UC,Oi] ((25,.any)::qJ k ps ns C Wg i) d7 UC=aa (.e (.one (.c (Eo k ps ns C Wg i))),af,[]):=rfl;exact dW tok bC.nil h av
def XV{i:Nat}(n:b.kind≠.early){a:Act}{s:St}(h:At σ0 s0 (qJ k ps ns C Wg i) d7 a s)
  (K:∀ v g c,At σ0 s0 (qJ k ps ns C Wg i) d7 g c->Rd c.M v (Eo k ps ns C Wg i)->g.tmps.getD 26 aj=v->fp X S (G (b.aT g (.inRegion xO [1]::.inBlock 1::.code MX::.inLoop iv::.inBlock 0::kk)) cs) c) :
  fp X S (G (b.aT (a.put (aa 25) (.tuple #[])) (.inRegion Al []::tg kk)) cs) s:=by
 have p:At σ0 s0 ((25,.any)::qJ k ps ns C Wg i) d7 (a.put (aa 25) (.tuple #[])) s:=⟨h.fr.put (by decide) av,h.hh,h.st⟩
 refine p.ctl rfl (λw=>iW) λs h=>?_
 refine h.ctl rfl (λw=>pP) λs h=>?_
 rw[F6];refine UD s _ h.fr h.hh b _ cs S 0 [1] n rfl λv c l m e=>?_
 have l:Rd c.M v (Eo k ps ns C Wg i):=fx l;have o:=((h.fr.mono e h.hh.len).put (d:=26) (v:=v) (x:=.any) (by decide) av)
 have f:26<(a.put (aa 25) (.tuple #[])).tmps.size:=by rw[h.fr.size];decide
 refine K v _ c ⟨o.le (dc rfl ?_),m,h.st.trans e⟩ l (JU f);simp[ag.cat,ag,aP.same]
def RG{i:Nat}(hi:i<ns.length)(q:ns.length<=4000000)(c:b.kind≠.early)(e:σ0.length<=5){a:Act}{s:St}(h:At σ0 s0 (qJ k ps ns C Wg i) d7 a s)
  (K:∀ l m,At σ0 s0 (mR k ps ns C Wg (i+1)) d5 l m->fp X S (G (b.aT l (.code iv::.inLoop iv::.inBlock 0::kk)) cs) m) :
  fp X S (G (b.aT a (.inRegion xO []::.inBlock 1::.code MX::.inLoop iv::.inBlock 0::kk)) cs) s:=by
 have f:cv 45 (d5++[.dead,.dead]) s (mR k ps ns C Wg i) a:=h.fr.le (dc rfl (by simp[ag.cat,ag,aP.same]))
 have d:aJ (d5++[.dead,.dead]) s:=h.hh;have g:cB σ0 s0 (d5++[.dead,.dead]) s:=h.st;have n:eQ s (s.cut d5.length):=⟨rfl,λ_ _ _ h=>h,λ_ _ _=>rfl,d.mem,λb c=>c.imp id λ⟨L,o,c⟩=>⟨L,iJ o,c⟩⟩
 refine .ghost n ?_;have h:At σ0 s0 (mR k ps ns C Wg i) d5 a (s.cut d5.length):=⟨⟨f.size,f.defers.imp λ_ p=>p.drop rfl,λt=>(f.slot t).drop (pX rfl)⟩,d.drop rfl,g.drop e⟩
 refine h.ctl rfl (λw=>iW) λs h=>?_
 refine h.ctl rfl (λw=>qw) λs h=>?_
 refine h.code c (pR8 hi q) λa s h=>?_
 exact h.ctl rfl (λw=>yd) λs h=>K a s h
end
theorem wH{b:aR}(c:b.roundOf=af)(a:Act)(t:List Item):b.aT a t=b.at ⟨a.tmps,a.defers++b.defers⟩ t:=by
 cases b;simp only at c;subst c;rfl
section
variable {k:Int}{ps:List bw}{ns:List Int}{Y:Lay}{val:Nat->Nat->ak}{σ0:List aV}{s0:St}{b:aR}{kk:List Item}{cs:List aR}
def P1{a:Act}{w:az}{c c1 c2 c3 c4 c5:ak}(d:a.tmps.getD 26 aj=.func (.func 75) #[] #[c,c1,c2,c3,c4,c5]):(ay a.eval Oi).run ah w=.ok (.spawn (wF #[c,c1,c2,c3,c4,c5])) w/\(ay a.eval Oi).events ah w #[]=#[]:=by
 have e:a.eval (.tmp 26)=.func (.func 75) #[] #[c,c1,c2,c3,c4,c5]:=d
 constructor
 .simp[ay,Oi,resolve,Deferred.ofValue,e,wF]
 .simp[ay,Oi,resolve,Deferred.ofValue,e]
def UE(t:dG (Cx.work ah) 77 (l4 k))(g:Y.kc=2)(e:b.roundOf=af)(y:b.kind≠.early){i:Nat}(hi:i<ns.length)
  (q:val i 0=.string ⟨((du k ps (ns.getD i 0)).getD []).toArray⟩) (m:val i 1=.bool (du k ps (ns.getD i 0)).isSome) {v:ak} {a:Act} {s:St} (h:At σ0 s0 (qJ k ps ns Y.C Y.Wg i) d7 a s) (z:WgLive 139 Y.Wg s.w)
  (D:Rd s.M v (Eo k ps ns Y.C Y.Wg i)) (u:a.tmps.getD 26 aj=v) {Next:au->St->Prop}
  (K:∀ d,At σ0 s0 (qJ k ps ns Y.C Y.Wg i) d7 a d->WgLive 139 Y.Wg d.w->Next (G (b.aT a (.inRegion xO []::.inBlock 1::.code MX::.inLoop iv::.inBlock 0::kk)) cs) d) :
  AtGo ah 139 Y (2*ns.length) val i Next (G (b.aT a (.inRegion xO [1]::.inBlock 1::.code MX::.inLoop iv::.inBlock 0::kk)) cs) s:=by
 refine⟨rfl,λd c=>?_⟩
 have x:=h.rely c.1;have r:Rd d.M v (Eo k ps ns Y.C Y.Wg i):=by rw[c.1.M];exact D
 cases r with
 |fn fs cc Ua V4 f1 f2 g1 g2 r1 r2 =>
 have n:fs=[]:=hX Ua;subst n;have l:cc=[f2 0,f2 1,f2 2,f2 3,f2 4,f2 5]:=by
  apply iL
  intro j;have V4:cc.length=6:=V4
  match j with
  |0=>grind
  |1=>grind
  |2=>grind
  |3=>grind
  |4=>grind
  |5=>grind
  |j+6=>grind
 subst l;have B:f2 0=.pointer (aa ⟨Y.Wg,0,af⟩):=Rd.fX (r2 0 _ rfl);obtain⟨A,E⟩:=P1 (a:=a) (w:=d.w) u;have f:Go.Conc.listed ah b.fn ⟨a.tmps,a.defers++b.defers⟩ Oi d.w=#[]:=by
  unfold Go.Conc.listed;have:=(P1 (a:=⟨a.tmps,a.defers++b.defers⟩) (w:=d.w) u).2
  grind [seen_none]
 have p:=stepG_spawn (P:=ah) (main:=ab) (b:=b) (a:=⟨a.tmps,a.defers++b.defers⟩) (k:=.inBlock 1::.code MX::.inLoop iv::.inBlock 0::kk) (cs:=cs) (w:=d.w) (ops:=xO) (i:=1) (rest:=[]) (o:=Oi) (by grind [F6]) rfl y A rfl
 refine⟨G (b.aT a (.inRegion xO []::.inBlock 1::.code MX::.inLoop iv::.inBlock 0::kk)) cs,born ah (wF #[f2 0,f2 1,f2 2,f2 3,f2 4,f2 5]),?_,rfl,?_,K d x (c.2 z)⟩
 .rw[wH e,wH e,p,f];rfl
 .rw[B];exact worker t hi g q m (s:=d.child) ⟨x.hh.mem,rfl,by simp,by simp[St.child],by simp[St.child],by simp[St.child]⟩ rfl (r2 1 _ rfl) (r2 2 _ rfl) (r2 3 _ rfl) (r2 4 _ rfl) (r2 5 _ rfl)
def o9:aw:={ dst:=aa 28,op:=.call { callee:=.value (.func 78),args:=#[.tmp 9],argTypes:=#[139] },type:=0,pos:= "l12_snap.go:85",after:=#[],guard:=af }
theorem F7:xP=#[o9]:=by kernel_rfl
variable {X:Cx ah}{S:au->St->Prop}
def RH(g:b.kind≠.early){C Wg:Nat}{a:Act}{s:St}(h:At σ0 s0 (mR k ps ns C Wg ns.length) d5 a s)
  (K:∀ j c,At σ0 s0 (mR k ps ns C Wg ns.length) d5 j c->fp X S (G (Frame.enter ah 78 #[.pointer (aa ⟨Wg,0,af⟩)] .normal) (b.aT j (.inRegion xP [0]::.code qo::kk)::cs)) c) :
  fp X S (G (b.aT a (.code iv::.inLoop iv::.inBlock 0::.code ni::kk)) cs) s:=by
 refine h.ctl rfl (λw=>vf Cg) λs h=>?_
 refine h.code g (pR4 (bg _)) λa s h=>?_
 refine h.ctl rfl (λw=>nI) λs h=>?_
 have n:a.eval (.tmp 21)=.bool ae:=by
  have:=h.fr.slot 21;simp only[Nat.lt_irrefl,ku] at this;exact rd_bool (fx this)
 refine h.ctl rfl (λw=>uX n) λs h=>?_
 refine h.ctl rfl (λw=>zp (k':=.code ni::kk) rfl) λs h=>?_
 refine h.ctl rfl (λw=>vf KP) λs h=>?_
 refine h.ctl rfl (λw=>pP) λs h=>?_
 have h:At σ0 s0 (mR k ps ns C Wg ns.length) d5 a s:=⟨h.fr.le (dc rfl (by simp[ag.cat,ag,aP.same])),h.hh,h.st⟩
 refine .next rfl λc d=>?_
 have e:=h.rely (X.ij d);have q:a.eval (.tmp 9)=.pointer (aa ⟨Wg,0,af⟩):=Rd.fX (e.fr.slot 9);have l:(ay a.eval o9).run ah c.w=.ok (.enter 78 #[.pointer (aa ⟨Wg,0,af⟩)]) c.w:=by
  have:=run_call_body (P:=ah) (a:=a) (w:=c.w) (o:=o9) (f:=78) (fn:=Tryz.f78) rfl Tryz.func78 (by kernel_rfl) (by kernel_rfl)
  grind
 have p:(ay a.eval o9).events ah c.w #[]=#[]:=events_call_body (P:=ah) (a:=a) (w:=c.w) (o:=o9) (f:=78) (fn:=Tryz.f78) rfl Tryz.func78 (by kernel_rfl) (by kernel_rfl) #[]
 have m:Go.Conc.listed ah b.fn a o9 c.w=#[]:=by unfold Go.Conc.listed;grind [seen_none]
 refine⟨_,c,#[],?_,.quiet e.hh,K a c e⟩;have:=oM (P:=ah) (main:=X.main) (b:=b) (a:=a) (k:=.code qo::kk) (cs:=cs) (w:=c.w) (ops:=xP) (i:=0) (rest:=[]) (o:=o9) (by grind [F7]) rfl g l
 rw[m] at this;exact this
section
variable (k ps ns Y σ0 s0 b kk cs)
def Wa(g:au)(s:St):Prop:=∃ a,FX ah PZ Y (At σ0 s0 (mR k ps ns Y.C Y.Wg ns.length) d5 a) (b.aT a (.inRegion xP [0]::.code qo::kk)) cs g s
def TF(g:au)(s:St):Prop:=∃ a,TW ah PZ Y (At σ0 s0 (mR k ps ns Y.C Y.Wg ns.length) d5 a) (G (b.aT (a.put (aa 28) (.tuple #[])) (.inRegion xP []::.code qo::kk)) cs) g s
end
def anF(f:MY Y.Wg s0)(c:b.roundOf=af){g:au}{s:St}(h:Wa k ps ns Y σ0 s0 b kk cs g s) :
  ek (Cx.lead ah 139 Y.Wg) (Es Y.Wg) (AtW1 ah 139 Y (TF k ps ns Y σ0 s0 b kk cs) (Wa k ps ns Y σ0 s0 b kk cs)) g s:=by
 obtain⟨a,h⟩:=h;have e:(xP[0]?).bind (·.dst)=aa 28:=by rw[F7];rfl
 rw[wH c] at h;refine Uk (P:=ah) (L:=PZ) (b₀:=b) (a₀:=⟨a.tmps,a.defers++b.defers⟩) (ops₀:=xP) (i₀:=0) (rest₀:=[]) (k₀:=.code qo::kk) (cs:=cs) Cf (At.apart f) (λg s d=>⟨a,?_⟩) (λg s i=>⟨a,?_⟩) h
 .rw[wH c];rw[e] at d;exact d
 grind [wH]
def Hp{P:aq}{ty:ar}{N n:Nat}{a:au->St->Prop}:∀ (r:Nat){g:au}{s:St},ek (Cx.lead P ty Y.Wg) (Es Y.Wg) (λg s=>Spawns P ty Y N val n a r g s) g s->Spawns P ty Y N val n a r g s
 |0,_,_,h=>ek.bind h λ_ _ x=>x
 |_+1,_,_,h=>ek.bind h λ_ _ x=>x
def Oj(A:dG (Cx.work ah) 77 (l4 k))(p:Y.kc=2)(m:MY Y.Wg s0)(f:b.roundOf=af)(l:b.kind≠.early)(n:σ0.length<=5)(I:ns.length<=4000000)
  (z:∀ i,i<ns.length->val i 0=.string ⟨((du k ps (ns.getD i 0)).getD []).toArray⟩) (t:∀ i,i<ns.length->val i 1=.bool (du k ps (ns.getD i 0)).isSome) :
  ∀ (r:Nat),r<=ns.length->∀ (a:Act) (s:St),At σ0 s0 (mR k ps ns Y.C Y.Wg (ns.length-r)) d5 a s->WgLive 139 Y.Wg s.w ->
   Spawns ah 139 Y (2*ns.length) val ns.length (Wa k ps ns Y σ0 s0 b kk cs) r (G (b.aT a (.code iv::.inLoop iv::.inBlock 0::.code ni::kk)) cs) s:=by
 intro r
 induction r with
 |zero =>
  intro _ a s h c;rw[me] at h;have:=fp.live (E:=Es Y.Wg) (RH (X:=Cx.lead ah 139 Y.Wg) (kk:=kk) (cs:=cs) (S:=λg s=>∃ a,g=G (Frame.enter ah 78 #[.pointer (aa ⟨Y.Wg,0,af⟩)] .normal) (b.aT a (.inRegion xP [0]::.code qo::kk)::cs)/\At σ0 s0 (mR k ps ns Y.C Y.Wg ns.length) d5 a s) l h λj o d=>.stop ⟨j,rfl,d⟩) (m.step h.st).clear c
  refine ek.bind this ?_;rintro g s ⟨⟨a,rfl,h⟩,c⟩;exact Um (P:=ah) (L:=PZ) (Y:=Y) Cf (At.apart m) (λg s B=>⟨a,B⟩) ⟨h,c⟩
 |succ r H =>
  intro J a s h c;have hi:ns.length-(r+1)<ns.length:=by omega
  generalize q:ns.length-(r+1)=i at h hi;have:=fp.live (E:=Es Y.Wg) (toAdd (X:=Cx.lead ah 139 Y.Wg) (kk:=.code ni::kk) (cs:=cs) (S:=λg s=>∃ a,g=G (Frame.enter ah 74 #[.pointer (aa ⟨Y.Wg,0,af⟩),.int .i64 1] .normal) (b.aT a (.inRegion Al [0]::tg (.code ni::kk))::cs)/\At σ0 s0 (qJ k ps ns Y.C Y.Wg i) d7 a s) hi l h λj o d=>KQ l d λs2 h2=>.stop ⟨j,rfl,h2⟩) (m.step h.st).clear c
  refine ek.bind this ?_;rintro g s ⟨⟨a,rfl,h⟩,c⟩;have D:(Al[0]?).bind (·.dst)=aa 25:=by rw[F5];rfl
  rw[wH f];refine XK (P:=ah) (L:=PZ) (Y:=Y) (F:=At σ0 s0 (qJ k ps ns Y.C Y.Wg i) d7 a) Cf (At.apart m) (λs y=>?_) ⟨h,c⟩
  rw[D];have:=fp.live (E:=Es Y.Wg) (XV (X:=Cx.lead ah 139 Y.Wg) (kk:=.code ni::kk) (cs:=cs) (S:=λg s=>∃ v a,g=G (b.aT a (.inRegion xO [1]::.inBlock 1::.code MX::.inLoop iv::.inBlock 0::.code ni::kk)) cs/\At σ0 s0 (qJ k ps ns Y.C Y.Wg i) d7 a s/\Rd s.M v (Eo k ps ns Y.C Y.Wg i)/\a.tmps.getD 26 aj=v) l y.1 λv j o d x e=>.stop ⟨v,j,rfl,d,x,e⟩) (m.step y.1.st).clear y.2
  rw[wH f] at this;refine ek.bind this ?_;rintro g s ⟨⟨v,a,rfl,h,x,e⟩,c⟩;rw[q];refine⟨.leaf,UE A p f l hi (z i hi) (t i hi) h c x e λo d u=>?_⟩
  refine Hp r ?_;have:=fp.live (E:=Es Y.Wg) (RG (X:=Cx.lead ah 139 Y.Wg) (kk:=.code ni::kk) (cs:=cs) (S:=λg s=>∃ a,g=G (b.aT a (.code iv::.inLoop iv::.inBlock 0::.code ni::kk)) cs/\At σ0 s0 (mR k ps ns Y.C Y.Wg (i+1)) d5 a s) hi I l n d λj o d=>.stop ⟨j,rfl,d⟩) (m.step d.st).clear u
  refine ek.bind this ?_;rintro g s ⟨⟨a,rfl,h⟩,c⟩;refine⟨.leaf,H (by omega) a s ?_ c⟩
  grind
end
end
end Go.AM.R1
namespace Go.AM
section
open Go.Conc
def aJ.UF{σ:List aV}{s:St}(hh:aJ σ s){l:Nat}{B:aV}{L:Loc}(k:σ[l]?=aa B)(m:s.β[l]?=aa L)(p:(∃ E cs,B=.cells E cs)∨∃ H,B=.dz H) :
  aJ (σ.set l .dead) { s with β:=s.β.set l ⟨L.v,[]⟩ }/\Step σ s (σ.set l .dead) { s with β:=s.β.set l ⟨L.v,[]⟩ }:=by
 have g:l<σ.length:=(cp.1 k).1;have f:l<s.β.length:=(cp.1 m).1;have a:∀ l',(s.β.set l ⟨L.v,[]⟩)[l']?=if l=l' then aa ⟨L.v,[]⟩ else s.β[l']?:=by
  intro l'
  by_cases e:l=l'
  .subst e;rw[bc rfl,fH f]
  .rw[aY e,iK e]
 have c:∀ L'∈s.β.set l ⟨L.v,[]⟩,∀ b∈L'.bs,L'∈s.β:=by
  intro L' gu b hb;obtain⟨l',d⟩:=List.mem_iff_getElem?.1 gu;rw[a] at d;split at d
  .cases d;simp at hb
  .exact bT d
 have st:Step σ s (σ.set l .dead) { s with β:=s.β.set l ⟨L.v,[]⟩ }:=by
  refine⟨bg _,λ_ _ _=>rfl,λ_ _ _ h=>h,λ_ _ _ _=>rfl,λL' gu b hb=>.inr ⟨L',c L' gu b hb,hb⟩,?_,rfl,rfl,rfl,rfl⟩
  intro l' B' L' od gu
  by_cases e:l=l'
  .subst e;rw[k] at od;cases od;rw[m] at gu;cases gu;refine⟨.dead,⟨L.v,[]⟩,by rw[fH g],by rw[a,bc rfl],?_⟩
   rcases p with⟨E,cs,rfl⟩|⟨H,rfl⟩ <;> rfl
  .exact⟨B',L',by rw[iK e];exact od,by rw[a,aY e];exact gu,.refl _ _⟩
 refine⟨⟨hh.mem,by simp[hh.len],?_,?_,λL' gu b hb=>hh.lt L' (c L' gu b hb) b hb,λb hb=>⟨(hh.own b hb).1,λL' gu oG=>(hh.own b hb).2 L' (c L' gu b oG) oG⟩⟩,st⟩
 .intro l' B' L' od gu
  by_cases e:l=l'
  .subst e;rw[fH g] at od;cases od;trivial
  .rw[iK e] at od;rw[a,aY e] at gu;exact(hh.box l' B' L' od gu).carry st.ext hh.len λb hb=>⟨rfl,λo=>rfl⟩
 .intro n q L1 L2 h1 h2 b i j;rw[a] at h1 h2;split at h1
  .cases h1;simp at i
  .split at h2
   .cases h2;simp at j
   .exact hh.gd n q L1 L2 h1 h2 b i j
def c8.closed{σ σ':List aV}{s s':St}(f:s'.M=s.M){v:ak}{d:D}(h:c8 σ s v d)(c:u5 0 d=ab):c8 σ' s' v d:=by
 have h1:=c8.drop (σ1:=[]) (rest:=σ) h c;refine c8.mono (σ:=[]) (s:=s.cut 0) ⟨λb o v e=>by rw[f];exact e,λl B L a _=>by simp at a⟩ (by simp[St.cut]) h1
end
end Go.AM
namespace Go.AM.R1
section
open Go.Proofs Go.Conc Go.Conc.Lib
open Go.ConcN (WgLive PayAt Has RW AtR0)
open Go.ConcR (KK WgAt stA smA rd wr mk Payload DC0)
noncomputable def UG:Code:=wG (kQ (kQ (kQ En)))
noncomputable def cR3:Code:=wG UG
noncomputable def XW:Code:=kQ (kQ (kQ En))
def RI:XW=.seq (.seq cR3 (.block 0 (.loop iv))) ni:=by kernel_rfl
section
variable {σ0:List aV}{s0:St}{φ:Fr}{σ:List aV}{a:Act}{s:St}{S:au->St->Prop}
def At.goes{Wg:Nat}{j:au}:∀ (m:Nat)(g:au)(s:St),At σ0 s0 φ σ a s->WgLive 139 Wg s.w->Goes ah ab (fi 139 Wg) DC0 (λg _=>g=j) m g s.w ->
  (∀ b,At σ0 s0 φ σ a b->fp (Cx.beside ah) S j b)->fp (Cx.beside ah) S g s
 |0,g,s,h,_,f,K=>by
  obtain rfl:g=j:=f s.w (.refl _)
  grind
 |m+1,g,s,h,hl,f,K=>by
  rcases f with f|⟨l,f⟩
  .obtain rfl:g=j:=f s.w (.refl _)
   grind
  .refine .next l λb c=>?_
   have h1:=h.rely c.1;obtain⟨d,n⟩:=c.2;have i:WgLive 139 Wg b.w:=by rw[n];exact hl
   have h2:=f b.w (λ_=>i)
   cases e:aK ah ab g b.w with
   |go g' w' es =>
    rw[e,goes_go] at h2;obtain⟨⟨rfl,rfl⟩,o⟩:=h2;exact⟨g',b,#[],e,.quiet h1.hh,At.goes m g' b h1 i o K⟩
   |_=>rw[e] at h2;exact h2.elim
def lC{σ:List aV}{s:St}(b:∀ B∈σ,B=.dead){ds:List Deferred}{ls:List Nat}(h:oz σ s ds ls):ds=[]:=by
 cases ds with
 |nil=>rfl
 |cons d ds =>
  cases ls with
  |nil=>exact h.elim
  |cons l ls =>
   have:=b _ (bT h.1.1);cases this
end
section
variable {k:Int}{ps:List bw}{ns:List Int}{C:Nat}{xs:List ak}
variable (k ps ns C) in
def Ol:Fr:=[(2,cI.sl ns),(3,.e (.one (.ptr 0 0))),(4,.e (.one (.ptr 1 0))),(8,.e (.one (.ptr 3 0))),(9,.e (.one (.ptr 4 0)))]
variable (k ps ns C xs) in
def Am:List aV:=[.cells 3 [.c (.int .i64 k)],.cells 23 [.c (.sl ae 2 ps.length (cP.fn ps))],.dz (hJ 142 2 (.row C ns.length) ns.length xs),.cells 129 [.c (.val (.slice (aa ⟨C,0,af⟩) ns.length ns.length))],.cells 139 [.c (.int .u64 0),.c (.int .u32 0)]]
variable (k ps ns) in
def Nk(x i:Nat):ak:=if i=0 then .string ⟨((du k ps (ns.getD x 0)).getD []).toArray⟩ else .bool (du k ps (ns.getD x 0)).isSome
variable (k ps ns) in
def l5:List ak:=ns.flatMap λn=>[.string ⟨((du k ps n).getD []).toArray⟩,.bool (du k ps n).isSome]
variable (k ps ns C) in
def Ep:List aV:=[.dead,.dead,.dz (hJ 142 2 (.row C ns.length) ns.length (l5 k ps ns)),.dead,.dead]
def pR3{X:Cx ah}:AW X 45 cR3 (NQ ((18,cI.sl ns)::(19,dI ns.length)::(20,dI 0)::Ol ns) (Am k ps ns C xs)) (Ol ns) (Am k ps ns C xs):=by
 refine AK.of_code ?_;refine bk rfl av ⟨rfl,dc rfl ?_,rfl⟩;simp[ag.cat,ag,aP.same]
theorem Ch:(l5 k ps ns).length=ns.length*2:=by
 unfold l5
 induction ns with
 |nil=>rfl
 |cons n r b=>grind
def An:∀ {ns:List Int}{x i:Nat},x<ns.length->i<2->(l5 k ps ns)[2*x+i]?=aa (Nk k ps ns x i)
 |[],x,i,h,_=>by grind
 |n::r,0,i,_,hi=>by
  match i,hi with
  |0,_=>rfl
  |1,_=>rfl
 |n::r,x+1,i,h,hi=>by
  have:=An (ns:=r) (x:=x) (i:=i) (by grind) hi
  unfold l5 at this ⊢;rw[List.flatMap_cons,gh (by grind)]
  rw[show 2*(x+1)+i - [Value.string ⟨((du k ps n).getD []).toArray⟩,Value.bool (du k ps n).isSome].length=2*x+i by grind]
  rw[this];simp[Nk]
def _root_.Go.AM.cv.seen{N b:Nat}{d:D}{σ:List aV}{s:St}{φ:Fr}{a:Act}(f:cv N σ s φ a)(h:c8 σ s (a.tmps.getD b aj) d):cv N σ s ((b,d)::φ) a:=by
 refine⟨f.size,f.defers,λt=>?_⟩
 simp only[look];cases hb:aG b t with
 |false=>exact f.slot t
 |true=>grind [Nat.eq_of_beq_eq_true]
abbrev KR(n C:Nat):Fr:=[(8,.e (.one (.c (.rp [.val (.slice (aa ⟨C,0,af⟩) n n)]))))]
variable (k ps ns C) in
abbrev UH:Fr:=(8,.e (.one (.c (.rp [.val (.slice (aa ⟨C,0,af⟩) ns.length ns.length)]))))::(4,.e (.one (.c (.rp [.sl ae 2 ps.length (cP.fn ps)]))))::(3,.e (.one (.c (.rp [.int .i64 k]))))::(18,cI.sl ns)::(19,dI ns.length)::(20,dI 0)::[(9,.e (.one (.ptr 4 0)))]
def UI(hfe:dG (Cx.work ah) 77 (l4 k)){Q:Post}(hn:ns.length<=4000000)(UJ:ny (Cx.beside ah) 45 qo Q (KR ns.length C) (Ep k ps ns C)):ny (Cx.beside ah) 45 XW Q (Ol ns) (Am k ps ns C xs):=by
 intro so ao hf hho b kk cs S hb MV hQ;have h:At (Am k ps ns C xs) so (Ol ns) (Am k ps ns C xs) ao so:=⟨hf,hho,.refl _ _⟩;refine h.ctl rfl (λw=>vf RI) λs h=>?_
 refine h.ctl rfl (λw=>nI) λs h=>?_
 refine h.code hb pR3 λa s h=>?_
 obtain⟨s1,w1,f1,A,QI⟩:=cv.freeze 3 0 (E:=3) (cs:=[.c (.int .i64 k)]) (cc:=[.int .i64 k]) rfl rfl rfl h.fr h.hh;refine .ghost (.of h.hh A w1 (QI.ox h.hh)) ?_;obtain⟨s2,w2,f2,D,ot⟩:=cv.freeze 4 1 (E:=23) (cs:=[.c (.sl ae 2 ps.length (cP.fn ps))]) (cc:=[.sl ae 2 ps.length (cP.fn ps)]) rfl rfl rfl f1 A;refine .ghost (.of A D w2 (ot.ox A)) ?_;obtain⟨s3,w3,f3,Z,Rf⟩:=cv.freeze 8 3 (E:=129) (cs:=[.c (.val (.slice (aa ⟨C,0,af⟩) ns.length ns.length))]) (cc:=[.val (.slice (aa ⟨C,0,af⟩) ns.length ns.length)]) rfl rfl rfl f2 D;refine .ghost (.of D Z w3 (Rf.ox D)) ?_;have h:At (Am k ps ns C xs) so (UH k ps ns C)
   [.dead,.dead,.dz (hJ 142 2 (.row C ns.length) ns.length xs),.dead,.cells 139 [.c (.int .u64 0),.c (.int .u32 0)]] a s3 :=
  ⟨f3.le (dc rfl (by simp[ag.cat,ag,aP.same])),Z,h.st.trans ((QI.ox h.hh).trans ((ot.ox A).trans (Rf.ox D)))⟩
 clear QI ot Rf f1 f2 f3 A D Z;refine h.ctl rfl (λw=>ru) λs h=>?_
 refine h.ctl rfl (λw=>Fh) λs h=>?_
 have hlen:=h.hh.len;simp only[eZ,hZ] at hlen;obtain⟨F,y⟩:∃ L,s.β[2]?=aa L:=⟨_,br (by omega)⟩
 obtain⟨W,I⟩:∃ L,s.β[4]?=aa L:=⟨_,br (by omega)⟩
 obtain⟨ch,hH,UK,Tn,XH⟩:=h.hh.box 2 _ F rfl y;obtain⟨zs,WB,QB,TG⟩:=hJ.lookup hH;obtain⟨hv2,_,hxl,_,_,_⟩:=hH;have R:C∈F.bs:=(Tn C).2 (by grind)
 have UL:=UK C _ QB;obtain⟨Wg,vs,ac4,P,MS,hM4⟩:=h.hh.box 4 _ W rfl I;have XX:vs=[.int .u64 0,.int .u32 0]:=by
  match vs,MS with
  |[],r=>exact r.elim
  |[_],r=>exact r.2.elim
  |_::_::_::_,r=>exact r.2.2.elim
  |[u0,u1],r =>
   have r0:Rd s.M u0 (.int .u64 0):=r.1;have r1:Rd s.M u1 (.int .u32 0):=r.2.1;cases r0;cases r1;rfl
 subst XX;have Bh:C≠Wg:=by
  grind
 have hv9:a.tmps.getD 9 aj=.pointer (aa ⟨Wg,0,af⟩):=by
  obtain⟨_,L,bb,q1,q2,q3⟩:=h.fr.slot 9
  grind
 obtain⟨g1,t1⟩:=h.hh.UF (l:=2) rfl y (.inr ⟨_,rfl⟩);have XY:(s.β.set 2 ⟨F.v,[]⟩)[4]?=aa W:=by grind
 obtain⟨g2,t2⟩:=g1.UF (l:=4) (B:=.cells 139 [.c (.int .u64 0),.c (.int .u32 0)]) rfl XY (.inl ⟨_,_,rfl⟩);generalize hsB:({ s with β:=(s.β.set 2 ⟨F.v,[]⟩).set 4 ⟨W.v,[]⟩ }:St)=sB at g2 t2;have eβ:sB.β=(s.β.set 2 ⟨F.v,[]⟩).set 4 ⟨W.v,[]⟩:=by grind
 have eM:sB.M=s.M:=by grind
 have ew:sB.w=s.w:=by grind
 have eo:sB.own=s.own:=by grind
 have hhB:aJ d5 sB:=g2;have MZ:=(t1.ox h.hh).trans (t2.ox g1);have XZ:sB.β[2]?=aa ⟨F.v,[]⟩:=by grind
 have p:∀ L∈sB.β,∀ x∈L.bs,∃ l,l≠2/\l≠4/\s.β[l]?=aa L:=by
  grind [List.mem_iff_getElem?]
 have Dj:C<s.w.heap.size:=h.hh.lt F (bT y) C R;have Bd:Wg<s.w.heap.size:=h.hh.lt W (bT I) Wg (by grind)
 have X0:MY C sB:=⟨by rw[eo];exactλho=>(h.hh.own C ho).2 F (bT y) R,λL d f=>by
  obtain⟨l,n2,n4,hl⟩:=p L d C f;exact n2 (h.hh.gd l 2 L F hl y C f R),λo=>by rw[eM];grind,by grind⟩
 have K:MY Wg sB:=⟨by rw[eo];exactλho=>(h.hh.own Wg ho).2 W (bT I) (by grind),λL d f=>by
  obtain⟨l,n2,n4,hl⟩:=p L d Wg f;exact n4 (h.hh.gd l 4 L W hl I Wg f (by grind)),λo=>by rw[eM];grind,by grind⟩
 have fB:cv 45 d5 sB (mR k ps ns C Wg 0) a:=by
  have q:=h.fr.mono MZ h.hh.len;have q9:cv 45 d5 sB ((9,.e (.one (.v (.pointer (aa ⟨Wg,0,af⟩)))))::UH k ps ns C) a:=q.seen (by rw[hv9];exact Rd.val rfl)
  exact q9.le (dc rfl (by simp[ag.cat,ag,aP.same]))
 have U:(xs++zs).toArray.size=2*ns.length:=by grind
 have NL:∀ x,(s.own x∨∃ L∈s.β,x∈L.bs)->x<s.w.heap.size:=λx f=>f.elim (λq=>(h.hh.own x q).1) λ⟨L,d,q⟩=>h.hh.lt L d x q
 refine .xA (T:=λg' s'=>∃ a4 m,At (Am k ps ns C xs) so (KR ns.length C) (Ep k ps ns C) a4 s'/\WgLive 139 Wg s'.w/\Goes ah ab (fi 139 Wg) DC0 (λg _=>g=G (b.aT (a4.put (aa 28) (.tuple #[])) (.inRegion xP []::.code qo::kk)) cs) m g' s'.w)
  (To.fork (n:=ns.length) (ty:=139) (val:=Nk k ps ns) (N:=2*ns.length) (s0:=sB) 2 (by omega) Wg C (by omega) Bh (.of h.hh hhB ew MZ) rfl ⟨F,bT y,R⟩ ⟨W,bT I,by grind⟩ NL ?_ P ⟨_,UL,U⟩ ?_) ?_
 .rintro x (rfl|rfl)
  .exact⟨X0.own,X0.β,X0.M⟩
  .exact⟨K.own,K.β,K.M⟩
 .intro Y hYW hYC hYk;subst hYW hYC;refine⟨TF k ps ns Y d5 sB b kk cs,Wa k ps ns Y d5 sB b kk cs,λg s f=>anF K MV f,?_,?_⟩
  .refine Oj hfe hYk K MV hb (by decide) hn (λi hi=>rfl) (λi hi=>rfl) ns.length (bg _) a sB ⟨by grind,hhB,.refl _ _⟩ ⟨_,_,by rw[ew];exact P⟩
  .rintro g' s' ⟨a4,⟨j,KO⟩,m,hgo⟩ hm' UM RJ T9 FC;obtain⟨o1,o2,o3⟩:=FC Y.C (.inl rfl);obtain⟨ma,H,ac9⟩:=UM;have V2:ma=(l5 k ps ns).toArray:=by
    apply Array.ext_getElem?
    intro o;have eo':(l5 k ps ns).toArray[o]?=(l5 k ps ns)[o]?:=by simp
    rw[eo'];rcases cG o (2*ns.length) with ho|ho
    .have q1:=RJ (o / 2) (by omega) (o % 2) (by omega)
     have q2:=An (k:=k) (ps:=ps) (ns:=ns) (x:=o / 2) (i:=o % 2) (by omega) (by omega)
     rw[show 2*(o / 2)+o % 2=o by omega] at q1 q2
     rw[q2];simpa[a9,H] using q1
    grind [Ch]
   subst V2;have Bb:s'.β.length=5:=j.hh.len;obtain⟨B2',L2',p1,p2,p3⟩:=j.st.box 2 .dead ⟨F.v,[]⟩ rfl XZ;have adb:L2'.v=.nilFunc:=by
    cases p1;exact(show L2'.v=F.v from p3).trans hv2
   have O:∀ (l:Nat) (B:aV),d5[l]?=aa B->B=.dead:=by
    intro l B u
    match l,u with
    |0,u|1,u|2,u|3,u|4,u=>cases u;rfl
   have X:∀ l,(s'.β.set 2 ⟨.nilFunc,[Y.C]⟩)[l]?=if l=2 then aa ⟨.nilFunc,[Y.C]⟩ else s'.β[l]?:=by
    grind
   have z:∀ L∈s'.β.set 2 ⟨.nilFunc,[Y.C]⟩,L=⟨.nilFunc,[Y.C]⟩∨L∈s'.β:=λL d=>by
    grind
   have hh4:aJ (Ep k ps ns Y.C) { s' with β:=s'.β.set 2 ⟨.nilFunc,[Y.C]⟩ }:=by
    refine⟨j.hh.mem,by simp[Bb,Ep],?_,?_,?_,λx f=>⟨(j.hh.own x f).1,λL d J=>?_⟩⟩
    .intro l B L u d;rw[X] at d
     by_cases e:l=2
     .subst e;rw[bc rfl] at d;cases d;cases u;refine⟨λb'=>if b'=Y.C then aa (.cells (l5 k ps ns++[]).toArray 142 (0,0)) else af,⟨rfl,?_,Ch,bg _,by omega,[],by grind,rfl⟩,λb' ob oG=>?_,λb'=>?_,λb' oG o=>?_⟩
      .intro x f;simp only[l5,List.mem_flatMap] at f;obtain⟨_,_,f⟩:=f;simp only[e9,rf,or_false] at f;rcases f with rfl|rfl <;> rfl
      .by_cases e:b'=Y.C
       .subst e;simp only[cq] at oG;cases oG;rw[k6];exact H
       grind
      .by_cases e:b'=Y.C <;> simp[e]
      grind
     .match l,u,e with
      |0,u,_|1,u,_|3,u,_|4,u,_=>cases u;trivial
      |2,_,e=>grind
    .intro l l' L L' d gu x f QZ;rw[X] at d gu
     by_cases e:l=2
     .grind
     .rw[aY e] at d
      by_cases e':l'=2
      .grind
      .rw[aY e'] at gu;exact j.hh.gd l l' L L' d gu x f QZ
    .intro L d x f;rcases z L d with rfl|d
     .grind
     .exact j.hh.lt L d x f
    .rcases z L d with rfl|d
     .grind
     .exact(j.hh.own x f).2 L d J
   have X1:cB [.dead,.dead,.dz (hJ 142 2 (.row Y.C ns.length) ns.length xs),.dead,.cells 139 [.c (.int .u64 0),.c (.int .u32 0)]] s (Ep k ps ns Y.C) { s' with β:=s'.β.set 2 ⟨.nilFunc,[Y.C]⟩ }:=by
    have q:=j.st;refine⟨by have:=q.size;grind,λx f=>by have:=q.eL x (by grind);grind,λx o v f=>q.mem x o v (by grind),λx f Zm o=>?_,λL d x f=>?_,?_,by rw[q.os,ew],by rw[q.tape,ew],by rw[q.output,ew],by rw[q.own,eo]⟩
    .rw[q.jA x (by grind) (λL d J=>by
      obtain⟨l,_,_,hl⟩:=p L d x J
      grind) o,eM]
    .rcases z L d with rfl|d
     .grind
     .rcases q.xx L d x f with r1|⟨L0,r1,r2⟩
      .grind
      .obtain⟨l,_,_,hl⟩:=p L0 r1 x r2
       grind
    .intro l B L u d;obtain⟨B1,L1,r1,r2,r3⟩:=MZ.box l B L u d;obtain⟨B3,L3,u1,u2,u3⟩:=q.box l B1 L1 r1 r2;have eB1:=O l B1 r1;have eB3:=O l B3 u1;subst eB1 eB3
     by_cases e:l=2
     .subst e;cases u;rw[y] at d;cases d;exact⟨_,⟨.nilFunc,[Y.C]⟩,rfl,by grind,hv2.symm⟩
     .refine⟨.dead,L3,?_,by grind,r3.trans u3⟩
      match l,u1,e with
      |0,_,_|1,_,_|3,_,_|4,_,_=>rfl
      |2,_,e=>grind
   refine⟨{ s' with β:=s'.β.set 2 ⟨.nilFunc,[Y.C]⟩ },⟨a4,m,⟨⟨j.fr.size,⟨[],?_⟩,λt=>?_⟩,hh4,h.st.trans X1⟩,KO,hgo⟩,rfl,hm',λSh V hnC=>⟨V.own,λx f L d J=>?_,V.M,V.lt⟩⟩
   .obtain⟨ls,V8⟩:=j.fr.defers;rw[lC (λB u=>by grind) V8]
    trivial
   .have fq:cv 45 d5 s' (KR ns.length Y.C) a4:=j.fr.le (dc rfl (by simp[ag.cat,ag]))
    exact c8.closed (s:=s') (s':={ s' with β:=s'.β.set 2 ⟨.nilFunc,[Y.C]⟩ }) rfl (fq.slot t) (pX rfl)
   .rcases z L d with rfl|d
    .grind
    .exact V.β x f L d J
 .rintro g' s' ⟨a4,m,h4,hl4,hgo⟩;refine At.goes m g' s' h4 hl4 hgo λs1 h1=>?_
  have h2:At (Am k ps ns C xs) so ((28,.any)::KR ns.length C) (Ep k ps ns C) (a4.put (aa 28) (.tuple #[])) s1:=⟨h1.fr.put (by decide) av,h1.hh,h1.st⟩
  refine h2.ctl rfl (λw=>iW) λs2 h3=>?_
  refine UJ s2 _ (h3.fr.le (dc rfl (by simp[ag.cat,ag]))) h3.hh b kk cs S hb MV λe φ' σ' s' a' q f' h' qh=>hQ e φ' σ' s' a' q f' h' (h3.st.trans qh)
end
end
section
open Go.Proofs
abbrev X2(a:List Bs)(b:Bool):D:=.eJ [.one (.c (.sl ae 1 a.length (cS.fn a))),.one (.c (.bool b))]
def en(k:Int)(ps:List bw)(ns:List Int):Option (List Bs):=if ns.all (λn=>(du k ps n).isSome) then aa (ns.map λn=>(du k ps n).getD []) else af
noncomputable def cR0:Code:=wG En
noncomputable def cR1:Code:=wG (kQ En)
noncomputable def cR2:Code:=wG (kQ (kQ En))
def Om:Tryz.f43.body=aa (.seq cR0 (.seq cR1 (.seq cR2 XW))):=by kernel_rfl
def RK(k:Int)(ps:List bw)(ns:List Int)(i:Nat):List AM.C:=[.str ((du k ps (ns.getD i 0)).getD []),.bool (du k ps (ns.getD i 0)).isSome]
def uC(k:Int)(ps:List bw)(ns:List Int):List Bs:=ns.map λn=>(du k ps n).getD []
def Ci{b p:Bs}(h:fe b=aa p):p.length<=8:=by
 unfold fe at h;split at h
 .rename_i a
  cases h;simp only[bL,bH,ba] at a;omega
 .cases h
def Hq{k:Int}{x:cA}{p:Bs}(h:chunk k x=aa p):p.length<=8:=by
 unfold chunk at h;split at h
 .rename_i q a
  split at h
  .cases h;exact Ci a
  .cases h
 .cases h
theorem yy{k:Int}{ps:List bw}{n:Int}:((du k ps n).getD []).length<=8:=by
 cases h:du k ps n with
 |none=>simp
 |some p =>
  obtain⟨q,_,a⟩:=List.exists_of_findSome?_eq_some h;unfold ee at a;split at a
  .simpa using Hq a
  .cases a
def RL{k:Int}{ps:List bw}{ns:List Int}{i:Nat}(hi:i<ns.length){M:Mem}{j:Nat}{c:AM.C}{x:ak}(a:(RK k ps ns i)[j]?=aa c)(d:(l5 k ps ns)[i*2+j]?=aa x):Rd M x c:=by
 have b:j<2:=(cp.1 a).1;have:=An (k:=k) (ps:=ps) hi b;rw[nE,this] at d;cases d
 match j,b with
 |0,_ =>
  cases a;have:=yy (k:=k) (ps:=ps) (n:=ns.getD i 0);exact .str rfl (by omega)
 |1,_=>cases a;exact .bool
def _root_.Go.AM.ny.le{P:aq}{X:Cx P}{N:Nat}{Q:Post}{φ b:Fr}{σ:List aV}{c:Code}(h:ny X N c Q b σ)(hl:oZ φ b):ny X N c Q φ σ:=λs a f hh=>h s a (f.le hl) hh
def Ce{k:Int}(m:dG (Cx.work ah) 77 (l4 k))(ps:List bw)(ns:List Int)(t:ns.length<=4000000) :
  Ev (Cx.beside ah) 43 [dI k,cP.sl ps,cI.sl ns] [] (X2 ((en k ps ns).getD []) (en k ps ns).isSome) []:=by
 refine cK.uv (cK.zV (ι:=Unit) Tryz.func43 rfl Om rfl λv=>?_)
 show ny _ 45 _ _ _ _;refine ny.seq (AW.top (AK.of_code ?_));refine bk rfl av ?_;show ny _ 45 _ _ _ _;refine ny.seq (AW.top (AK.of_code ?_));refine bk rfl av ?_;refine AK.Jh (E:=142) (n:=ns.length) tok rfl rfl rfl rfl rfl rfl (by show _*24<=_;omega) (by omega) rfl rfl λC xs=>?_
 refine bk rfl av ?_;show ny _ 45 _ _ _ _;refine ny.seq (AW.top (AK.of_code ?_));refine bk rfl av ?_;show ny _ 45 _ _ _ _;have a:ny (Cx.beside ah) 45 qo (λe φ σ1=>∃ _:Unit,b5 Tryz.f43 0 (X2 ((en k ps ns).getD []) (en k ps ns).isSome) [] e φ σ1) (KR ns.length C) (Ep k ps ns C):=by
  refine AW.top (AW.mono (Q:=b5 Tryz.f43 0 (X2 ((en k ps ns).getD []) (en k ps ns).isSome) []) (AK.of_code ?_) λ_ _ _ q=>⟨(),q⟩)
  refine bk rfl (show _<=_ by omega) ?_
  refine AK.DD 29 2 (bf:=.row C ns.length) (n:=ns.length) (k:=2) (RK k ps ns) rfl rfl (λi hi=>⟨rfl,λM j c x s u=>?_⟩) ?_
  .exact RL hi s u
  refine AK.ir 12 9 1 rfl rfl ?_;refine AK.bO 6 (λi=>i<=ns.length/\∀ j,j<i->(du k ps (ns.getD j 0)).isSome=ab) (λi:Nat=>[(29,.e (.one (.c (.sl ae 2 ns.length (RK k ps ns))))),(30,dI ns.length),(31,dI i),(12,.e (.one (.vec 5 1 (uC k ps (ns.take i)).length (cS.fn (uC k ps (ns.take i))))))]) (λi=>[.dead,.dead,.dead,.dead,.dead,.vec 9 1 (uC k ps (ns.take i)).length (cS.fn (uC k ps (ns.take i)))]) (λi=>ns.length-i) 0 rfl ?_ rfl ?_ rfl ⟨by omega,by omega⟩ ?_
  .simp[ag.cat,ag,aP,aP.same,uC]
  .simp[ag.cat,ag,aP,uC]
  rintro i ⟨hi,o⟩
  by_cases h:i<ns.length
  .cases p:(du k ps (ns.getD i 0)).isSome with
   |true =>
    have d:uC k ps (ns.take (i+1))=uC k ps (ns.take i)++[(du k ps (ns.getD i 0)).getD []]:=by
     unfold uC;rw[j4,br h,rh]
     grind
    have r:(uC k ps (ns.take i)).length<=4000000:=by simp[uC];omega
    refine aX [(32,ab),(37,ae)] 200 rfl ?_ (AK.aQ (i+1) rfl ?_ ?_ ?_ ?_)
    .simp[-ai,ag,h,RK,p,bu];have:i9.bytes=16:=rfl;rw[this];omega
    .rw[d];simp[-ai,ag.cat,ag,aP.same,RK];exact cS.cn _ _
    .rw[d];simp[-ai,ag.cat,ag,aP.same,RK];exact cS.cn _ _
    .grind
    .omega
   |false =>
    refine aX [(32,ab),(37,ab)] 200 rfl ?_ (AK.ei (b5.zero rfl ?_))
    .simp[-ai,ag,h,RK,p]
    .have f:en k ps ns=af:=by
      unfold en;rw[aY]
      grind
     simp[ag.cat,ag,f]
  .have l:i=ns.length:=by omega
   subst l;refine aX [(32,ae)] 200 rfl (by simp[ag]) (AK.leaveD rfl rfl ?_)
   refine dO rfl av (AK.bm rfl ?_);have b:en k ps ns=aa (uC k ps ns):=by
    unfold en;rw[bc]
    .rfl
    .rw[List.all_eq_true];intro n g;obtain⟨j,w,rfl⟩:=lM.1 g
     grind
   simp[ag.cat,ag,b,aP.same]
 exact ny.le (σ:=Am k ps ns C xs) (UI (xs:=xs) m t a) (dc rfl (by simp[ag.cat,ag,aP.same]))
end
end Go.AM.R1
namespace Go.AM.R1
def jU(a:UInt8)(s:Bs):iy (a::s)=if a=47 then 0 else if iy s=-1 then -1 else iy s+1:=by
 unfold iy
 grind [Lib.indexByte.eq_def]
def vg:iy []=-1:=by unfold iy;rw[Lib.indexByte.eq_def]
def HT(s:Bs):eT s=dr s:=by
 by_cases i:s.length<=3
 .match s,i with
  |[],_=>simp[eT,dr,cu,jw,vg]
  |[a],_ =>
   by_cases d:a=47
   .subst d;simp[eT,dr,cu,jw,mE,j0,jU,l6,cz]
   .simp[eT,dr,cu,jw,j0,jU,vg,d,l6,cz]
  |[a,b],_ =>
   by_cases d:a=47
   .subst d;simp[eT,dr,cu,jw,mE,j0,jU]
   .by_cases e:b=47
    .subst e;simp[eT,dr,cu,jw,mE,j0,jU,d]
    .simp[eT,dr,cu,jw,j0,jU,vg,d,e]
  |[a,b,c],_ =>
   by_cases d:a=47
   .subst d;simp[eT,dr,cu,jw,mE,j0,jU,l6,cz]
   .by_cases e:b=47
    .subst e;simp[eT,dr,cu,jw,mE,j0,jU,d,l6,cz]
    .have f:¬(b.toNat:Int)=47:=by
      intro h;apply e;apply pG.1;grind
     by_cases g:c=47
     .subst g;simp[eT,dr,cu,jw,mE,j0,jU,d,e,l6,cz]
     .simp[eT,dr,cu,jw,j0,jU,vg,d,e,g,f,l6,cz]
  |_::_::_::_::_,h=>grind
 .have j:dr s=ae:=by unfold dr;grind
  grind [ua]
end Go.AM.R1
namespace Go.AM
theorem sk(a:Bs):bl a []=ae:=by rw[Op.bytesLess.eq_def]
def wW(b:UInt8)(l:Bs):bl [] (b::l)=ab:=by rw[Op.bytesLess.eq_def]
theorem sq(a b:UInt8)(x y:Bs):bl (a::x) (b::y)=(decide (a<b)||a==b&&bl x y):=by rw[Op.bytesLess.eq_def]
theorem qa:∀ a:Bs,bl a a=ae
 |[]=>sk []
 |a::l=>by rw[sq,qa l];simp
def Cs:∀ a b:Bs,bl a b=ab∨a=b∨bl b a=ab
 |[],[]=>.inr (.inl rfl)
 |[],b::y=>.inl (wW b y)
 |a::x,[]=>.inr (.inr (wW a x))
 |a::x,b::y=>by
  rw[sq,sq];rcases Cs x y with h|h|h
  .grind
  .grind
  grind
theorem wX:∀ {a b c:Bs},bl a b=ab->bl b c=ab->bl a c=ab
 |a,b,[],_,e=>by grind [sk]
 |a,[],c::z,d,_=>by grind [sk]
 |[],b::y,c::z,_,_=>wW c z
 |a::x,b::y,c::z,d,e=>by
  rw[sq,mK,bL,ba,gi] at d e ⊢;rcases d with d|⟨rfl,d⟩
  .grind
  .rcases e with e|⟨rfl,e⟩
   .grind
   .exact .inr ⟨rfl,wX d e⟩
theorem Ct{a b:Bs}(h:bl a b=ab):bl b a=ae:=by
 grind [wX,qa]
def Sf{a b:Bs}:(!(bl b a||b==a))=bl a b:=by
 rcases Cs a b with h|h|h
 .have c:(b==a)=ae:=by
   simp only[dm,cT]
   grind [qa]
  grind [Ct]
 .grind [qa]
 grind [Ct]
namespace R1
def U8{t:List bA}{i:Nat}(h:∀ k,0<k->k<=i->bl (fy t (k-1)) (fy t k)=ab):∀ j,j<i->bl (fy t j) (fy t i)=ab:=by
 intro j f
 induction i with
 |zero=>omega
 |succ i d =>
  have c:=h (i+1) (by omega) (bg _)
  simp only[pC] at c
  by_cases e:j=i
  .grind
  .exact wX (d (λk a b=>h k a (by omega)) (by omega)) c
def ub{s:Bs}(h:dr s=ab):(∃ a,s=[a])∨∃ a b,s=[a,47,b]:=by
 unfold dr at h;split at h
 .rename_i d
  match s,d with
  |[a],_=>grind
 .split at h
  .rename_i d
   match s,d with
   |[a,b,c],_ =>
    right
    simp[l6,cz] at h;have e:b=47:=by apply pG.1;grind
    grind
  grind
theorem Cu{p q:Bs}(i:dr p=ab)(g:dr q=ab)(f:bl p q=ab):clash p q=under q p:=by
 rcases ub i with⟨a,rfl⟩|⟨a,b,rfl⟩ <;> rcases ub g with⟨c,rfl⟩|⟨c,d,rfl⟩
 .simp[clash,under,lj]
 .by_cases e:a=c
  .subst e;simp[clash,under,lj,cz]
  .have:¬(a.toNat:Int)=c.toNat:=λh=>e (pG.1 (by omega))
   have k:((a.toNat:Int)==(c.toNat:Int))=ae:=by grind
   have j:(c==a)=ae:=by grind
   simp[clash,under,lj,cz]
   grind
 .have:¬(a.toNat:Int)=c.toNat:=by
   grind [UInt8.toNat_inj,sq,sk]
  simp[clash,under,lj,cz,this]
 .simp[clash,under,lj]
theorem yQ{t:List bA}{i:Nat}(a:∀ j,j<i->gp t j=ab):jg t i=gp t i:=by
 unfold jg gp;rw[HT,Sf];cases n:dr (fy t i) with
 |false=>simp
 |true =>
  cases g:dX (AB t i) with
  |false=>simp
  |true =>
   cases l:(i==0||bl (fy t (i-1)) (fy t i)) with
   |false=>simp
   |true =>
    simp only[dJ];have f:∀ j,j<i->bl (fy t j) (fy t i)=ab:=by
     apply U8
     intro k m d
     by_cases e:k=i
     .grind
     .have:=a k (by omega)
      simp only[gp,bL,mK,gi] at this
      grind
    rw[md,cd,cd];have h:∀ j,j<i->clash (fy t j) (fy t i)=under (fy t i) (fy t j):=by
     intro j c;have b:dr (fy t j)=ab:=by
      have:=a j c;simp only[gp,bL] at this;exact this.1.1.1
     grind [Cu]
    grind
def Hm(t:List bA):n6 t=dj t:=by
 unfold n6 dj
 congr 1
 rw[md,cd,cd]
 constructor
 .intro h i
  induction i using Nat.strongRecOn with
  |_ i a=>grind [yQ]
 grind [yQ]
end R1
end Go.AM
namespace Go.AM.R1
section
open Go.Proofs
variable {X:Cx ah}
def N6(a:Int)(b:C) (n:Int):Ev X 23 [.e (.agg [.c (.int .i64 a),.c b]),.e (.one (.c (.rp [.int .i64 n])))] [] (dB (a==n)) []:=by
 refine Ev.bQ Tryz.func23 rfl λd=>?_
 refine bk rfl av (AK.bm rfl ?_);simp[ag]
def XP:dh:=λargs σ=>match args,σ with
 |[.e (.agg [.c (.int .i64 a0),.c b]),.e (.one (.c (.rp [.int .i64 n])))],[]=>aa (dB (a0==n),[],[])
 |_,_=>af
def t23:dG X 23 XP:=by
 intro args σ res σ' obs h a;unfold XP at h;split at h
 .cases h;exact N6 _ _ _
 .cases h
abbrev PV(n:Int):D:=.e (.one (.c (.fn (.func 23) [] [.rp [.int .i64 n]])))
def qn(l:List cC) (n:Int):Int:=match l.findIdx? (λx=>x.1==n) with|some i=>i|none=>-1
def Kx{t:List cC}{n:Int}{i:Nat}(hi:i<t.length)(h:(t.getD i (0,[])).1=n)(a:∀ j,j<i->(t.getD j (0,[])).1≠n):qn t n=i:=by
 have:t.findIdx? (λf=>f.1==n)=aa i:=by
  rw[qq];refine⟨hi,?_,λj c=>?_⟩
  .simpa[ai,br hi] using h
  .have b:j<t.length:=by omega
   simpa[ai,br b] using a j c
 rw[qn,this]
def Ec{t:List cC}{n:Int}(a:∀ j,j<t.length->(t.getD j (0,[])).1≠n):qn t n=-1:=by
 have:t.findIdx? (λf=>f.1==n)=af:=by
  rw[qU];intro f c;obtain⟨j,b,rfl⟩:=dT c;simpa[ai,br b] using a j b
 rw[qn,this]
def Ky(t:List cC) (n:Int):Ev X 22 [cm.sl t,PV n] [] (dI (qn t n)) []:=by
 refine Ev.bQ Tryz.func22 rfl λf=>?_
 have e:=f.sl 0 rfl;have b:bC X [(23,XP)]:=.cons t23 .nil;refine aD b [] 100 rfl av ?_;refine AK.jO (λi=>i<=t.length/\∀ j,j<i->(t.getD j (0,[])).1≠n) (λi:Nat=>[(0,cm.sl t),(1,PV n),(7,dI t.length),(8,dI i)]) (λ_=>[]) (λi=>t.length-i) 0 rfl ?_ rfl av ⟨by omega,by omega⟩ ?_
 .simp[ag.cat,ag,aP.same]
 rintro i ⟨hi,a⟩
 by_cases h:i<t.length
 .by_cases c:(t.getD i (0,[])).1=n
  .refine aD b [(9,ab),(16,ab)] 100 rfl ?_ (AK.gJ (b5.zero rfl ?_))
   .simp only[ag,bz];exact⟨gi.2 c,by omega,by omega,cj (by omega)⟩
   .simp[ag,Kx h c a]
  .refine aD b [(9,ab),(16,ae)] 100 rfl ?_ (AK.fU (i+1) rfl ?_ rfl av ?_ ?_)
   .simp only[ag,bz];exact⟨by simp only[bu];omega,dm.2 c,by omega,by omega,cj (by omega)⟩
   .simp[ag.cat,ag,aP.same]
   .refine⟨by omega,λj d=>?_⟩
    rcases sJ.1 d with d|rfl
    .exact a j d
    .exact c
   .omega
 .refine aD b [(9,ae)] 100 rfl (by simp[ag];omega) (AK.leave rfl rfl ?_)
  refine aD b [] 100 rfl av (AK.bm rfl ?_);simp[ag,Ec (λj d=>a j (by omega))]
def XQ:dh:=λargs σ=>match args,σ with
 |[d,.e (.one (.c (.fn (.func 23) [] [.rp [.int .i64 n]])))],[]=>match kO 2 d with
  |none=>af
  |some (m,es)=>aa (dI (qn (cm.list m es) n),[],[cm.fits m es])
 |_,_=>af
def t22:dG X 22 XQ:=by
 intro args σ res σ' obs h a;unfold XQ at h;split at h
 .rename_i d n
  split at h
  .cases h
  rename_i m es hd
  cases h;exact(Ky _ n).args (λ_ vs=>cw.imp (λ_=>cm.jR hd a) (cw.imp (λ_ r=>r) (λ_ r=>r)) vs)
 .cases h
def Ca(t:List cC) (n:Int):(qn t n=-1/\t.find? (λx=>x.1==n)=af)∨∃ i:Nat,i<t.length/\qn t n=i/\t.find? (λx=>x.1==n)=aa (t.getD i (0,[])):=by
 unfold qn;cases h:t.findIdx? (λx=>x.1==n) with
 |none =>
  refine .inl ⟨rfl,?_⟩;rw[qU] at h;exact uQ.2 λx d=>by simp[h x d]
 |some i =>
  rw[qq] at h;obtain⟨hi,a,b⟩:=h;refine .inr ⟨i,hi,rfl,?_⟩;rw[uI];refine⟨?_,i,hi,?_,λj c=>?_⟩
  .simpa[ai,br hi] using a
  .simp[ai,br hi]
  .have:=b j c;simpa using this
def fileOf(k:Int)(ps:List bw)(x:gD):Option bA:=match en k ps x.2 with
 |none=>af
 |some l=>match fO l with
  |none=>af
  |some t=>aa (x.1,t)
def cV(k:Int)(ps:List bw)(l:List gD):List bA:=l.map λx=>(fileOf k ps x).getD ([],[])
def cx(k:Int)(s:cC)(ps:List bw):Option (List bA) :=
 if ck k&&s.2.all (λx=>(fileOf k ps x).isSome)&&dj (cV k ps s.2) then aa (cV k ps s.2) else af
abbrev F3(a:List bA)(b:Bool):D:=.eJ [.one (.c (.sl ae 2 a.length (cF.fn a))),.one (.c (.bool b))]
abbrev Ek(s:cC):D:=.e (.agg [.c (.int .i64 s.1),.c (.sl ae 2 s.2.length (cL.fn s.2))])
theorem pe{k:Int}{ps:List bw}{l:List gD}{i:Nat}(h:i<l.length):cV k ps (l.take (i+1))=cV k ps (l.take i)++[(fileOf k ps (l.getD i ([],[]))).getD ([],[])]:=by
 unfold cV
 grind [List.take_add_one]
def pf{k:Int}{ps:List bw}{s:cC}{i:Nat}(h:i<s.2.length)(a:fileOf k ps (s.2.getD i ([],[]))=af):cx k s ps=af:=by
 unfold cx;rw[aY]
 grind
def xN{k:Int}{ps:List bw}{ns:List Int}{l:List Bs}(h:en k ps ns=aa l)(b:ns.length<=4000000):l.flatten.length<=140737488355328/\l.length<=4000000:=by
 unfold en at h;split at h
 .rename_i a
  cases h;refine⟨?_,by grind⟩
  have key:∀ ns:List Int,(ns.all λn=>(du k ps n).isSome)=ab->(ns.map λn=>(du k ps n).getD []).flatten.length<=8*ns.length:=by
   intro ns
   induction ns with
   |nil=>grind
   |cons n ns ih =>
    intro h;simp only[List.all_cons,bL] at h
    grind [yy]
  grind
 grind
def Cd(k:Int)(s:cC)(ps:List bw)(J:s.2.length<=4000000)(I:∀ x∈s.2,x.2.length<=4000000) :
  Ev (Cx.beside ah) 24 [dI k,Ek s,cP.sl ps] [] (F3 ((cx k s ps).getD []) (cx k s ps).isSome) []:=by
 refine Ev.bQ Tryz.func24 rfl λD=>?_
 have A:=D.sl 2 rfl;have a:bC (Cx.beside ah) [(41,jX aI (λk=>dB (ck k)) λ_=>[])]:=.cons t41 .nil
 cases n:ck k with
 |false =>
  refine aD a [(15,ae),(16,ab)] 100 rfl ?_ (AK.bm rfl ?_)
  .simp[ag,n]
  .simp[ag,ag.cat,cx,n]
 |true =>
  have u:dG (Cx.work ah) 77 (l4 k):=Ry Up n;refine aD a [(15,ab),(16,ae),(1000004,ab)] 100 rfl ?_ ?_
  .simp[ag,n]
  refine AK.ir 8 60 2 rfl rfl ?_;refine aD a [] 100 rfl av ?_;refine AK.bO 2 (λi=>i<=s.2.length/\∀ j,j<i->(fileOf k ps (s.2.getD j ([],[]))).isSome=ab) (λi:Nat=>[(0,dI k),(2,cP.sl ps),(4,.e (.one (.ptr 0 0))),(8,.e (.one (.vec 1 2 (cV k ps (s.2.take i)).length (cF.fn (cV k ps (s.2.take i)))))),(18,cL.sl s.2),(19,dI s.2.length),(20,dI i)]) (λi=>[.cells 64 [.c (.int .i64 s.1),.c (.sl ae 2 s.2.length (cL.fn s.2))],.vec 60 2 (cV k ps (s.2.take i)).length (cF.fn (cV k ps (s.2.take i)))]) (λi=>s.2.length-i) 0 rfl ?_ rfl ?_ rfl ⟨by omega,by omega⟩ ?_
  .simp[ag.cat,ag,aP.same,aP.nil,cV]
  .simp[ag.cat,ag,aP.same,aP.nil,cV]
  rintro i ⟨hi,w⟩
  by_cases h:i<s.2.length
  .have q:s.2.getD i ([],[])∈s.2:=by grind
   generalize f:s.2.getD i ([],[])=x at q;have g:=I x q;have d:=Ce u ps x.2 g;cases b:en k ps x.2 with
   |none =>
    rw[b] at d;refine aD a [(21,ab)] 100 rfl ?_ ?_
    .exact⟨by omega,by omega,cj (by omega)⟩
    refine AK.cQ (f▸d) [] rfl ?_;refine aD a [(33,ab)] 100 rfl ?_ (AK.ei (b5.zero rfl ?_))
    .simp[ag]
    .have e:fileOf k ps x=af:=by simp[fileOf,b]
     rw[pf h (by grind)]
     simp[ag,ag.cat]
   |some l =>
    obtain⟨r,G⟩:=xN b g;rw[b] at d;have p:=Ej (X:=Cx.beside ah) l r;refine aD a [(21,ab)] 100 rfl ?_ ?_
    .exact⟨by omega,by omega,cj (by omega)⟩
    refine AK.cQ (f▸d) [] rfl ?_;refine aD a [(33,ae)] 100 rfl ?_ ?_
    .simp[ag]
    refine AK.cQ p [] rfl ?_;cases B:fO l with
    |none =>
     refine aD a [(40,ab)] 100 rfl ?_ (AK.ei (b5.zero rfl ?_))
     .simp[ag]
     .have e:fileOf k ps x=af:=by simp[fileOf,b,B]
      rw[pf h (by grind)]
      simp[ag,ag.cat]
    |some t =>
     have e:fileOf k ps x=aa (x.1,t):=by simp[fileOf,b,B]
     have H:s.2.getD (i:Int).toNat cL.bD=x:=f;have E:(cV k ps (s.2.take i)).length<=4000000:=by simp[cV];omega
     have v:aP ((cV k ps (s.2.take i)).length+1) (cO (cV k ps (s.2.take i)).length (cF.fn (cV k ps (s.2.take i))) λo=>[[C.str (s.2.getD (i:Int).toNat cL.bD).1,C.str ((aa t).getD [])]].getD o []) (cF.fn (cV k ps (s.2.take (i+1)))):=by
      rw[pe h,f,e,H];exact cF.cn (cV k ps (s.2.take i)) (x.1,t)
     have y:(cV k ps (s.2.take i)).length+1=(cV k ps (s.2.take (i+1))).length:=by grind [pe]
     refine aD a [(40,ae)] 100 rfl ?_ (AK.aQ (i+1) rfl ?_ ?_ ?_ ?_)
     .refine⟨by simp only[bu];omega,rfl,rfl,?_,rfl⟩
      show _*32<=_;omega
     .refine ag.cat.2 ⟨rfl,ag.cat.2 ⟨⟨rfl,aP.same⟩,ag.cat.2 ⟨av,ag.cat.2 ⟨⟨y,v⟩,ag.cat.2 ⟨⟨rfl,aP.same⟩,ag.cat.2 ⟨rfl,ag.cat.2 ⟨?_,av⟩⟩⟩⟩⟩⟩⟩;simp[ag]
     .exact ag.cat.2 ⟨ag.cat.2 ⟨rfl,ag.cat.2 ⟨⟨rfl,aP.same⟩,av⟩⟩,ag.cat.2 ⟨⟨y,v⟩,av⟩⟩
     .grind
     .omega
  .have e:i=s.2.length:=by omega
   subst e;refine aD a [(21,ae)] 100 rfl (by simp[ag]) (AK.leaveD rfl rfl ?_)
   rw[b6];have m:=El (X:=Cx.beside ah) (cV k ps s.2);rw[Hm] at m;refine aD a [] 100 rfl av ?_;refine AK.cQ m [] rfl ?_;have F:s.2.all (λx=>(fileOf k ps x).isSome)=ab:=List.all_eq_true.2 λx q=>by
    grind [List.mem_iff_getElem]
   cases z:dj (cV k ps s.2) with
   |false =>
    refine aD a [(51,ab)] 100 rfl ?_ (AK.bm rfl ?_)
    .simp[ag]
    .simp[ag,ag.cat,cx,z]
   |true =>
    refine aD a [(51,ae)] 100 rfl ?_ (AK.bm rfl ?_)
    .simp[ag]
    .simp[ag,ag.cat,cx,z,n,F,aP.same]
abbrev aZ:=List bw×List cC×List (Int×Int)
def iS(s:aZ):Prop:=∀ x∈s.2.1,x.2.length<=4000000/\∀ y∈x.2,y.2.length<=4000000
abbrev eH(s:aZ):D:=.e (.agg [.c (.sl ae 2 s.1.length (cP.fn s.1)),.c (.sl ae 2 s.2.1.length (cm.fn s.2.1)),.c (.sl ae 2 s.2.2.length (cH.fn s.2.2))])
def eb(k:Int)(s:aZ) (no:Int):Option (List bA):=match s.2.1.find? (λx=>x.1==no) with
 |none=>af
 |some x=>cx k x s.1
def te:dh:=Dk aI (Hf cL) (aL cP) (λk s ps=>F3 ((cx k s ps).getD []) (cx k s ps).isSome) λ_ s _=>[s.2.length<=4000000,∀ x∈s.2,x.2.length<=4000000]
def yz:dG (Cx.beside ah) 24 te:=.IW λk s ps h=>Cd k s ps h.1 h.2
def r8(k:Int)(s:aZ) (no:Int)(j:iS s) :
  Ev (Cx.beside ah) 9 [dI k,eH s,dI no] [] (F3 ((eb k s no).getD []) (eb k s no).isSome) []:=by
 refine Ev.bQ Tryz.func9 rfl λm=>?_
 have a:bC (Cx.beside ah) [(22,XQ),(24,te)]:=.cons t22 (.cons yz .nil);have f:cm.list s.2.1.length (cm.fn s.2.1)=s.2.1:=cm.list_fn _;refine aD a [(1000001,ab)] 100 rfl av ?_;refine AK.freeze 5 1 rfl rfl rfl ?_;rcases Ca s.2.1 no with⟨c,b⟩|⟨i,hi,c,b⟩
 .refine aD a [(14,ab)] 100 rfl ?_ (AK.bm rfl ?_)
  .simp only[ag,f,c];exact⟨rfl,cm.aH _⟩
  .simp[ag.cat,ag,eb,b]
 .have l:s.2.1.getD i (0,[])∈s.2.1:=by grind
  obtain⟨g,h⟩:=j _ l;have e:eb k s no=cx k (s.2.1.getD i (0,[])) s.1:=by simp only[eb,b]
  have d:s.2.1.getD (qn (cm.list s.2.1.length (cm.fn s.2.1)) no).toNat cm.bD=s.2.1.getD i (0,[]):=by grind
  refine aD a [(14,ae)] 100 rfl ?_ (AK.bm rfl ?_)
  .simp only[ag,d,cL.list_fn,f,c];exact⟨cL.aH _,cP.aH _,g,h,by omega,by omega,eu (by omega),cm.aH _⟩
  .simp only[d,cL.list_fn,cP.list_fn,e];exact ag.cat.2 ⟨⟨av,aP.same⟩,ag.cat.2 ⟨av,av⟩⟩
def Oe:Arg aZ:=⟨eH,λd=>match d with
 |.e (.agg [.c a,.c b,.c c])=>match kO 2 (.e (.one (.c a))) with
  |some (g,l)=>match kO 2 (.e (.one (.c b))) with
   |some (m,j)=>match kO 2 (.e (.one (.c c))) with
    |some (k,n)=>aa ((cP.list g l,cm.list m j,cH.list k n),[cP.fits g l,cm.fits m j,cH.fits k n])
    |none=>af
   |none=>af
  |none=>af
 |_=>af,λ{d a o} h i σ s v r=>by
 split at h
 .split at h
  .rename_i g l u
   split at h
   .rename_i m j q
    split at h
    .rename_i k n w
     cases h;obtain⟨vs,y,f⟩:=r
     match vs,f with
     |[],f=>exact f.elim
     |[_],f=>exact f.2.elim
     |[_,_],f=>exact f.2.2.elim
     |_::_::_::_::_,f=>exact f.2.2.2.elim
     |[t,x,p],f =>
      exact⟨_,y,cP.jR (σ:=[]) (s:=s) (v:=t) u i.1 f.1,cm.jR (σ:=[]) (s:=s) (v:=x) q i.2.1 f.2.1,cH.jR (σ:=[]) (s:=s) (v:=p) w i.2.2 f.2.2.1,av⟩
    grind
   grind
  grind
 grind⟩
abbrev fV(p:bw)(i:Nat):cA:=p.2.getD i (0,[])
def iG(k:Int)(p:bw)(i:Nat):Bool:=right k (fV p i)&&(i==0||decide ((fV p (i-1)).1<(fV p i).1))
theorem tf(k:Int)(p:bw):jo k p=((bh p.2.length).all (iG k p)&&(ck k&&decide (1<=p.1)&&decide (p.1<=99)&&decide (1<=p.2.length)&&decide (p.2.length<=4))):=by
 have e:(p.2.all (right k)&&Ak (p.2.map (·.1)))=(bh p.2.length).all (iG k p):=by
  rw[md,bL,List.all_eq_true,List.all_eq_true];unfold Ak;rw[List.all_eq_true];have b:∀ i,i<p.2.length->(p.2.map (·.1)).getD i 0=(fV p i).1:=λi hi=>by grind
  constructor
  .rintro⟨c,a⟩ i hi;have hi:=rj.1 hi;have q:=a i (by grind)
   rw[b i hi] at q;unfold iG;rw[c (fV p i) (by grind),dJ]
   rcases oI i with rfl|f
   .rfl
   grind
  .intro h;refine⟨λx d=>?_,λi hi=>?_⟩
   .obtain⟨i,hi,rfl⟩:=lM.1 d;have:=h i (rj.2 hi);simp only[iG,bL] at this
    grind
   .have hi:i<p.2.length:=by grind
    have:=h i (rj.2 hi);simp only[iG,bL] at this
    grind
 rw[<-e];unfold jo;cases ck k <;> cases decide (1<=p.1) <;> cases decide (p.1<=99) <;> cases decide (1<=p.2.length) <;> cases decide (p.2.length<=4) <;> simp
def yA{k:Int}{p:bw}{i:Nat}(hi:i<p.2.length)(h:iG k p i=ae):jo k p=ae:=by
 grind [tf]
theorem qI{k:Int}{x:cA}(a:ck k=ab):(chunk k x).isSome=right k x:=by
 unfold chunk right
 grind
def Hn(k:Int)(p:bw)(d:ck k=ab)(u:p.2.length<=4000000):Ev X 161 [dI k,xM p] [] (dB (jo k p)) []:=by
 refine Ev.bQ Tryz.func161 rfl λy=>?_
 have a:bC X [(41,jX aI (λk=>dB (ck k)) λ_=>[]),(173,p0 S5 aI (λx k=>Ag (chunk k x)) λ_ k=>[ck k=ab])]:=.cons t41 (.cons (KB Up) .nil)
 refine aD a [] 100 rfl av ?_;refine AK.bO 1 (λi=>i<=p.2.length/\∀ j,j<i->iG k p j=ab) (λi:Nat=>[(0,dI k),(3,.e (.one (.ptr 0 0))),(10,dE.sl p.2),(11,dI p.2.length),(12,dI i)]) (λ_=>[.cells 85 [.c (.int .i64 p.1),.c (sP p)]]) (λi=>p.2.length-i) 0 rfl ?_ rfl ?_ rfl ⟨by omega,by omega⟩ ?_
 .simp[ag.cat,ag,aP.same]
 .simp[ag.cat,ag,aP.same]
 rintro i ⟨hi,g⟩
 by_cases h:i<p.2.length
 .cases m:right k (fV p i) with
  |false =>
   have n:(chunk k (fV p i)).isSome=ae:=by grind [qI]
   refine aD a [(13,ab),(24,ab),(40,ab)] 100 rfl ?_ (AK.ei (b5.zero rfl ?_))
   .refine⟨rfl,?_,d,by omega,by omega,cj (by omega)⟩
    grind
   .rw[yA h (by simp only[iG,m,pI])]
    simp[ag]
  |true =>
   have n:(!(chunk k (fV p i)).isSome)=ae:=by grind [qI]
   by_cases w:i=0
   .subst w;refine aD a [(13,ab),(24,ae),(27,ae),(40,ae)] 100 rfl ?_ (AK.aQ 1 rfl ?_ ?_ ⟨by omega,λj l=>?_⟩ (by omega))
    .simp only[ag,bu]
     grind
    .simp[ag.cat,ag,aP.same]
    .simp[ag.cat,ag,aP.same]
    .have:j=0:=by omega
     subst this;simp only[iG,m,dJ];rfl
   .have s:((i:Int)-1).toNat=i-1:=by omega
    cases r:decide ((fV p (i-1)).1<(fV p i).1) with
    |false =>
     refine aD a [(13,ab),(24,ae),(27,ab),(38,ab),(40,ab)] 100 rfl ?_ (AK.ei (b5.zero rfl ?_))
     .have o:(p.2.getD ((i:Int)-1).toNat dE.bD).1=(fV p (i-1)).1:=by rw[s];rfl
      refine⟨rfl,cj ?_,by omega,by omega,by simp only[bu];omega,cj (by omega),n,d,by omega,by omega,cj (by omega)⟩
      rw[o];show (fV p i).1<=_
      grind
     .rw[yA h (by simp only[iG,m,r,dJ,Bool.or_false];grind)]
      simp[ag]
    |true =>
     refine aD a [(13,ab),(24,ae),(27,ab),(38,ae),(40,ae)] 100 rfl ?_ (AK.aQ (i+1) rfl ?_ ?_ ⟨by omega,λj l=>?_⟩ (by omega))
     .have o:(p.2.getD ((i:Int)-1).toNat dE.bD).1=(fV p (i-1)).1:=by rw[s];rfl
      refine⟨by simp only[bu];omega,rfl,eu ?_,by omega,by omega,by simp only[bu];omega,cj (by omega),n,d,by omega,by omega,cj (by omega)⟩
      rw[o];show ¬(fV p i).1<=_
      grind
     .simp[ag.cat,ag,aP.same]
     .simp[ag.cat,ag,aP.same]
     .rcases sJ.1 l with l|rfl
      .grind
      .simp only[iG,m,r,dJ,Bool.or_true]
 .have e:i=p.2.length:=by omega
  subst e;refine aD a [(13,ae)] 100 rfl (by simp[ag]) (AK.leaveD rfl rfl ?_)
  have v:(bh p.2.length).all (iG k p)=ab:=List.all_eq_true.2 λj l=>g j (rj.1 l)
  rw[tf,v,d]
  by_cases b:1<=p.1
  .by_cases f:p.1<=99
   .by_cases q:1<=p.2.length
    .by_cases t:p.2.length<=4
     .refine aD a [(43,ab),(47,ab),(52,ab),(58,ab),(64,ab)] 100 rfl ?_ (AK.bm rfl ?_)
      .exact⟨cj (by omega),cj (by omega),cj f,cj b,d⟩
      .simp[ag,b,f,q,t]
     .refine aD a [(43,ab),(47,ab),(52,ab),(58,ab),(64,ae)] 100 rfl ?_ (AK.bm rfl ?_)
      .exact⟨eu (by omega),cj (by omega),cj f,cj b,d⟩
      .simp[ag,b,f,q,t]
    .refine aD a [(43,ab),(47,ab),(52,ab),(58,ae)] 100 rfl ?_ (AK.bm rfl ?_)
     .exact⟨eu (by omega),cj f,cj b,d⟩
     .simp[ag,b,f,q]
   .refine aD a [(43,ab),(47,ab),(52,ae)] 100 rfl ?_ (AK.bm rfl ?_)
    .exact⟨eu f,cj b,d⟩
    .simp[ag,b,f]
  .refine aD a [(43,ab),(47,ae)] 100 rfl ?_ (AK.bm rfl ?_)
   .exact⟨eu b,d⟩
   .simp[ag,b]
def F4:dh:=p0 aI (Hf dE) (λk p=>dB (jo k p)) λk p=>[ck k=ab,p.2.length<=4000000]
def Of:dG X 161 F4:=.tb λk p h=>Hn k p h.1 h.2
def Hs(l:List (Int×Int))(f:l.length<=4000000):Ev X 113 [cH.sl l] [] (.e (.one (.bp 0 (.sl l.length 2 0 l.length)))) [.buf 90 2 l.length (cH.fn l)]:=by
 refine Ev.bQ Tryz.func113 rfl λd=>?_
 refine bk rfl av ?_;refine AK.BS tok rfl rfl rfl rfl rfl rfl λb c=>?_
 cases b with
 |true =>
  obtain rfl:=hX (c rfl);refine bk rfl av ?_;refine AK.Rn 2 90 2 (cH.fn []) rfl ?_;refine AK.dD [0] rfl ?_ rfl rfl rfl (λj a=>absurd a (by simp))
  simp[ag]
 |false =>
  refine aX [] 7 rfl av ?_;refine AK.wh 5 90 2 (cH.fn []) rfl ?_;refine bk rfl ⟨rfl,rfl,show (0+l.length)*16<=_ by omega⟩ ?_
  refine AK.norm [.buf 90 2 l.length (cH.fn l)] rfl ?_ ?_
  .simp[ag.cat,ag,aP,cO]
  refine AK.dD [0] rfl ?_ rfl rfl rfl (λj a=>absurd a (by simp))
  simp[ag];rfl
def wI(l:List (Int×Int))(d:l.length<=4000000):Ev X 113 [cH.sl l] [] (cH.sl l) []:=by
 refine Ev.bQ Tryz.func113 rfl λc=>?_
 refine bk rfl av ?_;refine AK.BS tok rfl rfl rfl rfl rfl rfl λb a=>?_
 cases b with
 |true =>
  obtain rfl:=hX (a rfl);refine bk rfl av ?_;refine AK.bm rfl ?_;simp[ag,ag.cat,aP]
 |false =>
  refine bk rfl ⟨show (0+l.length)*16<=_ by omega,.inl rfl⟩ ?_
  refine AK.bm rfl ?_;simp[ag,ag.cat,aP,cO]
def Er(l:List cA)(d:l.length<=4000000):Ev X 165 [dE.sl l] [] (dE.sl l) []:=by
 refine Ev.bQ Tryz.func165 rfl λc=>?_
 refine bk rfl av ?_;refine AK.BS tok rfl rfl rfl rfl rfl rfl λb a=>?_
 cases b with
 |true =>
  obtain rfl:=hX (a rfl);refine bk rfl av ?_;refine AK.bm rfl ?_;simp[ag,ag.cat,aP]
 |false =>
  refine bk rfl ⟨show (0+l.length)*24<=_ by omega,.inl rfl⟩ ?_
  refine AK.bm rfl ?_;simp[ag,ag.cat,aP,cO]
def Et(l:List Int)(d:l.length<=4000000):Ev X 166 [cI.sl l] [] (cI.sl l) []:=by
 refine Ev.bQ Tryz.func166 rfl λc=>?_
 refine bk rfl av ?_;refine AK.BS tok rfl rfl rfl rfl rfl rfl λb a=>?_
 cases b with
 |true =>
  obtain rfl:=hX (a rfl);refine bk rfl av ?_;refine AK.bm rfl ?_;simp[ag,ag.cat,aP]
 |false =>
  refine bk rfl ⟨show (0+l.length)*8<=_ by omega,.inl rfl⟩ ?_
  refine AK.bm rfl ?_;simp[ag,ag.cat,aP,cO]
end
end Go.AM.R1
namespace Go.AM
section
open Go.Conc (G)
section
variable {P:aq}{X:Cx P}{N:Nat}{K:List It}{φ:Fr}{σ:List aV}
def AK.dA{ι:Type}{T:List (Nat×TI)}{fn:Func}{h:Nat}{res:ι->D}{σ':ι->List aV}(i:ι)(ks:List Nat){l:Nat}{E:ar}{cs:List A}{t:Tmp}{ty:ar}{b:TI}{ps:List Prop}
  (m:fn.results.toList=[.cell t ty]) (hi:bE T ty=aa b) (k:b.agg=ab) (q:look φ t=.e (.one (.ptr l 0))) (hl:fu l σ=aa (.cells E cs)) (a:aG cs.length b.size=ab) (d:fJ l ks=ae)
  (f:Dh (.e (.agg cs)) (jB ks (res i))=aa ps) (o:ag ps) (c:u5 ks.length (res i)=ab) (n:kI ks σ=aa (σ' i)) (g:ld (σ' i)=ab) (hn:eg ks=ab) (p:∀ j,j<h->ks[j]?=aa j) :
  AK X N (λe φ σ1=>∃ j,Kg T fn h (res j) (σ' j) e φ σ1) (.code .ret::K) .normal φ σ :=
 AK.ret ⟨i,.inl rfl,ks,l,E,cs,t,ty,b,ps,af,nofun,m,hi,k,bU a,q,dw hl,BW d,f,o,c,n,g,hn,p⟩
def AK.lZ{ι:Type}{T:List (Nat×TI)}{fn:Func}{k:Nat}{res:ι->D}{σ':ι->List aV}(i:ι)(ks:List Nat){l:Nat}{E:ar}{cs:List A}{t u:Tmp}{ty:ar}{b:TI}{x:E1}{ps:List Prop}
  (n:fn.results.toList=[.cell t ty,.tmp u]) (hi:bE T ty=aa b) (m:b.agg=ab) (r:look φ t=.e (.one (.ptr l 0))) (s:look φ u=.e x) (hl:fu l σ=aa (.cells E cs)) (a:aG cs.length b.size=ab) (f:fJ l ks=ae)
  (g:Dh (.eJ [.agg cs,x]) (jB ks (res i))=aa ps) (p:ag ps) (d:u5 ks.length (res i)=ab) (o:kI ks σ=aa (σ' i)) (c:ld (σ' i)=ab) (hn:eg ks=ab) (q:∀ j,j<k->ks[j]?=aa j) :
  AK X N (λe φ σ1=>∃ j,Kg T fn k (res j) (σ' j) e φ σ1) (.code .ret::K) .normal φ σ :=
 AK.ret ⟨i,.inl rfl,ks,l,E,cs,t,ty,b,ps,aa (u,x),λ_ h=>by cases h;exact s,n,hi,m,bU a,r,dw hl,BW f,g,p,d,o,c,hn,q⟩
def Ev.iu{T:List (Nat×TI)}(g:db P T){f:aW}{fn:Func}{c:Code}{args:List D}{σ σ':List aV}{res:D}(d:P.funcs[f]?=aa fn)(b:(fn.name== "runtime.NumGoroutine")=ae)(hb:fn.body=aa c)(a:bo args.length fn.ntmps=ab)
  (h:Fits args σ->AK X fn.ntmps (λe φ σ1=>∃ _:Unit,Kg T fn σ.length res σ' e φ σ1) [.code c] .normal (ju 0 args) σ):Ev X f args σ res σ' :=
 (cK.fY (ι:=Unit) (σ':=λ_=>σ') (res:=λ_=>res) g d b hb a h).uv
end
end
end Go.AM
namespace Go.AM.R1
section
open Go.Proofs
variable {X:Cx ah}
def _root_.Go.AM.hU.gE{α:Type}(c:hU α)(l:List α){i:Nat}(h:i<l.length)(d:α):aP (i+1) (cO i (c.fn (l.take i)) (λq=>[c.enc (l.getD i d)].getD q [])) (c.fn (l.take (i+1))):=by
 have e:l.take (i+1)=l.take i++[l.getD i d]:=by rw[j4];simp[ai,br h]
 have:=c.cn (l.take i) (l.getD i d);rw[<-e,show (l.take i).length=i by simp;omega] at this
 exact this
abbrev UN:dh:=jX (aL dE) (λl=>dE.sl l) λl=>[l.length<=4000000]
def X5:dG X 165 UN:=.oi λl h=>Er l h
abbrev UO:dh:=jX (aL cI) (λl=>cI.sl l) λl=>[l.length<=4000000]
def X6:dG X 166 UO:=.oi λl h=>Et l h
def Ar(p:bw)(c:p.2.length<=4000000):Ev X 111 [xM p] [] (xM p) []:=by
 refine Ev.iu tok Tryz.func111 rfl rfl rfl λd=>?_
 have b:bC X [(165,UN)]:=.cons X5 .nil;refine aD b [] 100 rfl ?_ ?_
 .simp only[ag,dE.list_fn];exact⟨dE.aH _,c⟩
 refine AK.dA () [] rfl rfl rfl rfl rfl rfl rfl rfl ?_ rfl rfl rfl rfl (λj a=>absurd a (by simp))
 simp[ag,ag.cat,aP.same,dE.list_fn]
abbrev F8:dh:=jX (Hf dE) (λp=>xM p) λp=>[p.2.length<=4000000]
def KU:dG X 111 F8:=.oi λp h=>Ar p h
def As(x:cC)(l:x.2.length<=4000000)(d:∀ y∈x.2,y.2.length<=4000000):Ev X 112 [Ek x] [] (Ek x) []:=by
 refine Ev.iu tok Tryz.func112 rfl rfl rfl λk=>?_
 have a:bC X [(166,UO)]:=.cons X6 .nil;refine aD a [(1000002,ab)] 100 rfl av ?_;refine AK.gj 2 1 92 2 (cL.fn []) rfl rfl ?_;refine aD a [] 100 rfl av ?_;refine AK.bO 4 (λi=>i<=x.2.length) (λi:Nat=>[(2,.e (.one (.ptr 1 0))),(3,.e (.one (.ptr 2 0))),(10,cL.sl x.2),(11,dI x.2.length),(12,dI i)])
  (λi=>[.cells 64 [.c (.int .i64 x.1),.c (.sl ae 2 x.2.length (cL.fn x.2))],.cells 64 [.c (.int .i64 0),.c (.sl ab 0 0 λ_=>[])],.cells 64 [.c (.int .i64 x.1),.vec 3 2 i (cL.fn (x.2.take i))],.vec 92 2 i (cL.fn (x.2.take i))]) (λi=>x.2.length-i) 0 rfl ?_ rfl ?_ rfl (by omega) ?_
 .simp[ag.cat,ag,aP.same]
 .simp[ag.cat,ag,aP]
 intro i hi
 by_cases h:i<x.2.length
 .have g:x.2.getD i ([],[])∈x.2:=by rw[ai,br h];exact oK h
  refine aD a [(13,ab)] 100 rfl ?_ (AK.aQ (i+1) rfl ?_ ?_ ?_ ?_)
  .have q:=d _ g;have b:x.2.getD (i:Int).toNat cL.bD=x.2.getD i ([],[]):=by rw[bz];rfl
   simp only[ag,b,cI.list_fn,bu];exact⟨by omega,av,av,show (i+1)*40<=_ by omega,cI.aH _,q,by omega,by omega,cj (by omega)⟩
  .simp[ag.cat,ag,aP.same]
  .have b:x.2.getD (i:Int).toNat cL.bD=x.2.getD i ([],[]):=by rw[bz];rfl
   have e:=cL.gE x.2 h ([],[]);simp only[ag.cat,ag,b,cI.list_fn,aC,aF];exact⟨aP.same,aP.same,e,e⟩
  .show i+1<=_;omega
  .omega
 .obtain rfl:i=x.2.length:=by omega
  refine aD a [(13,ae)] 100 rfl (by simp[ag]) (AK.leaveD rfl rfl ?_)
  refine aD a [] 100 rfl av ?_;refine AK.dA () [] rfl rfl rfl rfl rfl rfl rfl rfl ?_ rfl rfl rfl rfl (λj f=>absurd f (by simp))
  simp[ag,ag.cat,aP.same,aP]
abbrev F9:dh:=jX (Hf cL) (λx=>Ek x) λx=>[x.2.length<=4000000,∀ y∈x.2,y.2.length<=4000000]
def KV:dG X 112 F9:=.oi λx h=>As x h.1 h.2
abbrev dk:A:=.c (.sl ab 0 0 λ_=>[])
def iw(s:aZ)(o:s.1.length<=4000000)(d:∀ p∈s.1,p.2.length<=4000000)(n:s.2.1.length<=4000000)(f:iS s)(k:s.2.2.length<=4000000) :
  Ev X 72 [eH s] [] (.e (.agg [.bp 0 (.sl s.1.length 2 0 s.1.length),.bp 1 (.sl s.2.1.length 2 0 s.2.1.length),.c (.sl ae 2 s.2.2.length (cH.fn s.2.2))])) [.buf 85 2 s.1.length (cP.fn s.1),.buf 64 2 s.2.1.length (cm.fn s.2.1)]:=by
 refine Ev.iu tok Tryz.func72 rfl rfl rfl λm=>?_
 have a:bC X [(111,F8),(112,F9)]:=.cons KU (.cons KV .nil);refine aD a [(1000002,ab)] 100 rfl av ?_;refine AK.nc 2 0 85 2 (cP.fn []) rfl rfl ?_;refine AK.nc 2 1 64 2 (cm.fn []) rfl rfl ?_;refine aD a [] 100 rfl av ?_;refine AK.bO 5 (λi=>i<=s.1.length) (λi:Nat=>[(1,.e (.one (.ptr 0 0))),(2,.e (.one (.ptr 1 0))),(3,.e (.one (.ptr 2 0))),(9,cP.sl s.1),(10,dI s.1.length),(11,dI i)])
  (λi=>[.cells 27 [.c (.sl ae 2 s.1.length (cP.fn s.1)),.c (.sl ae 2 s.2.1.length (cm.fn s.2.1)),.c (.sl ae 2 s.2.2.length (cH.fn s.2.2))],.cells 27 [dk,dk,dk],.cells 27 [.bp 3 (.sl i 2 0 i),.bp 4 (.sl 0 2 0 0),dk],.buf 85 2 i (cP.fn (s.1.take i)),.buf 64 2 0 (cm.fn [])]) (λi=>s.1.length-i) 0 rfl ?_ rfl ?_ rfl (by omega) ?_
 .simp[ag.cat,ag,aP.same]
 .simp[ag.cat,ag,aP]
 intro i hi
 by_cases h:i<s.1.length
 .have g:s.1.getD i (0,[])∈s.1:=by grind
  have b:s.1.getD (i:Int).toNat cP.bD=s.1.getD i (0,[]):=by grind
  refine aD a [(12,ab)] 100 rfl ?_ (AK.aQ (i+1) rfl ?_ ?_ ?_ ?_)
  .have q:=d _ g;simp only[ag,b,dE.list_fn,bu];exact⟨by omega,av,av,show (i+1)*32<=_ by omega,dE.aH _,q,by omega,by omega,cj (by omega)⟩
  .simp[ag.cat,ag,aP.same]
  .have e:=cP.gE s.1 h (0,[]);simp only[ag.cat,ag,b,dE.list_fn,aC,aF];exact⟨⟨aP.same,aP.same,aP.same⟩,⟨aP.same,aP.same,aP.same⟩,⟨rfl,aP.same⟩,e,aP.same⟩
  .grind
  .omega
 obtain rfl:i=s.1.length:=by omega
 rw[b6];refine aD a [(12,ae)] 100 rfl (by simp[ag]) (AK.leaveD rfl rfl ?_)
 refine aD a [] 100 rfl av ?_;refine AK.bO 5 (λi=>i<=s.2.1.length) (λi:Nat=>[(1,.e (.one (.ptr 0 0))),(2,.e (.one (.ptr 1 0))),(3,.e (.one (.ptr 2 0))),(24,cm.sl s.2.1),(25,dI s.2.1.length),(26,dI i)])
  (λi=>[.cells 27 [.c (.sl ae 2 s.1.length (cP.fn s.1)),.c (.sl ae 2 s.2.1.length (cm.fn s.2.1)),.c (.sl ae 2 s.2.2.length (cH.fn s.2.2))],.cells 27 [dk,dk,dk],.cells 27 [.bp 3 (.sl s.1.length 2 0 s.1.length),.bp 4 (.sl i 2 0 i),dk],.buf 85 2 s.1.length (cP.fn s.1),.buf 64 2 i (cm.fn (s.2.1.take i))]) (λi=>s.2.1.length-i) 0 rfl ?_ rfl ?_ rfl (by omega) ?_
 .simp[ag.cat,ag,aP.same]
 .simp[ag.cat,ag,aP.same,aP]
 intro i hi
 by_cases h:i<s.2.1.length
 .have g:s.2.1.getD i (0,[])∈s.2.1:=by grind
  have b:s.2.1.getD (i:Int).toNat cm.bD=s.2.1.getD i (0,[]):=by grind
  refine aD a [(27,ab)] 100 rfl ?_ (AK.aQ (i+1) rfl ?_ ?_ ?_ ?_)
  .have q:=f _ g;simp only[ag,b,cL.list_fn,bu];exact⟨by omega,av,av,show (i+1)*32<=_ by omega,cL.aH _,q.1,q.2,by omega,by omega,cj (by omega)⟩
  .simp[ag.cat,ag,aP.same]
  .have e:=cm.gE s.2.1 h (0,[]);simp only[ag.cat,ag,b,cL.list_fn,aC,aF];exact⟨⟨aP.same,aP.same,aP.same⟩,⟨aP.same,aP.same,aP.same⟩,⟨rfl,aP.same⟩,aP.same,e⟩
  .grind
  .omega
 obtain rfl:i=s.2.1.length:=by omega
 rw[b6];refine aD a [(27,ae)] 100 rfl (by simp[ag]) (AK.leaveD rfl rfl ?_)
 refine aD a [] 100 rfl av ?_;refine AK.cQ (wI s.2.2 k) [] rfl ?_;refine aD a [] 100 rfl av ?_;refine AK.dA () [3,4] rfl rfl rfl rfl rfl rfl rfl rfl ?_ rfl rfl rfl rfl (λj l=>absurd l (by simp))
 .simp[ag.cat,ag,aP.same]
def wJ(s:aZ)(o:s.1.length<=4000000)(d:∀ p∈s.1,p.2.length<=4000000)(n:s.2.1.length<=4000000)(f:iS s)(k:s.2.2.length<=4000000) :
  Ev X 72 [eH s] [] (.e (.agg [.bp 0 (.sl s.1.length 2 0 s.1.length),.bp 1 (.sl s.2.1.length 2 0 s.2.1.length),.bp 2 (.sl s.2.2.length 2 0 s.2.2.length)])) [.buf 85 2 s.1.length (cP.fn s.1),.buf 64 2 s.2.1.length (cm.fn s.2.1),.buf 90 2 s.2.2.length (cH.fn s.2.2)]:=by
 refine Ev.iu tok Tryz.func72 rfl rfl rfl λm=>?_
 have a:bC X [(111,F8),(112,F9)]:=.cons KU (.cons KV .nil);refine aD a [(1000002,ab)] 100 rfl av ?_;refine AK.nc 2 0 85 2 (cP.fn []) rfl rfl ?_;refine AK.nc 2 1 64 2 (cm.fn []) rfl rfl ?_;refine aD a [] 100 rfl av ?_;refine AK.bO 5 (λi=>i<=s.1.length) (λi:Nat=>[(1,.e (.one (.ptr 0 0))),(2,.e (.one (.ptr 1 0))),(3,.e (.one (.ptr 2 0))),(9,cP.sl s.1),(10,dI s.1.length),(11,dI i)])
  (λi=>[.cells 27 [.c (.sl ae 2 s.1.length (cP.fn s.1)),.c (.sl ae 2 s.2.1.length (cm.fn s.2.1)),.c (.sl ae 2 s.2.2.length (cH.fn s.2.2))],.cells 27 [dk,dk,dk],.cells 27 [.bp 3 (.sl i 2 0 i),.bp 4 (.sl 0 2 0 0),dk],.buf 85 2 i (cP.fn (s.1.take i)),.buf 64 2 0 (cm.fn [])]) (λi=>s.1.length-i) 0 rfl ?_ rfl ?_ rfl (by omega) ?_
 .simp[ag.cat,ag,aP.same]
 .simp[ag.cat,ag,aP]
 intro i hi
 by_cases h:i<s.1.length
 .have g:s.1.getD i (0,[])∈s.1:=by grind
  have b:s.1.getD (i:Int).toNat cP.bD=s.1.getD i (0,[]):=by grind
  refine aD a [(12,ab)] 100 rfl ?_ (AK.aQ (i+1) rfl ?_ ?_ ?_ ?_)
  .have q:=d _ g;simp only[ag,b,dE.list_fn,bu];exact⟨by omega,av,av,show (i+1)*32<=_ by omega,dE.aH _,q,by omega,by omega,cj (by omega)⟩
  .simp[ag.cat,ag,aP.same]
  .have e:=cP.gE s.1 h (0,[]);simp only[ag.cat,ag,b,dE.list_fn,aC,aF];exact⟨⟨aP.same,aP.same,aP.same⟩,⟨aP.same,aP.same,aP.same⟩,⟨rfl,aP.same⟩,e,aP.same⟩
  .grind
  .omega
 obtain rfl:i=s.1.length:=by omega
 rw[b6];refine aD a [(12,ae)] 100 rfl (by simp[ag]) (AK.leaveD rfl rfl ?_)
 refine aD a [] 100 rfl av ?_;refine AK.bO 5 (λi=>i<=s.2.1.length) (λi:Nat=>[(1,.e (.one (.ptr 0 0))),(2,.e (.one (.ptr 1 0))),(3,.e (.one (.ptr 2 0))),(24,cm.sl s.2.1),(25,dI s.2.1.length),(26,dI i)])
  (λi=>[.cells 27 [.c (.sl ae 2 s.1.length (cP.fn s.1)),.c (.sl ae 2 s.2.1.length (cm.fn s.2.1)),.c (.sl ae 2 s.2.2.length (cH.fn s.2.2))],.cells 27 [dk,dk,dk],.cells 27 [.bp 3 (.sl s.1.length 2 0 s.1.length),.bp 4 (.sl i 2 0 i),dk],.buf 85 2 s.1.length (cP.fn s.1),.buf 64 2 i (cm.fn (s.2.1.take i))]) (λi=>s.2.1.length-i) 0 rfl ?_ rfl ?_ rfl (by omega) ?_
 .simp[ag.cat,ag,aP.same]
 .simp[ag.cat,ag,aP.same,aP]
 intro i hi
 by_cases h:i<s.2.1.length
 .have g:s.2.1.getD i (0,[])∈s.2.1:=by grind
  have b:s.2.1.getD (i:Int).toNat cm.bD=s.2.1.getD i (0,[]):=by grind
  refine aD a [(27,ab)] 100 rfl ?_ (AK.aQ (i+1) rfl ?_ ?_ ?_ ?_)
  .have q:=f _ g;simp only[ag,b,cL.list_fn,bu];exact⟨by omega,av,av,show (i+1)*32<=_ by omega,cL.aH _,q.1,q.2,by omega,by omega,cj (by omega)⟩
  .simp[ag.cat,ag,aP.same]
  .have e:=cm.gE s.2.1 h (0,[]);simp only[ag.cat,ag,b,cL.list_fn,aC,aF];exact⟨⟨aP.same,aP.same,aP.same⟩,⟨aP.same,aP.same,aP.same⟩,⟨rfl,aP.same⟩,aP.same,e⟩
  .grind
  .omega
 obtain rfl:i=s.2.1.length:=by omega
 rw[b6];refine aD a [(27,ae)] 100 rfl (by simp[ag]) (AK.leaveD rfl rfl ?_)
 refine aD a [] 100 rfl av ?_;refine AK.cQ (Hs s.2.2 k) [] rfl ?_;refine aD a [] 100 rfl av ?_;refine AK.dA () [3,4,5] rfl rfl rfl rfl rfl rfl rfl rfl ?_ rfl rfl rfl rfl (λj l=>absurd l (by simp))
 .simp[ag.cat,ag,aP.same]
def oE{α:Type}(q:α->Bool)(l:List α):Int:=match l.findIdx? q with|some i=>i|none=>-1
def p6{α:Type}{q:α->Bool}{t:List α}{i:Nat}{d:α}(hi:i<t.length)(h:q (t.getD i d)=ab)(a:∀ j,j<i->q (t.getD j d)=ae):oE q t=i:=by
 have:t.findIdx? q=aa i:=by
  rw[qq]
  grind
 rw[oE,this]
def lL{α:Type}{q:α->Bool}{t:List α}{d:α}(a:∀ j,j<t.length->q (t.getD j d)=ae):oE q t=-1:=by
 have:t.findIdx? q=af:=by
  rw[qU];intro f b;obtain⟨j,c,rfl⟩:=dT b
  grind
 rw[oE,this]
def On(l:List bw)(n:l.length<=4000000)(b:Nat)(cs:List C)(q:bw->Bool)(d:∀ x,x∈l->Ev X b [xM x,.e (.one (.c (.rp cs)))] [] (dB (q x)) []) :
  Ev X 110 [.e (.one (.bp 0 (.sl l.length 2 0 l.length))),.e (.one (.c (.fn (.func b) [] [.rp cs])))] [.buf 85 2 l.length (cP.fn l)] (dI (oE q l)) [.buf 85 2 l.length (cP.fn l)]:=by
 refine Ev.bQ Tryz.func110 rfl λm=>?_
 refine bk rfl av ?_;refine AK.bO 1 (λi=>i<=l.length/\∀ j,j<i->q (l.getD j (0,[]))=ae) (λi:Nat=>[(0,.e (.one (.bp 0 (.sl l.length 2 0 l.length)))),(1,.e (.one (.c (.fn (.func b) [] [.rp cs])))),(7,dI l.length),(8,dI i)]) (λ_=>[.buf 85 2 l.length (cP.fn l)]) (λi=>l.length-i) 0 rfl ?_ rfl ?_ rfl ⟨by omega,by omega⟩ ?_
 .simp[ag.cat,ag,aP.same]
 .simp[ag.cat,ag,aP.same]
 rintro i ⟨hi,a⟩
 by_cases h:i<l.length
 .have k:l.getD i (0,[])∈l:=by grind
  have f:l.getD ((0+(i:Int).toNat:Nat)) cP.bD=l.getD i (0,[]):=by simp;rfl
  refine aX [(9,ab)] 100 rfl ?_ ?_
  .simp only[ag]
   grind
  rw[f];refine AK.cQ (d _ k) [] rfl ?_;cases g:q (l.getD i (0,[])) with
  |true =>
   refine aX [(16,ab)] 100 rfl ?_ (AK.ei (b5.mk [0] rfl ?_ rfl rfl rfl l3))
   .simp[ag]
   .simp[ag,p6 h g a]
  |false =>
   refine aX [(16,ae)] 100 rfl ?_ (AK.aQ (i+1) rfl ?_ ?_ ?_ ?_)
   .simp[ag,bu];omega
   .simp[ag.cat,ag,aP.same]
   .simp[ag.cat,ag,aP.same]
   .grind
   .omega
 .refine aX [(9,ae)] 100 rfl (by simp[ag];omega) (AK.leaveD rfl rfl ?_)
  refine bk rfl av (AK.dD [0] rfl ?_ rfl rfl rfl l3);simp[ag,lL (λj o=>a j (by omega))]
def Oo(l:List cC)(n:l.length<=4000000)(b:Nat)(cs:List C)(q:cC->Bool)(d:∀ x,x∈l->Ev X b [Ek x,.e (.one (.c (.rp cs)))] [] (dB (q x)) []) :
  Ev X 22 [.e (.one (.bp 0 (.sl l.length 2 0 l.length))),.e (.one (.c (.fn (.func b) [] [.rp cs])))] [.buf 64 2 l.length (cm.fn l)] (dI (oE q l)) [.buf 64 2 l.length (cm.fn l)]:=by
 refine Ev.bQ Tryz.func22 rfl λm=>?_
 refine bk rfl av ?_;refine AK.bO 1 (λi=>i<=l.length/\∀ j,j<i->q (l.getD j (0,[]))=ae) (λi:Nat=>[(0,.e (.one (.bp 0 (.sl l.length 2 0 l.length)))),(1,.e (.one (.c (.fn (.func b) [] [.rp cs])))),(7,dI l.length),(8,dI i)]) (λ_=>[.buf 64 2 l.length (cm.fn l)]) (λi=>l.length-i) 0 rfl ?_ rfl ?_ rfl ⟨by omega,by omega⟩ ?_
 .simp[ag.cat,ag,aP.same]
 .simp[ag.cat,ag,aP.same]
 rintro i ⟨hi,a⟩
 by_cases h:i<l.length
 .have k:l.getD i (0,[])∈l:=by grind
  have f:l.getD ((0+(i:Int).toNat:Nat)) cm.bD=l.getD i (0,[]):=by simp;rfl
  refine aX [(9,ab)] 100 rfl ?_ ?_
  .simp only[ag]
   grind
  rw[f];refine AK.cQ (d _ k) [] rfl ?_;cases g:q (l.getD i (0,[])) with
  |true =>
   refine aX [(16,ab)] 100 rfl ?_ (AK.ei (b5.mk [0] rfl ?_ rfl rfl rfl l3))
   .simp[ag]
   .simp[ag,p6 h g a]
  |false =>
   refine aX [(16,ae)] 100 rfl ?_ (AK.aQ (i+1) rfl ?_ ?_ ?_ ?_)
   .simp[ag,bu];omega
   .simp[ag.cat,ag,aP.same]
   .simp[ag.cat,ag,aP.same]
   .grind
   .omega
 .refine aX [(9,ae)] 100 rfl (by simp[ag];omega) (AK.leaveD rfl rfl ?_)
  refine bk rfl av (AK.dD [0] rfl ?_ rfl rfl rfl l3);simp[ag,lL (λj o=>a j (by omega))]
def Oq(l:List (Int×Int))(n:l.length<=4000000)(b:Nat)(cs:List C)(q:(Int×Int)->Bool)(d:∀ x,x∈l->Ev X b [.e (.agg [.c (.int .i64 x.1),.c (.int .i64 x.2)]),.e (.one (.c (.rp cs)))] [] (dB (q x)) []) :
  Ev X 91 [cH.sl l,.e (.one (.c (.fn (.func b) [] [.rp cs])))] [] (dI (oE q l)) []:=by
 refine Ev.bQ Tryz.func91 rfl λm=>?_
 refine bk rfl av ?_;refine AK.bO 0 (λi=>i<=l.length/\∀ j,j<i->q (l.getD j (0,0))=ae) (λi:Nat=>[(0,cH.sl l),(1,.e (.one (.c (.fn (.func b) [] [.rp cs])))),(7,dI l.length),(8,dI i)]) (λ_=>[]) (λi=>l.length-i) 0 rfl ?_ rfl ?_ rfl ⟨by omega,by omega⟩ ?_
 .simp[ag.cat,ag,aP.same]
 .simp[ag.cat,ag,aP.same]
 rintro i ⟨hi,a⟩
 by_cases h:i<l.length
 .have k:l.getD i (0,0)∈l:=by grind
  have f:l.getD (((i:Int).toNat)) cH.bD=l.getD i (0,0):=by simp;rfl
  refine aX [(9,ab)] 100 rfl ?_ ?_
  .simp only[ag]
   grind
  rw[f];refine AK.cQ (d _ k) [] rfl ?_;cases g:q (l.getD i (0,0)) with
  |true =>
   refine aX [(16,ab)] 100 rfl ?_ (AK.ei (b5.mk [] rfl ?_ rfl rfl rfl fN))
   .simp[ag]
   .simp[ag,p6 h g a]
  |false =>
   refine aX [(16,ae)] 100 rfl ?_ (AK.aQ (i+1) rfl ?_ ?_ ?_ ?_)
   .simp[ag,bu];omega
   .simp[ag.cat,ag,aP.same]
   .simp[ag.cat,ag,aP.same]
   .grind
   .omega
 .refine aX [(9,ae)] 100 rfl (by simp[ag];omega) (AK.leaveD rfl rfl ?_)
  refine bk rfl av (AK.dD [] rfl ?_ rfl rfl rfl fN);simp[ag,lL (λj o=>a j (by omega))]
def R5(b:Nat->Int):Nat->List C:=λi=>[.int .u8 (b i)]
def Bytes(b:Nat->Int):Prop:=∀ i,0<=b i/\b i<=255
abbrev lu(m:Nat)(b:Nat->Int) (k:Int):aV:=.cells 74 [.c (.sl ae 1 m (R5 b)),.c (.int .i64 k)]
def cK.om{ι:Type}{f:aW}{fn:Func}{c:Code}{args:List D}{σ:List aV}{σ':ι->List aV}{res:ι->D}(d:Tryz.prog.funcs[f]?=aa fn)(b:(fn.name== "runtime.NumGoroutine")=ae)(hb:fn.body=aa c)(a:bo args.length fn.ntmps=ab)
  (h:Fits args σ->AK X fn.ntmps (λe φ σ1=>∃ j,b5 fn σ.length (res j) (σ' j) e φ σ1) [.code c] .normal (ju 0 args) σ):cK X f args σ res σ' :=
 cK.zV d b hb a λg=>AW.top (AK.of_code (h g))
def AK.lg{ι:Type}{fn:Func}{a:Nat}{res:ι->D}{σ':ι->List aV}{N:Nat}{φ:Fr}{σ:List aV}{K:List It}(i:ι)(k:AK X N (b5 fn a (res i) (σ' i)) K .normal φ σ):AK X N (λe φ σ1=>∃ j,b5 fn a (res j) (σ' j) e φ σ1) K .normal φ σ :=
 AK.iE (λ_ _ _ q=>⟨i,q⟩) k
def oo(m:Nat)(b:Nat->Int)(k:Nat) (n:Int):Int :=
 if m=0 then 0 else if k<m then b k % n else
  ((b ((k:Int) % m).toNat*131+b (((k:Int)*7+3) % m).toNat*1117+k*29+(k:Int) / m*53).toNat ^^^ ((b ((k:Int) % m).toNat*131+b (((k:Int)*7+3) % m).toNat*1117+k*29+(k:Int) / m*53) / 64).toNat:Nat) % n
set_option maxRecDepth 20000 in
def pg(m:Nat)(b:Nat->Int)(c:Bytes b)(k:Nat) (n:Int)(t:k<=4000000)(q:m<=1048576)(A:1<=n/\n<=4000000) :
  Ev X 14 [.e (.one (.ptr 0 0)),dI n] [lu m b k] (dI (oo m b k n)) [lu m b (k+1)]:=by
 refine Ev.bQ Tryz.func14 rfl λi=>?_
 have g:∀ j,j<([lu m b k]:List aV).length->([0]:List Nat)[j]?=aa j:=λj z=>by
  grind
 by_cases f:m=0
 .subst f;refine aX [(17,ae),(24,ab)] 100 rfl ?_ (AK.dD [0] rfl ?_ rfl rfl rfl g)
  .simp[ag,bu];omega
  .simp[ag,oo]
 have d:((k:Int)+1-1)=k:=by omega
 have h:((k:Int)+1-1).toNat=k:=by omega
 have l:=c k
 by_cases x:(k:Int)<m
 .refine aX [(17,ae),(24,ae),(36,ab)] 100 rfl ?_ (AK.dD [0] rfl ?_ rfl rfl rfl g)
  .simp only[ag,d,bz,ba,bJ,dm,bu];omega
  .have:k<m:=by omega
   simp[ag,oo,f,this]
 .refine aX [(17,ae),(24,ae),(36,ae)] 200 rfl ?_ (AK.dD [0] rfl ?_ rfl rfl rfl g)
  .simp only[ag,d,bJ,dm,bu];have a:(0:Int)<m:=by omega
   have r:=ri (k:Int) (by omega:(m:Int)≠0)
   have o:=ra (k:Int) a;have v1:=ri ((k:Int)*7+3) (by omega:(m:Int)≠0)
   have s:=ra ((k:Int)*7+3) a;have w1:0<=(k:Int) / m:=Int.ediv_nonneg (by omega) (by omega)
   have w2:(k:Int) / m<=k:=Int.ediv_le_self _ (by omega)
   generalize (k:Int) % m=u at *;generalize ((k:Int)*7+3) % m=v at *;generalize (k:Int) / m=w at *;have y:=c u.toNat;have p:=c v.toNat
   grind
  .have:¬k<m:=by omega
   simp[ag,oo,f,this,d]
def kS(m:Nat)(b:Nat->Int)(k:Nat) (n:Int)(a:1<=n):0<=oo m b k n/\oo m b k n<n:=by
 unfold oo;split
 .omega
 .split
  .exact⟨ri _ (by omega),ra _ (by omega)⟩
  .exact⟨ri _ (by omega),ra _ (by omega)⟩
def ez(m:Nat)(b:Nat->Int)(c:Bytes b)(k:Nat) (n:Int)(f:k<=4000000)(d:m<=1048576)(a:1<=n/\n<=4000000) :
  cK (ι:={ v:Int // 0<=v/\v<n }) X 14 [.e (.one (.ptr 0 0)),dI n] [lu m b k] (λv=>dI v.1) (λ_=>[lu m b (k+1)]):=by
 have h:=pg (X:=X) m b c k n f d a;exact⟨h.1,λs vs hr hh S cs hS=>h.2 s vs hr hh S cs (hS ⟨_,kS m b k n a.1⟩)⟩
def qL{α:Type}(q:α->Bool)(l:List α):(oE q l=-1/\∀ x∈l,q x=ae)∨∃ i:Nat,i<l.length/\oE q l=i/\(∀ x∈l.take i,q x=ae)/\(∀ x,l[i]?=aa x->q x=ab):=by
 unfold oE
 grind [List.findIdx?_eq_some_iff_getElem,List.getElem_of_mem]
def qM{lo hi j:Nat}{z:List C}{es:Nat->List C}(h:¬(lo<=j/\j<hi)):oQ lo hi z es j=es j:=aY h
theorem bq{α:Type}{l:List α}{i:Nat}(h:i<l.length)(d:α):l.take (i+1)=l.take i++[l.getD i d]:=by
 grind [List.take_add_one]
def lF{α:Type}{l:List α}{q:α->Bool}{i:Nat}(hi:i<l.length)(a:∀ x∈l.take i,q x=ae)(b:∀ x,l[i]?=aa x->q x=ab):(l.take (i+1)).filter (λx=>!q x)=l.take i:=by
 grind [List.take_add_one,List.filter_eq_self]
def _root_.Go.AM.hU.qK{α:Type}(c:hU α)(l:List α)(i:Nat)(x:α)(n:Nat)(hn:n<=l.length):aP n (m9 i (c.enc x) (c.fn l)) (c.fn (l.set i x)):=by
 intro q a;simp only[m9,hU.fn,sH]
 grind
structure X7 (l:List bw)(q:bw->Bool)(j:Nat)(ys:List bw):Prop where
 hj:j<=l.length
 len:ys.length=l.length
 done:ys.take ((l.take j).filter λx=>!q x).length=(l.take j).filter λx=>!q x
 rest:∀ i,j<=i->ys[i]?=l[i]?
def Ot(l:List bw)(v:l.length<=4000000)(b:Nat)(cs:List C)(q:bw->Bool)(p:∀ x,x∈l->Ev X b [xM x,.e (.one (.c (.rp cs)))] [] (dB (q x)) []) :
  cK (ι:={ es:Nat->List C // ∀ i,i<(l.filter λx=>!q x).length->es i=cP.fn (l.filter λx=>!q x) i }) X 115 [.e (.one (.bp 0 (.sl l.length 2 0 l.length))),.e (.one (.c (.fn (.func b) [] [.rp cs])))] [.buf 85 2 l.length (cP.fn l)]
   (λ_=>.e (.one (.bp 0 (.sl l.length 2 0 (l.filter λx=>!q x).length)))) (λes=>[.buf 85 2 l.length es.1]):=by
 refine cK.om Tryz.func115 rfl rfl rfl λA=>?_
 refine bk rfl av ?_;refine AK.cQ (On l v b cs q p) [0] rfl ?_;rcases qL q l with⟨o,m⟩|⟨i0,g,o,m,r⟩
 .rw[o];have n:l.filter (λx=>!q x)=l:=uP.2 λx t=>by grind
  refine aX [(12,ab)] 100 rfl (by simp[ag]) (AK.lg ⟨cP.fn l,λi _=>by grind⟩ (AK.dD [0] rfl ?_ rfl rfl rfl l3))
  simp[ag,n]
 rw[o];refine aX [(12,ae)] 100 rfl ?_ ?_
 .simp[ag,bu];omega
 refine AK.bO 1 (λs:Nat×List bw=>X7 l q s.1 s.2) (λs=>[(0,.e (.one (.bp 0 (.sl l.length 2 0 l.length)))),(1,.e (.one (.c (.fn (.func b) [] [.rp cs])))),(5,dI ((l.take s.1).filter λx=>!q x).length),(6,dI s.1)])
  (λs=>[.buf 85 2 l.length (cP.fn s.2)]) (λs=>l.length-s.1) (i0+1,l) rfl ?_ rfl ?_ rfl ?_ ?_
 .have e:((l.take (i0+1)).filter λx=>!q x).length=i0:=by rw[lF g m r];grind
  simp[ag.cat,ag,aP.same,e]
 .simp[ag.cat,ag,aP.same]
 .have e:=lF g m r;refine⟨by omega,rfl,?_,λ_ _=>rfl⟩
  grind
 rintro⟨j,d⟩ ⟨z,g2,g3,g4⟩;simp only at z g2 g3 g4
 by_cases h:j<l.length
 .have t:l.getD j (0,[])∈l:=by grind
  have f:((l.take j).filter λx=>!q x).length<=j:=eK (j3 _ _) (by grind)
  have u:d.getD (0+(j:Int).toNat) cP.bD=l.getD j (0,[]):=by
   grind
  refine aX [(19,ab)] 100 rfl ?_ ?_
  .simp only[ag]
   grind
  rw[u];refine AK.cQ (p _ t) [] rfl ?_;cases w:q (l.getD j (0,[])) with
  |false =>
   have k:(l.take (j+1)).filter (λx=>!q x)=(l.take j).filter (λx=>!q x)++[l.getD j (0,[])]:=by
    grind [bq]
   refine aX [(29,ab)] 100 rfl ?_ (AK.aQ (j+1,d.set ((l.take j).filter λx=>!q x).length (l.getD j (0,[]))) rfl ?_ ?_ ?_ ?_)
   .simp only[ag,bu]
    grind
   .simp[ag.cat,ag,k]
   .have e:=cP.qK d ((l.take j).filter λx=>!q x).length (l.getD j (0,[])) l.length (by omega)
    have y:0+((((l.take j).filter λx=>!q x).length:Nat):Int).toNat=((l.take j).filter λx=>!q x).length:=by omega
    simp only[ag.cat,ag,y,aC,aF];exact e
   .refine⟨by grind,by grind,?_,λi hi=>?_⟩
    .simp only;rw[k,bP,show ∀ a,[a].length=1 fromλ_=>rfl,j4,List.take_set,zf (by grind),g3,fH (by omega)]
     rfl
    grind
   grind
  |true =>
   have k:(l.take (j+1)).filter (λx=>!q x)=(l.take j).filter (λx=>!q x):=by
    grind [bq]
   refine aX [(29,ae)] 100 rfl ?_ (AK.aQ (j+1,d) rfl ?_ ?_ ?_ ?_)
   .simp[ag,bu];omega
   .simp[ag.cat,ag,aP.same,k]
   .simp[ag.cat,ag,aP.same]
   .refine⟨by grind,g2,by grind,λi hi=>g4 i (by grind)⟩
   grind
 .obtain rfl:j=l.length:=by omega
  rw[b6] at g3 ⊢;have f:(l.filter λx=>!q x).length<=l.length:=j3 _ _
  refine aX [(19,ae)] 100 rfl (by simp[ag]) (AK.leaveD rfl rfl ?_)
  refine bk rfl ?_ ?_
  .simp only[ag]
   grind
  refine AK.law (bF.DI tok rfl rfl rfl rfl rfl rfl ?_) rfl rfl ?_
  .simp only[cr,bz];omega
  refine bk rfl ?_ (AK.lg ⟨oQ (0+cr 0 (aa ((l.filter λx=>!q x).length:Int))) (0+cr 0 (aa ((l.filter λx=>!q x).length:Int))+(cr l.length af-cr 0 (aa ((l.filter λx=>!q x).length:Int)))) i85.zero (cP.fn d),λi hi=>?_⟩ (AK.dD [0] rfl ?_ rfl rfl rfl l3))
  .simp only[ag]
   grind
  .have e:d[i]?=(l.filter λx=>!q x)[i]?:=by grind
   refine(qM (by simp only[cr,bz];omega)).trans ?_
   simp only[hU.fn,sH,ai,e]
  .simp[ag,cr];rfl
structure X8 (l:List cC)(q:cC->Bool)(j:Nat)(ys:List cC):Prop where
 hj:j<=l.length
 len:ys.length=l.length
 done:ys.take ((l.take j).filter λx=>!q x).length=(l.take j).filter λx=>!q x
 rest:∀ i,j<=i->ys[i]?=l[i]?
def Ou(l:List cC)(v:l.length<=4000000)(b:Nat)(cs:List C)(q:cC->Bool)(p:∀ x,x∈l->Ev X b [Ek x,.e (.one (.c (.rp cs)))] [] (dB (q x)) []) :
  cK (ι:={ es:Nat->List C // ∀ i,i<(l.filter λx=>!q x).length->es i=cm.fn (l.filter λx=>!q x) i }) X 118 [.e (.one (.bp 0 (.sl l.length 2 0 l.length))),.e (.one (.c (.fn (.func b) [] [.rp cs])))] [.buf 64 2 l.length (cm.fn l)]
   (λ_=>.e (.one (.bp 0 (.sl l.length 2 0 (l.filter λx=>!q x).length)))) (λes=>[.buf 64 2 l.length es.1]):=by
 refine cK.om Tryz.func118 rfl rfl rfl λA=>?_
 refine bk rfl av ?_;refine AK.cQ (Oo l v b cs q p) [0] rfl ?_;rcases qL q l with⟨o,m⟩|⟨i0,g,o,m,r⟩
 .rw[o];have n:l.filter (λx=>!q x)=l:=uP.2 λx t=>by grind
  refine aX [(12,ab)] 100 rfl (by simp[ag]) (AK.lg ⟨cm.fn l,λi _=>by grind⟩ (AK.dD [0] rfl ?_ rfl rfl rfl l3))
  simp[ag,n]
 rw[o];refine aX [(12,ae)] 100 rfl ?_ ?_
 .simp[ag,bu];omega
 refine AK.bO 1 (λs:Nat×List cC=>X8 l q s.1 s.2) (λs=>[(0,.e (.one (.bp 0 (.sl l.length 2 0 l.length)))),(1,.e (.one (.c (.fn (.func b) [] [.rp cs])))),(5,dI ((l.take s.1).filter λx=>!q x).length),(6,dI s.1)])
  (λs=>[.buf 64 2 l.length (cm.fn s.2)]) (λs=>l.length-s.1) (i0+1,l) rfl ?_ rfl ?_ rfl ?_ ?_
 .have e:((l.take (i0+1)).filter λx=>!q x).length=i0:=by rw[lF g m r];grind
  simp[ag.cat,ag,aP.same,e]
 .simp[ag.cat,ag,aP.same]
 .have e:=lF g m r;refine⟨by omega,rfl,?_,λ_ _=>rfl⟩
  grind
 rintro⟨j,d⟩ ⟨z,g2,g3,g4⟩;simp only at z g2 g3 g4
 by_cases h:j<l.length
 .have t:l.getD j (0,[])∈l:=by grind
  have f:((l.take j).filter λx=>!q x).length<=j:=eK (j3 _ _) (by grind)
  have u:d.getD (0+(j:Int).toNat) cm.bD=l.getD j (0,[]):=by
   grind
  refine aX [(19,ab)] 100 rfl ?_ ?_
  .simp only[ag]
   grind
  rw[u];refine AK.cQ (p _ t) [] rfl ?_;cases w:q (l.getD j (0,[])) with
  |false =>
   have k:(l.take (j+1)).filter (λx=>!q x)=(l.take j).filter (λx=>!q x)++[l.getD j (0,[])]:=by
    grind [bq]
   refine aX [(29,ab)] 100 rfl ?_ (AK.aQ (j+1,d.set ((l.take j).filter λx=>!q x).length (l.getD j (0,[]))) rfl ?_ ?_ ?_ ?_)
   .simp only[ag,bu]
    grind
   .simp[ag.cat,ag,k]
   .have e:=cm.qK d ((l.take j).filter λx=>!q x).length (l.getD j (0,[])) l.length (by omega)
    have y:0+((((l.take j).filter λx=>!q x).length:Nat):Int).toNat=((l.take j).filter λx=>!q x).length:=by omega
    simp only[ag.cat,ag,y,aC,aF];exact e
   .refine⟨by grind,by grind,?_,λi hi=>?_⟩
    .simp only;rw[k,bP,show ∀ a,[a].length=1 fromλ_=>rfl,j4,List.take_set,zf (by grind),g3,fH (by omega)]
     rfl
    grind
   grind
  |true =>
   have k:(l.take (j+1)).filter (λx=>!q x)=(l.take j).filter (λx=>!q x):=by
    grind [bq]
   refine aX [(29,ae)] 100 rfl ?_ (AK.aQ (j+1,d) rfl ?_ ?_ ?_ ?_)
   .simp[ag,bu];omega
   .simp[ag.cat,ag,aP.same,k]
   .simp[ag.cat,ag,aP.same]
   .refine⟨by grind,g2,by grind,λi hi=>g4 i (by grind)⟩
   grind
 .obtain rfl:j=l.length:=by omega
  rw[b6] at g3 ⊢;have f:(l.filter λx=>!q x).length<=l.length:=j3 _ _
  refine aX [(19,ae)] 100 rfl (by simp[ag]) (AK.leaveD rfl rfl ?_)
  refine bk rfl ?_ ?_
  .simp only[ag]
   grind
  refine AK.law (bF.DI tok rfl rfl rfl rfl rfl rfl ?_) rfl rfl ?_
  .simp only[cr,bz];omega
  refine bk rfl ?_ (AK.lg ⟨oQ (0+cr 0 (aa ((l.filter λx=>!q x).length:Int))) (0+cr 0 (aa ((l.filter λx=>!q x).length:Int))+(cr l.length af-cr 0 (aa ((l.filter λx=>!q x).length:Int)))) i64.zero (cm.fn d),λi hi=>?_⟩ (AK.dD [0] rfl ?_ rfl rfl rfl l3))
  .simp only[ag]
   grind
  .have e:d[i]?=(l.filter λx=>!q x)[i]?:=by grind
   refine(qM (by simp only[cr,bz];omega)).trans ?_
   simp only[hU.fn,sH,ai,e]
  .simp[ag,cr];rfl
abbrev c6:=Int×Int×Int×Bs
abbrev th(l:c6):List C:=[.int .i64 l.1,.int .i64 l.2.1,.int .i64 l.2.2.1,.str l.2.2.2]
abbrev KW(l:c6):List A:=[.c (.int .i64 l.1),.c (.int .i64 l.2.1),.c (.int .i64 l.2.2.1),.c (.str l.2.2.2)]
abbrev gf(l:c6):D:=.e (.agg (KW l))
abbrev Ao(cs:List C):D:=.e (.one (.c (.rp cs)))
def Hv(x:bw)(l:c6):Ev X 116 [xM x,Ao (th l)] [] (dB (x.1==l.2.1)) []:=by
 refine Ev.bQ Tryz.func116 rfl λa=>?_
 refine bk rfl av (AK.bm rfl ?_);simp[ag]
def Hw(x:Int×Int) (no:Int)(n:Nat)(es:Nat->List C):Ev X 120 [.e (.agg [.c (.int .i64 x.1),.c (.int .i64 x.2)]),Ao [.int .i64 no,.sl ae 2 n es]] [] (dB (x.2==no)) []:=by
 refine Ev.bQ Tryz.func120 rfl λa=>?_
 refine bk rfl av (AK.bm rfl ?_);simp[ag]
def KX{α:Type}(q:α->Bool)(l:List α):decide (oE q l≥0)=l.any q:=by
 rcases qL q l with⟨a,b⟩|⟨i,hi,a,_,c⟩
 .rw[a]
  symm
  simpa using b
 .rw[a]
  symm
  have:=c _ (br hi)
  grind
def Ex(a:List (Int×Int))(b:a.length<=4000000) (no:Int)(n:Nat)(es:Nat->List C):Ev X 49 [cH.sl a,.e (.one (.c (.fn (.func 120) [] [.rp [.int .i64 no,.sl ae 2 n es]])))] [] (dB (a.any λh=>h.2==no)) []:=by
 refine Ev.bQ Tryz.func49 rfl λd=>?_
 refine bk rfl av ?_;refine AK.cQ (Oq a b 120 [.int .i64 no,.sl ae 2 n es] (λh=>h.2==no) λx _=>Hw x no n es) [] rfl ?_
 refine bk rfl av (AK.bm rfl ?_);simp only[ag];exact KX _ a
def Ov(x:cC)(a:List (Int×Int))(b:a.length<=4000000):Ev X 119 [Ek x,Ao [.sl ae 2 a.length (cH.fn a)]] [] (dB (a.any λh=>h.2==x.1)) []:=by
 refine Ev.bQ Tryz.func119 rfl λc=>?_
 refine aX [(1000001,ab)] 100 rfl av ?_;refine AK.freeze 2 0 rfl rfl rfl ?_;refine bk rfl av ?_;refine AK.cQ (Ex a b x.1 x.2.length (cL.fn x.2)) [] rfl ?_;refine bk rfl av (AK.bm rfl ?_);simp[ag]
abbrev Wc(f:Nat)(l:c6):D:=.e (.one (.c (.fn (.func f) [] [.rp (th l)])))
def Ey(l:c6)(h:l.1=1):Ev X 73 [gf l] [] (Wc 114 l) []:=by
 refine Ev.bQ Tryz.func73 rfl λa=>?_
 refine aX [(1000001,ab)] 100 rfl av ?_;refine AK.freeze 1 0 rfl rfl rfl ?_;refine aX [(5,ab)] 100 rfl (by simp[ag,h]) (AK.bm rfl ?_)
 simp[ag]
def wK(l:c6)(h:l.1=2):Ev X 73 [gf l] [] (Wc 117 l) []:=by
 refine Ev.bQ Tryz.func73 rfl λa=>?_
 refine aX [(1000001,ab)] 100 rfl av ?_;refine AK.freeze 1 0 rfl rfl rfl ?_;refine aX [(5,ae),(8,ab)] 100 rfl (by simp[ag,h]) (AK.bm rfl ?_)
 simp[ag]
def wL(l:c6)(h:l.1=3):Ev X 73 [gf l] [] (Wc 121 l) []:=by
 refine Ev.bQ Tryz.func73 rfl λa=>?_
 refine aX [(1000001,ab)] 100 rfl av ?_;refine AK.freeze 1 0 rfl rfl rfl ?_;refine aX [(5,ae),(8,ae),(11,ab)] 100 rfl (by simp[ag,h]) (AK.bm rfl ?_)
 simp[ag]
def Eu(l:c6)(h:l.1=4):Ev X 73 [gf l] [] (Wc 122 l) []:=by
 refine Ev.bQ Tryz.func73 rfl λa=>?_
 refine aX [(1000001,ab)] 100 rfl av ?_;refine AK.freeze 1 0 rfl rfl rfl ?_;refine aX [(5,ae),(8,ae),(11,ae),(14,ab)] 100 rfl (by simp[ag,h]) (AK.bm rfl ?_)
 simp[ag]
def Ez(l:c6)(f:l.1≠1)(a:l.1≠2)(b:l.1≠3)(d:l.1≠4):Ev X 73 [gf l] [] (.e (.one (.c (.fn (.func 123) [] [])))) []:=by
 refine Ev.bQ Tryz.func73 rfl λg=>?_
 refine aX [(1000001,ab)] 100 rfl av ?_;refine AK.freeze 1 0 rfl rfl rfl ?_;refine aX [(5,ae),(8,ae),(11,ae),(14,ae)] 100 rfl (by simp[ag,f,a,b,d]) (AK.bm rfl ?_)
 simp[ag]
abbrev sPs(ps:List bw):C:=.sl ae 2 ps.length (cP.fn ps)
abbrev sSs(a:List cC):C:=.sl ae 2 a.length (cm.fn a)
abbrev Dl(a:List (Int×Int)):C:=.sl ae 2 a.length (cH.fn a)
abbrev S8(s0:aZ)(l:c6)(r:List aV)(a b c:A):List aV:=[.cells 27 [.c (sPs s0.1),.c (sSs s0.2.1),.c (Dl s0.2.2)],.cells 32 (KW l),.cells 27 [dk,dk,dk]]++r++[.cells 27 [a,b,c]]
abbrev aB(l n m:Nat):A:=.bp l (.sl n 2 0 m)
def KY(s:aZ)(l:c6)(b:s.1.length<=4000000) :
  cK (ι:={ es:Nat->List C // ∀ i,i<(s.1.filter λx=>!(x.1==l.2.1)).length->es i=cP.fn (s.1.filter λx=>!(x.1==l.2.1)) i }) X 114 [.e (.one (.ptr 5 0)),Ao (th l)]
   (S8 s l [.buf 85 2 s.1.length (cP.fn s.1),.buf 64 2 s.2.1.length (cm.fn s.2.1)] (aB 3 s.1.length s.1.length) (aB 4 s.2.1.length s.2.1.length) (.c (Dl s.2.2)))
   (λ_=>.eJ []) (λes=>S8 s l [.buf 85 2 s.1.length es.1,.buf 64 2 s.2.1.length (cm.fn s.2.1)] (aB 3 s.1.length (s.1.filter λx=>!(x.1==l.2.1)).length) (aB 4 s.2.1.length s.2.1.length) (.c (Dl s.2.2))):=by
 refine cK.mQ Tryz.func114 rfl rfl rfl (AK.of_code ?_);refine bk rfl av ?_;refine AK.cP (Ot s.1 b 116 (th l) (λx=>x.1==l.2.1) λx _=>Hv x l) [3] rfl (λ_=>rfl) ?_
 rintro⟨es,a⟩;refine bk rfl av ?_;exact⟨⟨es,a⟩,.inr rfl,rfl,rfl,_,_,_,rfl,rfl,rfl,av⟩
end
end Go.AM.R1
namespace Go.AM
section
variable {P:aq}{X:Cx P}{N:Nat}{φ:Fr}{σ:List aV}
def J7(all:List aw)(i:Nat):List Nat->Bool
 |[]=>ae
 |k::r=>match fJ i (bR (all.getD k fT).after.toList) with|true=>ab|false=>J7 all i r
def FR{all:List aw}{i:Nat}:∀ {l:List Nat},J7 all i l=ab->∃ k,k∈l/\fJ i (bR (all.getD k fT).after.toList)=ab
 |[],h=>by cases h
 |k::r,h=>by
  simp only[J7] at h;cases a:fJ i (bR (all.getD k fT).after.toList) with
  |true=>exact⟨k,by simp,a⟩
  |false =>
   simp only[a] at h;obtain⟨q,c,b⟩:=FR h;exact⟨q,by simp[c],b⟩
def o0(all:List aw):Nat->List Nat->Bool
 |0,_=>ab
 |n+1,l=>match fJ n l with
  |true=>o0 all n l
  |false=>match J7 all n l with|true=>o0 all n l|false=>ae
def o4{all:List aw}:∀ {n:Nat}{l:List Nat},o0 all n l=ab->∀ i,i<n->fJ i l=ab∨∃ k,fJ k l=ab/\fJ i (bR (all.getD k fT).after.toList)=ab
 |0,_,_,i,hi=>by omega
 |n+1,l,h,i,hi=>by
  simp only[o0] at h;cases a:fJ n l with
  |true =>
   simp only[a] at h
   by_cases e:i=n
   .subst e;exact .inl a
   .exact o4 h i (by omega)
  |false =>
   simp only[a] at h;cases b:J7 all n l with
   |false=>simp[b] at h
   |true =>
    simp only[b] at h
    by_cases e:i=n
    .subst e;obtain⟨k,k1,c⟩:=FR b;exact .inr ⟨k,rD k1,c⟩
    .exact o4 h i (by omega)
def AK.Uf{ι:Type}(G:P.follows Departure.mixedOrders=ab)(m last:Nat)(pre:Nat->Bool)(x:Nat->D)(y:ι->Nat->D)(σ' σ2:ι->List aV){ops:Array aw}{id:Nat}{K:List It}{Qf:Post}
  (d:mo ops.toList=ab) (f:rV ops.toList 0=ab) (n:nS N ops.toList=ab) (z:Nat.blt m ops.toList.length=ab) (q:pre m=ae) (s:xK pre m ops.toList 0=ab)
  (e:aG (last+1) ops.toList.length=ab) (b:o0 ops.toList last (bR (ops.toList.getD last fT).after.toList)=ab) (p:pre last=ae) (t:aG last m=ae)
  (one:qE X N ops.toList φ σ x pre ops.toList 0) (two:∀ j,qF X N ops.toList φ (σ' j) (qG pre x y j) m ops.toList.dropLast 0)
  (G7:rU X N ops.toList (ops.toList.getD m fT) (mU ops.toList φ x m) σ (λj=>qG pre x y j m) σ')
  (V6:∀ j,OA X N ops.toList (ops.toList.getD last fT) (mU ops.toList φ (qG pre x y j) last) (σ' j) (y j last) (σ2 j))
  (k:∀ j,AK X N Qf K .normal (MT ops.toList φ (qG pre x y j)) (σ2 j)):AK X N Qf (.code (.region id ops ab)::K) .normal φ σ:=by
 have hl:=bU e;have J:last≠m:=by grind [Nat.beq_refl]
 have z:=c7 z;have:=AW.reg (X:=X) (N:=N) (φ:=φ) (σ:=σ) G (all:=ops.toList) ops.toList.length (λc:Option ι=>c.elim x (qG pre x y)) (λc D=>c.elim σ λj=>match D last with|true=>σ2 j|false=>σ' j) (λc D=>c.isSome=D m/\(c=af->∀ i,D i=ab->pre i=ab)) af ⟨rfl,λ_ _ h=>by cases h⟩ rfl d f n (bg _)
  (λi h1 h2=>absurd h2 (ky.2 h1)) (λc D _ _ i h1 h2=>absurd h2 (ky.2 h1))
  (z8 (S:=λj D=>match D last with|true=>σ2 j|false=>σ' j) q s (λj i B=>by simp only[qG,B]) (λi o hi B=>by have:=one.get i o hi (by rwa [bt]);rwa [bt] at this)
   (λj D i o hi hnm ZZ XD XE=>by
    by_cases v:i=last
    .subst v;have h1:=V6 j;rw[show ops.toList.getD i fT=o by simp[ai,hi]] at h1
     simp only[XD,fb,iM];rw[show qG pre x y j i=y j i by simp only[qG,p]]
     exact h1
    .have E:=(cp.1 hi).1;have A:ops.toList.dropLast[i]?=aa o:=by grind
     have h1:=(two j).get i o A (by rwa [bt])
     rw[bt] at h1;have hb:aG last i=ae:=by
      grind [Nat.eq_of_beq_eq_true]
     have a:D last=ae:=by
      cases a:D last with
      |false=>rfl
      |true =>
       have g:=br (l:=ops.toList) (by omega:last<ops.toList.length)
       have H:∀ (k:Nat) w,ops.toList[k]?=aa w->ops.toList.getD k fT=w:=λk w h=>by simp[ai,h]
       rw[H _ _ g] at b;rcases o4 b i (by omega) with h2|⟨k,h2,C⟩
       .grind [Bx]
       .have L:=XE last _ g a k (Bx h2);cases r:ops.toList[k]? with
        |none=>rw[show ops.toList.getD k fT=fT by simp[ai,r]] at C;simp[fT,bR,fJ] at C
        |some ok =>
         grind [Bx]
     simp only[fb,hb,a];exact h1)
   (λo F=>by rw[show ops.toList.getD m fT=o by simp[ai,F]] at G7;exact G7)
   (λj D u=>by
    have a:D last=ae:=by
     grind
    simp only[fb,t,a]))
  (Q:=AK X N Qf K) (λc D I u=>by
   obtain⟨j,rfl⟩:=r5 I z u;rw[pF];simp only[Option.elim,u last (by omega)]
   exact .nil (k j)) id
 rw[oH] at this;exact this
end
end Go.AM
namespace Go.AM.R1
section
open Go.Proofs
variable {X:Cx ah}
def KZ(σ:List aV)(h:mn σ=ab)(a:A):Ev X 123 [.e (.one a)] σ (.eJ []) σ:=by
 refine cK.uv (cK.mQ (ι:=Unit) (res:=λ_=>.eJ []) (σ':=λ_=>σ) Tryz.func123 rfl rfl rfl (AK.of_code ?_))
 refine bk rfl av ?_;exact⟨(),.inr rfl,rfl,h,_,_,_,rfl,rfl,rfl,av⟩
abbrev IX(s:aZ)(l:c6):List aV:=S8 s l [.buf 85 2 s.1.length (cP.fn s.1),.buf 64 2 s.2.1.length (cm.fn s.2.1)] (aB 3 s.1.length s.1.length) (aB 4 s.2.1.length s.2.1.length) (.c (Dl s.2.2))
def gT(n:Nat)(a:List (Int×Int))(x:cC):Bool:=(a.drop n).any λh=>h.2==x.1
def Hx(s:aZ)(l:c6)(h:l.2.1<0∨l.2.1>s.2.2.length):Ev X 117 [.e (.one (.ptr 5 0)),Ao (th l)] (IX s l) (.eJ []) (IX s l):=by
 refine cK.uv (cK.mQ (ι:=Unit) (res:=λ_=>.eJ []) (σ':=λ_=>IX s l) Tryz.func117 rfl rfl rfl (AK.of_code ?_))
 by_cases a:l.2.1<0
 .refine aX [(7,ab),(16,ab)] 100 rfl (by simp[ag,a]) ?_
  refine AK.ret ?_;exact⟨(),.inl rfl,rfl,rfl,_,_,_,rfl,rfl,rfl,av⟩
 .refine aX [(7,ae),(16,ab)] 100 rfl (by simp[ag];omega) ?_
  refine AK.ret ?_;exact⟨(),.inl rfl,rfl,rfl,_,_,_,rfl,rfl,rfl,av⟩
def _root_.Go.AM.hU.Ga{α:Type}(c:hU α)(l:List α)(n m:Nat):aP m (jK n (c.fn l)) (c.fn (l.drop n)):=λi _=>by
 simp[jK,hU.fn,sH,ai]
abbrev dP5:D:=.e (.one (.ptr 5 0))
abbrev K1(s:aZ)(l:c6):C:=.sl (Ns ae af) 2 (cr s.2.2.length af-cr 0 (aa l.2.1)) (jK (cr 0 (aa l.2.1)) (cH.fn s.2.2))
def Pw(s:aZ)(l:c6)(n:Nat)(a:l.2.1=n)(h:n<=s.2.2.length):ag (iP s.2.2.length (aa l.2.1) af):=by
 show 0<=l.2.1/\l.2.1<=(s.2.2.length:Int);omega
def Hy(s:aZ)(l:c6)(n:Nat)(b:l.2.1=n)(h:n<=s.2.2.length)(d:s.2.1.length<=4000000)(j:s.2.2.length<=4000000) :
  cK (ι:={ es:Nat->List C // ∀ i,i<(s.2.1.filter λx=>!gT n s.2.2 x).length->es i=cm.fn (s.2.1.filter λx=>!gT n s.2.2 x) i }) X 117 [.e (.one (.ptr 5 0)),Ao (th l)] (IX s l) (λ_=>.eJ [])
   (λes=>S8 s l [.buf 85 2 s.1.length (cP.fn s.1),.buf 64 2 s.2.1.length es.1] (aB 3 s.1.length s.1.length) (aB 4 s.2.1.length (s.2.1.filter λx=>!gT n s.2.2 x).length) (.c (.sl ae 2 l.2.1.toNat (cH.fn s.2.2)))++[.dead]):=by
 refine cK.mQ Tryz.func117 rfl rfl rfl (AK.of_code ?_);have g:l.2.1.toNat=n:=by omega
 refine aX [(7,ae),(16,ae),(1000001,ab)] 100 rfl ?_ ?_
 .simp only[ag]
  grind
 refine AK.Uf (ι:=Unit) eh 7 8 (λi=>bo i 6) (λi=>[dP5,dP5,.e (.one (.ptr 5 2)),.e (.one (.c (Dl s.2.2))),Ao [.int .i64 l.2.1,.int .i64 l.2.2.1,.str l.2.2.2],dI l.2.1,.e (.one (.c (K1 s l)))].getD i .any) (λ_ i=>[.any,.any,.any,.any,.any,.any,.any,.e (.one (.ptr 6 0)),.any].getD i .any)
  (λ_=>IX s l++[.cells 25 [dk]]) (λ_=>IX s l++[.cells 25 [.c (K1 s l)]]) rfl rfl rfl rfl rfl rfl rfl rfl rfl rfl
  ⟨OA.bM tok bC.nil rfl,OA.bM tok bC.nil rfl,OA.bM tok bC.nil rfl,OA.bM tok bC.nil rfl,OA.bM tok bC.nil rfl,OA.bM tok bC.nil rfl,?_,av,av,av⟩
  (λ_=>⟨OA.bM tok bC.nil rfl,OA.bM tok bC.nil rfl,OA.bM tok bC.nil rfl,OA.bM tok bC.nil rfl,OA.bM tok bC.nil rfl,OA.bM tok bC.nil rfl,?_,av,av⟩)
  (rU.sZ (dW (ds:=[]) tok bC.nil (σ':=aa _) (obs:=[]) rfl av)) (λ_=>dW (ds:=[]) tok bC.nil (σ':=aa _) (obs:=[]) rfl av) λ_=>?_
 .exact OA.eval (ds:=[]) tok bC.nil rfl (Pw s l n b h)
 .exact OA.eval (ds:=[]) tok bC.nil rfl (Pw s l n b h)
 refine aX [(1000002,ab)] 100 rfl av ?_;refine AK.norm (IX s l++[.cells 25 [.c (Dl (s.2.2.drop n))]]) rfl ?_ ?_
 .have e:=cH.Ga s.2.2 n (s.2.2.length-n);have f:cr 0 (aa l.2.1)=n:=g;simp only[ag.cat,ag,f,aC,aF,oJ];exact⟨⟨aP.same,aP.same,aP.same⟩,⟨aP.same,aP.same,aP.same⟩,aP.same,aP.same,aP.same,rfl,e⟩
 refine AK.freeze 3 6 rfl rfl rfl ?_;refine bk rfl av ?_;refine AK.cP (Ou s.2.1 d 119 [Dl (s.2.2.drop n)] (gT n s.2.2) λx _=>Ov x (s.2.2.drop n) (by simp;omega)) [4] rfl (λ_=>rfl) ?_
 rintro⟨es,a⟩;refine bk rfl ⟨show 0<=l.2.1 by omega,Int.le_refl _,show l.2.1<=(s.2.2.length:Int) by omega⟩ ?_
 exact⟨⟨es,a⟩,.inr rfl,rfl,rfl,_,_,_,rfl,rfl,rfl,av⟩
abbrev M0(s:aZ)(l:c6)(es:Nat->List C):List aV:=S8 s l [.buf 85 2 s.1.length (cP.fn s.1),.buf 64 2 s.2.1.length (cm.fn s.2.1),.buf 90 2 s.2.2.length es] (aB 3 s.1.length s.1.length) (aB 4 s.2.1.length s.2.1.length) (aB 5 s.2.2.length s.2.2.length)
abbrev Au(s:aZ)(l:c6):Nat->List C:=m9 (0+l.2.1.toNat) [.int .i64 (3-(s.2.2.getD (0+l.2.1.toNat) cH.bD).1),.int .i64 (s.2.2.getD (0+l.2.1.toNat) cH.bD).2] (cH.fn s.2.2)
def Hu(s:aZ)(l:c6)(h:¬(0<=l.2.1/\l.2.1<s.2.2.length)):Ev X 122 [.e (.one (.ptr 6 0)),Ao (th l)] (M0 s l (cH.fn s.2.2)) (.eJ []) (M0 s l (cH.fn s.2.2)):=by
 refine cK.uv (cK.mQ (ι:=Unit) (res:=λ_=>.eJ []) (σ':=λ_=>M0 s l (cH.fn s.2.2)) Tryz.func122 rfl rfl rfl (AK.of_code ?_))
 by_cases a:0<=l.2.1
 .refine aX [(6,ab),(15,ae)] 100 rfl (by simp[ag,a];omega) ?_
  exact⟨(),.inr rfl,rfl,rfl,_,_,_,rfl,rfl,rfl,av⟩
 .refine aX [(6,ae),(15,ae)] 100 rfl (by simp[ag];omega) ?_
  exact⟨(),.inr rfl,rfl,rfl,_,_,_,rfl,rfl,rfl,av⟩
abbrev Wd:D:=.e (.one (.ptr 6 0))
abbrev UP:D:=.e (.one (.ptr 6 2))
abbrev dHs(s:aZ):D:=.e (.one (aB 5 s.2.2.length s.2.2.length))
abbrev We(s:aZ)(l:c6):D:=.e (.one (.bp 5 (.el s.2.2.length 2 (0+l.2.1.toNat) 0)))
abbrev dLr(l:c6):D:=Ao [.int .i64 l.2.1,.int .i64 l.2.2.1,.str l.2.2.2]
abbrev Ew(s:aZ)(l:c6):Int:=(s.2.2.getD (0+l.2.1.toNat) cH.bD).1
def Ht(s:aZ)(l:c6)(d:0<=l.2.1)(f:l.2.1<s.2.2.length)(c:bu .i64 (3-Ew s l)):Ev X 122 [.e (.one (.ptr 6 0)),Ao (th l)] (M0 s l (cH.fn s.2.2)) (.eJ []) (M0 s l (Au s l)):=by
 refine cK.uv (cK.mQ (ι:=Unit) (res:=λ_=>.eJ []) (σ':=λ_=>M0 s l (Au s l)) Tryz.func122 rfl rfl rfl (AK.of_code ?_))
 refine aX [(6,ab),(15,ab),(1000001,ab)] 100 rfl ?_ ?_
 .simp only[ag]
  grind
 have b:0<=l.2.1/\l.2.1<((s.2.2.length:Nat):Int):=⟨d,f⟩;have a:s.2.2.length=s.2.2.length/\0+l.2.1.toNat<s.2.2.length:=⟨rfl,by omega⟩
 refine AK.Uf (ι:=Unit) eh 0 18 (λi=>bo 4 i&&bo i 15) (λi=>[.any,.any,.any,.any,dLr l,dI l.2.1,Wd,Wd,UP,dHs s,dLr l,dI l.2.1,We s l,We s l,dI (Ew s l),dI (3-Ew s l)].getD i .any) (λ_ i=>[Wd,Wd,UP,dHs s,.any,.any,.any,.any,.any,.any,.any,.any,.any,.any,.any,.any,We s l,We s l,.any].getD i .any)
  (λ_=>M0 s l (cH.fn s.2.2)) (λ_=>M0 s l (Au s l)) rfl rfl rfl rfl rfl rfl rfl rfl rfl rfl
  ⟨av,av,av,av,OA.bM tok bC.nil rfl,OA.bM tok bC.nil rfl,OA.bM tok bC.nil rfl,OA.bM tok bC.nil rfl,OA.bM tok bC.nil rfl,OA.bM tok bC.nil rfl,OA.bM tok bC.nil rfl,OA.bM tok bC.nil rfl,?_,OA.bM tok bC.nil rfl,?_,?_,av,av,av,av⟩
  (λ_=>⟨av,OA.bM tok bC.nil rfl,OA.bM tok bC.nil rfl,OA.bM tok bC.nil rfl,OA.bM tok bC.nil rfl,OA.bM tok bC.nil rfl,OA.bM tok bC.nil rfl,OA.bM tok bC.nil rfl,OA.bM tok bC.nil rfl,OA.bM tok bC.nil rfl,OA.bM tok bC.nil rfl,OA.bM tok bC.nil rfl,?_,OA.bM tok bC.nil rfl,?_,?_,?_,OA.bM tok bC.nil rfl,av⟩)
  (rU.sZ (OA.bM tok bC.nil rfl)) (λ_=>?_) λ_=>?_
 .exact OA.eval (ds:=[]) tok bC.nil rfl b
 .exact OA.eval (ds:=[]) tok bC.nil rfl a
 .exact OA.eval (ds:=[]) tok bC.nil rfl c
 .exact OA.eval (ds:=[]) tok bC.nil rfl b
 .exact OA.eval (ds:=[]) tok bC.nil rfl a
 .exact OA.eval (ds:=[]) tok bC.nil rfl c
 .exact OA.eval (ds:=[]) tok bC.nil rfl b
 .exact dW (ds:=[]) tok bC.nil (σ':=aa _) rfl a
 refine bk rfl av ?_;exact⟨(),.inr rfl,rfl,rfl,_,_,_,rfl,rfl,rfl,av⟩
end
end Go.AM.R1
namespace Go.AM
def cK.le{P:aq}{ι:Type}{X:Cx P}{f:aW}{args:List D}{σ:List aV}{res res':ι->D}{σ1:ι->List aV}(h:cK X f args σ res σ1){ps:ι->List Prop}(a:∀ i,Dh (res i) (res' i)=aa (ps i))(b:∀ i,ag (ps i)):cK X f args σ res' σ1 :=
 ⟨h.1,λs vs hr hh S cs hS=>h.2 s vs hr hh S cs λi fr v s' hl mL k9 st=>hS i fr v s' hl (qy (a i) (b i) mL) k9 st⟩
def cK.one{P:aq}{ι:Type}{X:Cx P}{f:aW}{args:List D}{σ:List aV}{res:D}{σ1:List aV}(h:cK (ι:=ι) X f args σ (λ_=>res) (λ_=>σ1)):Ev X f args σ res σ1 :=
 ⟨h.1,λs vs hr hh S cs hS=>h.2 s vs hr hh S cs λ_ fr v s' hl mL k9 st=>hS fr v s' hl mL k9 st⟩
namespace R1
open Go.Proofs
variable {X:Cx ah}
abbrev K2{α:Type}(c:hU α)(a:List α):Type:={ es:Nat->List C // ∀ i,i<a.length->es i=c.fn a i }
structure dF (s:aZ):Prop where
 p:s.1.length<=4000000
 p2:∀ p∈s.1,p.2.length<=4000000
 sn:s.2.1.length<=4000000
 s2:iS s
 h:s.2.2.length<=4000000
def Av(s:aZ)(l:c6)(a:dF s)(h:l.1=1) :
  cK (ι:={ es:Nat->List C // ∀ i,i<(s.1.filter λx=>!(x.1==l.2.1)).length->es i=cP.fn (s.1.filter λx=>!(x.1==l.2.1)) i }) X 42 [eH s,gf l] []
   (λ_=>.e (.agg [aB 0 s.1.length (s.1.filter λx=>!(x.1==l.2.1)).length,aB 1 s.2.1.length s.2.1.length,.c (Dl s.2.2)])) (λes=>[.buf 85 2 s.1.length es.1,.buf 64 2 s.2.1.length (cm.fn s.2.1)]):=by
 refine cK.fY tok Tryz.func42 rfl rfl rfl λd=>?_
 refine bk rfl av ?_;refine AK.cQ (iw s a.p a.p2 a.sn a.s2 a.h) [] rfl ?_;refine bk rfl av ?_;refine AK.cQ (Ey l h) [] rfl ?_;refine bk rfl av ?_;refine AK.nG (KY s l a.p) rfl rfl rfl rfl ?_ rfl ?_
 .simp[ag,ag.cat]
 rintro⟨es,b⟩;refine bk rfl av ?_;refine AK.dA ⟨es,b⟩ [3,4] rfl rfl rfl rfl rfl rfl rfl rfl ?_ rfl rfl rfl rfl fN;simp[ag.cat,ag,aP.same]
def Cj(s:aZ)(l:c6)(e:dF s)(h:l.1=1):Ev X 42 [eH s,gf l] [] (eH (s.1.filter λx=>!(x.1==l.2.1),s.2.1,s.2.2)) []:=by
 have d:(s.1.filter λx=>!(x.1==l.2.1)).length<=s.1.length:=j3 _ _
 have a:=Av (X:=X) s l e h;have b:=cK.iY (σ1:=λes:K2 cP (s.1.filter λx=>!(x.1==l.2.1))=>[.buf 85 2 s.1.length es.1]) (E:=64) (k:=2) (n:=λ_=>s.2.1.length) (es:=λ_=>cm.fn s.2.1) a (λ_=>rfl) (λ_=>?_) (λ_=>rfl) (λ_=>gB _)
 have c:=cK.iY (σ1:=λ_=>[]) (E:=85) (k:=2) (n:=λ_=>s.1.length) (es:=λes:K2 cP (s.1.filter λx=>!(x.1==l.2.1))=>es.1) b (λ_=>rfl) (λ_=>?_) (λ_=>rfl) (λ_=>bg _)
 refine(c.le (res':=λ_=>eH (s.1.filter λx=>!(x.1==l.2.1),s.2.1,s.2.2)) (λ_=>rfl) (λes=>?_)).one
 .simp only[ag.cat,ag,aC,aF];exact⟨es.2,aP.same,aP.same⟩
 .simpa[ag.cat,ag] using d
 .simp[ag.cat,ag]
def Aw(s:aZ)(l:c6)(a:dF s)(g:l.1≠1)(b:l.1≠2)(d:l.1≠3)(f:l.1≠4) :
  cK (ι:=Unit) X 42 [eH s,gf l] [] (λ_=>.e (.agg [aB 0 s.1.length s.1.length,aB 1 s.2.1.length s.2.1.length,.c (Dl s.2.2)])) (λ_=>[.buf 85 2 s.1.length (cP.fn s.1),.buf 64 2 s.2.1.length (cm.fn s.2.1)]):=by
 refine cK.fY tok Tryz.func42 rfl rfl rfl λi=>?_
 refine bk rfl av ?_;refine AK.cQ (iw s a.p a.p2 a.sn a.s2 a.h) [] rfl ?_;refine bk rfl av ?_;refine AK.cQ (Ez l g b d f) [] rfl ?_;refine bk rfl av ?_;refine AK.nG (KZ (IX s l) rfl (.ptr 5 0)).Bc rfl rfl rfl rfl ?_ rfl ?_
 .simp[ag,ag.cat]
 intro _;refine bk rfl av ?_;refine AK.dA () [3,4] rfl rfl rfl rfl rfl rfl rfl rfl ?_ rfl rfl rfl rfl fN;simp[ag.cat,ag,aP.same]
def xQ(s:aZ)(l:c6)(a:dF s)(b:l.1=2)(h:l.2.1<0∨l.2.1>s.2.2.length) :
  cK (ι:=Unit) X 42 [eH s,gf l] [] (λ_=>.e (.agg [aB 0 s.1.length s.1.length,aB 1 s.2.1.length s.2.1.length,.c (Dl s.2.2)])) (λ_=>[.buf 85 2 s.1.length (cP.fn s.1),.buf 64 2 s.2.1.length (cm.fn s.2.1)]):=by
 refine cK.fY tok Tryz.func42 rfl rfl rfl λd=>?_
 refine bk rfl av ?_;refine AK.cQ (iw s a.p a.p2 a.sn a.s2 a.h) [] rfl ?_;refine bk rfl av ?_;refine AK.cQ (wK l b) [] rfl ?_;refine bk rfl av ?_;refine AK.nG (Hx s l h).Bc rfl rfl rfl rfl ?_ rfl ?_
 .simp[ag,ag.cat]
 intro _;refine bk rfl av ?_;refine AK.dA () [3,4] rfl rfl rfl rfl rfl rfl rfl rfl ?_ rfl rfl rfl rfl fN;simp[ag.cat,ag,aP.same]
def Ax{s:aZ}{l:c6}(a:cK (ι:=Unit) X 42 [eH s,gf l] [] (λ_=>.e (.agg [aB 0 s.1.length s.1.length,aB 1 s.2.1.length s.2.1.length,.c (Dl s.2.2)])) (λ_=>[.buf 85 2 s.1.length (cP.fn s.1),.buf 64 2 s.2.1.length (cm.fn s.2.1)])):Ev X 42 [eH s,gf l] [] (eH s) []:=by
 have b:=cK.iY (σ1:=λ_:Unit=>[.buf 85 2 s.1.length (cP.fn s.1)]) (E:=64) (k:=2) (n:=λ_=>s.2.1.length) (es:=λ_=>cm.fn s.2.1) a (λ_=>rfl) (λ_=>?_) (λ_=>rfl) (λ_=>gB _)
 have c:=cK.iY (σ1:=λ_:Unit=>[]) (E:=85) (k:=2) (n:=λ_=>s.1.length) (es:=λ_=>cP.fn s.1) b (λ_=>rfl) (λ_=>?_) (λ_=>rfl) (λ_=>bg _)
 refine(c.le (res':=λ_=>eH s) (λ_=>rfl) (λes=>?_)).one
 .simp only[ag.cat,ag,aC,aF];exact⟨aP.same,aP.same,aP.same⟩
 .simp[ag.cat,ag]
 .simp[ag.cat,ag]
def Ay(s:aZ)(l:c6)(a:dF s)(d:l.1=2)(n:Nat)(f:l.2.1=n)(h:n<=s.2.2.length) :
  cK (ι:=K2 cm (s.2.1.filter λx=>!gT n s.2.2 x)) X 42 [eH s,gf l] []
   (λ_=>.e (.agg [aB 0 s.1.length s.1.length,aB 1 s.2.1.length (s.2.1.filter λx=>!gT n s.2.2 x).length,.c (.sl ae 2 l.2.1.toNat (cH.fn s.2.2))])) (λes=>[.buf 85 2 s.1.length (cP.fn s.1),.buf 64 2 s.2.1.length es.1]):=by
 refine cK.fY tok Tryz.func42 rfl rfl rfl λg=>?_
 refine bk rfl av ?_;refine AK.cQ (iw s a.p a.p2 a.sn a.s2 a.h) [] rfl ?_;refine bk rfl av ?_;refine AK.cQ (wK l d) [] rfl ?_;refine bk rfl av ?_;refine AK.nG (Hy s l n f h a.sn a.h) rfl rfl rfl rfl ?_ rfl ?_
 .simp[ag,ag.cat]
 rintro⟨es,b⟩;refine bk rfl av ?_;refine AK.dA ⟨es,b⟩ [3,4] rfl rfl rfl rfl rfl rfl rfl rfl ?_ rfl rfl rfl rfl fN;simp[ag.cat,ag,aP.same]
def Ck(s:aZ)(l:c6)(f:dF s)(j:l.1=2)(n:Nat)(m:l.2.1=n)(h:n<=s.2.2.length):Ev X 42 [eH s,gf l] [] (eH (s.1,s.2.1.filter λx=>!gT n s.2.2 x,s.2.2.take n)) []:=by
 have e:(s.2.1.filter λx=>!gT n s.2.2 x).length<=s.2.1.length:=j3 _ _
 have a:=Ay (X:=X) s l f j n m h;have b:=cK.iY (σ1:=λ_:K2 cm (s.2.1.filter λx=>!gT n s.2.2 x)=>[.buf 85 2 s.1.length (cP.fn s.1)]) (E:=64) (k:=2) (n:=λ_=>s.2.1.length) (es:=λes=>es.1) a (λ_=>rfl) (λ_=>?_) (λ_=>rfl) (λ_=>gB _)
 have c:=cK.iY (σ1:=λ_:K2 cm (s.2.1.filter λx=>!gT n s.2.2 x)=>[]) (E:=85) (k:=2) (n:=λ_=>s.1.length) (es:=λ_=>cP.fn s.1) b (λ_=>rfl) (λ_=>?_) (λ_=>rfl) (λ_=>bg _)
 refine(c.le (res':=λ_=>eH (s.1,s.2.1.filter λx=>!gT n s.2.2 x,s.2.2.take n)) (λ_=>rfl) (λes=>?_)).one
 .have g:l.2.1.toNat=(s.2.2.take n).length:=by grind
  simp only[ag.cat,ag,aC,aF];refine⟨aP.same,es.2,g,λi hi=>?_⟩
  have d:i<n:=by grind
  simp[hU.fn,sH,ai,gO,d]
 .simp[ag.cat,ag]
 .simpa[ag.cat,ag] using e
end R1
end Go.AM
namespace Go.AM.R1
section
open Go.Proofs
variable {X:Cx ah}
def r9(s:aZ)(l:c6)(a:dF s)(h:l.1=4)(es:Nat->List C)(b:Ev X 122 [.e (.one (.ptr 6 0)),Ao (th l)] (M0 s l (cH.fn s.2.2)) (.eJ []) (M0 s l es)) :
  cK (ι:=Unit) X 42 [eH s,gf l] [] (λ_=>.e (.agg [aB 0 s.1.length s.1.length,aB 1 s.2.1.length s.2.1.length,aB 2 s.2.2.length s.2.2.length])) (λ_=>[.buf 85 2 s.1.length (cP.fn s.1),.buf 64 2 s.2.1.length (cm.fn s.2.1),.buf 90 2 s.2.2.length es]):=by
 refine cK.fY tok Tryz.func42 rfl rfl rfl λc=>?_
 refine bk rfl av ?_;refine AK.cQ (wJ s a.p a.p2 a.sn a.s2 a.h) [] rfl ?_;refine bk rfl av ?_;refine AK.cQ (Eu l h) [] rfl ?_;refine bk rfl av ?_;refine AK.nG b.Bc rfl rfl rfl rfl ?_ rfl ?_
 .simp[ag,ag.cat]
 intro _;refine bk rfl av ?_;refine AK.dA () [3,4,5] rfl rfl rfl rfl rfl rfl rfl rfl ?_ rfl rfl rfl rfl fN;simp[ag.cat,ag,aP.same]
def sd(s:aZ)(l:c6)(es:Nat->List C)(d:List (Int×Int))(f:d.length=s.2.2.length)(g:aP s.2.2.length es (cH.fn d))
  (a:cK (ι:=Unit) X 42 [eH s,gf l] [] (λ_=>.e (.agg [aB 0 s.1.length s.1.length,aB 1 s.2.1.length s.2.1.length,aB 2 s.2.2.length s.2.2.length])) (λ_=>[.buf 85 2 s.1.length (cP.fn s.1),.buf 64 2 s.2.1.length (cm.fn s.2.1),.buf 90 2 s.2.2.length es])) :
  Ev X 42 [eH s,gf l] [] (eH (s.1,s.2.1,d)) []:=by
 have h:=cK.iY (σ1:=λ_:Unit=>[.buf 85 2 s.1.length (cP.fn s.1),.buf 64 2 s.2.1.length (cm.fn s.2.1)]) (E:=90) (k:=2) (n:=λ_=>s.2.2.length) (es:=λ_=>es) a (λ_=>rfl) (λ_=>?_) (λ_=>rfl) (λ_=>gB _)
 have b:=cK.iY (σ1:=λ_:Unit=>[.buf 85 2 s.1.length (cP.fn s.1)]) (E:=64) (k:=2) (n:=λ_=>s.2.1.length) (es:=λ_=>cm.fn s.2.1) h (λ_=>rfl) (λ_=>?_) (λ_=>rfl) (λ_=>gB _)
 have c:=cK.iY (σ1:=λ_:Unit=>[]) (E:=85) (k:=2) (n:=λ_=>s.1.length) (es:=λ_=>cP.fn s.1) b (λ_=>rfl) (λ_=>?_) (λ_=>rfl) (λ_=>bg _)
 refine(c.le (res':=λ_=>eH (s.1,s.2.1,d)) (λ_=>rfl) (λ_=>?_)).one
 .simp only[ag.cat,ag,aC,aF];refine⟨aP.same,aP.same,f.symm,?_⟩;intro i hi;exact g i (by first|exact hi|(rw[<-f];exact hi))
 .simp[ag.cat,ag]
 .simp[ag.cat,ag]
 .simp[ag.cat,ag]
def Ap(s:aZ)(l:c6)(c:dF s)(h:l.1=4)(b:0<=l.2.1)(a:l.2.1<s.2.2.length)(d:bu .i64 (3-Ew s l)) :
  Ev X 42 [eH s,gf l] [] (eH (s.1,s.2.1,s.2.2.set (0+l.2.1.toNat) (3-Ew s l,(s.2.2.getD (0+l.2.1.toNat) cH.bD).2))) [] :=
 sd s l _ _ (by simp) (cH.qK s.2.2 (0+l.2.1.toNat) (3-Ew s l,(s.2.2.getD (0+l.2.1.toNat) cH.bD).2) s.2.2.length (bg _)) (r9 s l c h _ (Ht s l b a d))
def Aq(s:aZ)(l:c6)(b:dF s)(h:l.1=4)(a:¬(0<=l.2.1/\l.2.1<s.2.2.length)):Ev X 42 [eH s,gf l] [] (eH s) [] :=
 sd s l _ s.2.2 rfl aP.same (r9 s l b h _ (Hu s l a))
end
section
open Go.Proofs
open Go.Sort (pdq bitsLen ltInt Below)
variable {X:Cx ah}
def mG(l:List Int):List Int:=l.mergeSort λx y=>decide (x<=y)
def gH(l:List Int):(mG l).length=l.length:=List.length_mergeSort _
def Mt(l:List Int):pdq ltInt l.toArray 0 l.length (bitsLen l.length) ab ab=(mG l).toArray:=by
 have h:=Go.Sort.sortInt l;unfold Go.Sort.sort at h;rw[List.size_toArray] at h;exact Array.ext' (by rw[h];rfl)
theorem Vt(l:List Int):eI l.toArray=cI.fn l:=by
 funext j
 simp only[eI,hU.fn,sH,cI,ai];simp
abbrev H9(n:Nat)(l:List Int):aV:=.buf 3 1 n (cI.fn l)
def CN(l:List Int)(a:l.length<=4000000):Ev X 163 [kC l.length] [H9 l.length l] (.eJ []) [H9 l.length (mG l)]:=by
 refine Ev.bQ Tryz.func163 rfl λb=>?_
 refine dO rfl (by simp only[ag,bu];and_intros <;> omega) ?_
 refine AK.cQ (Mv l.length a) [] rfl ?_;refine dO rfl av ?_;have c:=kt (x:=l.length) (k:=22) (by grind)
 have key:Ev X 189 [kC l.length,dI 0,dI l.length,dI (bitsLen l.length)] [H9 l.length l] (.eJ []) [H9 l.length (mG l)]:=by
  have:=SF (X:=X) l.length a l.length l.toArray 0 l.length (bitsLen l.length) (by omega) (by simp) (by omega) (bg _) (by omega) (.inl rfl) (x:=0) rfl rfl rfl (Mt l).symm
  grind [Vt]
 refine AK.cQ key [0] rfl ?_;refine dO rfl av ?_;exact b5.s9 [0] rfl av rfl rfl rfl gZ
def jW(l:List Int):Nat->List Int
 |0=>[]
 |j+1=>if j≠0/\l.getD j 0=l.getD (j-1) 0 then jW l j else jW l j++[l.getD j 0]
def dL(l:List Int):List Int:=jW l l.length
def sx(l:List Int):∀ j,(jW l j).length<=j
 |0=>bg _
 |j+1=>by
  have:=sx l j;simp only[jW]
  grind
def nt{l:List Int}:∀ {k:Nat},k<=l.length->(∀ i,1<=i->i<k->l.getD i 0≠l.getD (i-1) 0)->jW l k=l.take k
 |0,_,_=>by simp[jW]
 |k+1,c,h=>by
  rw[jW,aY,nt (by omega) λi a b=>h i a (by omega),bq (by omega) 0]
  grind
structure CoP (l:List Int)(k0:Nat)(k2:Nat)(ys:List Int):Prop where
 h1:1<=k2
 hj:k0+k2<=l.length
 len:ys.length=l.length
 lt:(jW l (k0+k2)).length<k0+k2
 done:ys.take (jW l (k0+k2)).length=jW l (k0+k2)
 rest:∀ i,k0+k2<=i+1->ys.getD i 0=l.getD i 0
abbrev Mw(a:List Int):Type:={ es:Nat->List C // ∀ i,i<a.length->es i=cI.fn a i }
def xc(l:List Int)(J:l.length<=4000000):cK (ι:=Mw (dL l)) X 164 [kC l.length] [H9 l.length l] (λ_=>.e (.one (.bp 0 (.sl l.length 1 0 (dL l).length)))) (λes=>[.buf 3 1 l.length es.1]):=by
 refine cK.om Tryz.func164 rfl rfl rfl λI=>?_
 by_cases F:l.length<2
 .have h:dL l=l:=by
   unfold dL;rw[nt (bg _) λi _ _=>by omega,b6]
  refine aX [(8,ab)] 200 rfl (by simp only[ag,ba];omega) (AK.lg ⟨cI.fn l,λi _=>by rw[h]⟩ (AK.dD [0] rfl ?_ rfl rfl rfl gZ))
  simp[ag,h]
 refine aX [(8,ae)] 200 rfl (by simp only[ag,bJ];omega) ?_
 refine AK.kN (S2:=Unit) 0 rfl rfl (λ_=>dL l=l) (λ_=>[(0,kC l.length)]) (λ_=>[H9 l.length l]) 1 (λk:Nat=>1<=k/\k<=l.length/\∀ i,1<=i->i<k->l.getD i 0≠l.getD (i-1) 0) (λk=>[(0,kC l.length),(3,dI k)]) (λ_=>[H9 l.length l]) (λk=>l.length-k) 1 rfl ?_ rfl ?_ rfl ⟨bg _,by omega,λi K F=>by omega⟩ ?_ ?_
 .simp[ag.cat,ag]
 .simp[ag.cat,ag,aP.same]
 .rintro out k ⟨z,L,d⟩
  by_cases y:k<l.length
  .have w:((k:Int)-1).toNat=k-1:=by omega
   have t:∀ j,l.getD j cI.bD=l.getD j 0:=λ_=>rfl
   by_cases g:l.getD k 0=l.getD (k-1) 0
   .refine aX [(13,ab),(25,ab)] 200 rfl ?_ ?_
    .simp only[ag,bt,bz,w,t,g,bu,ba,dH,aF,aC];and_intros <;> omega
    have B:=nt (l:=l) (by omega) d
    have E:jW l (k+1)=l.take k:=by rw[jW,bc ⟨by omega,g⟩,B]
    refine AK.kN (S2:=List Int) 2 rfl rfl (λc=>c.length=l.length/\c.take (dL l).length=dL l) (λ_=>[(0,kC l.length),(3,dI (dL l).length)]) (λc=>[H9 l.length c]) 1 (λs:Nat×List Int=>CoP l k s.1 s.2) (λs=>[(0,kC l.length),(3,dI (jW l (k+s.1)).length),(4,.e (.one (.bp 0 (.sl l.length 1 k (l.length-k))))),(5,dI s.1)]) (λs=>[H9 l.length s.2]) (λs=>l.length-s.1) (1,l) rfl ?_ rfl ?_ rfl ?_ ?_ ?_
    .simp only[ag.cat,ag,E,List.length_take,cr,bt,bz,aF,aC];exact⟨by omega,rfl,rfl⟩
    .simp[ag.cat,ag,aP.same]
    .exact⟨bg _,by omega,rfl,by grind,by grind,λ_ _=>rfl⟩
    .rintro f ⟨b,c⟩ ⟨c1,c2,c3,c4,n,m⟩;simp only at c1 c2 c3 c4 n m
     by_cases D:k+b<l.length
     .have v:((b:Int)-1).toNat=b-1:=by omega
      have q:∀ j,c.getD j cI.bD=c.getD j 0:=λ_=>rfl
      have r:c.getD (k+b) 0=l.getD (k+b) 0:=m _ (by omega)
      have u:c.getD (k+(b-1)) 0=l.getD (k+(b-1)) 0:=m _ (by omega)
      by_cases o:l.getD (k+b) 0=l.getD (k+(b-1)) 0
      .have p:jW l (k+(b+1))=jW l (k+b):=by
        rw[show k+(b+1)=k+b+1 by omega,jW,bc ⟨by omega,by rw[o,show k+b-1=k+(b-1) by omega]⟩]
       refine aX [(32,ab),(44,ae)] 200 rfl ?_ (AK.aQ (b+1,c) rfl ?_ ?_ ?_ ?_)
       .simp only[ag,bt,bz,v,q,r,u,o,bu,ba,kY,dv,dH,aF,aC];and_intros <;> first|trivial|omega
       .simp only[ag.cat,ag,p,aF,aC];omega
       .simp[ag.cat,ag,aP.same]
       .exact⟨by grind,by grind,c3,by grind,by grind,λi hi=>m i (by grind)⟩
       .simp only;omega
      .have p:jW l (k+(b+1))=jW l (k+b)++[l.getD (k+b) 0]:=by
        rw[show k+(b+1)=k+b+1 by omega,jW,aY]
        rintro⟨_,g⟩;exact o (by rw[g,show k+b-1=k+(b-1) by omega])
       refine aX [(32,ab),(44,ab)] 200 rfl ?_ (AK.aQ (b+1,c.set (jW l (k+b)).length (l.getD (k+b) 0)) rfl ?_ ?_ ?_ ?_)
       .simp only[ag,bt,bz,v,q,r,u,bu,ba,ji,dm,ic,cT,aF,aC];and_intros <;> first|exact o|omega
       .simp only[ag.cat,ag,p,bP,eZ,hZ,aF,aC];and_intros <;> omega
       .have e:=cI.qK c (jW l (k+b)).length (l.getD (k+b) 0) l.length (by omega)
        simp only[ag.cat,ag,bt,bz,q,r,aC,aF];exact e
       .refine⟨by grind,by grind,by grind,by grind,?_,λi hi=>?_⟩
        .simp only;rw[p,bP,show ∀ a:Int,[a].length=1 fromλ_=>rfl,j4,List.take_set,zf (by grind),n,fH (by omega)]
         rfl
        .simp only at hi ⊢;rw[ai,iK (by omega),<-ai]
         grind
       .simp only;omega
     .have H:k+b=l.length:=by omega
      have x:jW l (k+b)=dL l:=by rw[H];rfl
      refine aX [(32,ae)] 200 rfl ?_ (AK.leaveD rfl rfl ?_)
      .simp only[ag,bJ];omega
      rw[x] at n;exact f c ⟨c3,n⟩ rfl (by simp[ag.cat,ag,x]) rfl (by simp[ag.cat,ag,aP.same])
    rintro c ⟨A,C⟩;have G:(dL l).length<=l.length:=sx l _;refine dO rfl ?_ ?_
    .simp only[ag]
     grind
    refine AK.law (bF.DI tok rfl rfl rfl rfl rfl rfl ?_) rfl rfl ?_
    .simp only[cr,bz];omega
    refine bk rfl ?_ (AK.ei ⟨⟨oQ (0+cr 0 (aa ((dL l).length:Int))) (0+cr 0 (aa ((dL l).length:Int))+(cr l.length af-cr 0 (aa ((dL l).length:Int)))) i3.zero (cI.fn c),λi hi=>?_⟩,b5.mk [0] rfl ?_ rfl rfl rfl gZ⟩)
    .simp only[ag]
     grind
    .have e:c[i]?=(dL l)[i]?:=by grind
     refine(qM (by simp only[cr,bz];omega)).trans ?_
     simp only[hU.fn,sH,ai,e]
    .simp[ag,cr];rfl
   .refine aX [(13,ab),(25,ae)] 200 rfl ?_ (AK.aQ (k+1) rfl ?_ ?_ ?_ ?_)
    .simp only[ag,bt,bz,w,t,bu,ba,dm,cT,aF,aC];and_intros <;> first|exact g|omega
    .simp[ag.cat,ag]
    .simp[ag.cat,ag,aP.same]
    .grind
    .omega
  .obtain rfl:k=l.length:=by omega
   refine aX [(13,ae)] 200 rfl (by simp[ag]) (AK.leaveD rfl rfl ?_)
   exact out () (by unfold dL;rw[nt (bg _) d,b6]) rfl (by simp[ag.cat,ag]) rfl (by simp[ag.cat,ag,aP.same])
 rintro⟨⟩ h;refine dO rfl av (AK.lg ⟨cI.fn l,λi _=>by rw[h]⟩ (AK.dD [0] rfl ?_ rfl rfl rfl gZ))
 simp[ag,h]
end
section
open Go.Proofs
variable {X:Cx ah}
def cf(l:List gD):List Int:=l.flatMap (·.2)
def gX(x:cC):List Int:=dL (mG (cf x.2))
def ss{l:List gD}{i:Nat}(h:i<l.length):cf (l.take (i+1))=cf (l.take i)++(l.getD i ([],[])).2:=by
 rw[bq h ([],[])];simp[cf]
def _root_.Go.AM.hU.LQ{α:Type}(c:hU α)(a b:List α)(n:Nat)(hn:n=(a++b).length):aP n (cO a.length (c.fn a) (c.fn b)) (c.fn (a++b)):=by
 intro i hi;simp only[cO,hU.fn,sH,ai]
 grind
def x3(x:cC)(o:x.2.length<=4000000)(g:(cf x.2).length<=4000000)(l:∀ i,i<=x.2.length->(cf (x.2.take i)).length<=4000000) :
  cK (ι:=Mw (gX x)) X 109 [Ek x] [] (λ_=>.e (.one (.bp 0 (.sl (cf x.2).length 1 0 (gX x).length)))) (λes=>[.buf 3 1 (cf x.2).length es.1]):=by
 refine cK.om Tryz.func109 rfl rfl rfl λn=>?_
 refine aX [(1000002,ab)] 200 rfl av ?_;refine AK.Rn 3 3 1 (cI.fn []) rfl ?_;refine dO rfl av ?_;refine AK.bO 2 (λi=>i<=x.2.length) (λi:Nat=>[(3,.e (.one (.bp 1 (.sl (cf (x.2.take i)).length 1 0 (cf (x.2.take i)).length)))),(7,cL.sl x.2),(8,dI x.2.length),(9,dI i)])
  (λi=>[.cells 64 [.c (.int .i64 x.1),.c (.sl ae 2 x.2.length (cL.fn x.2))],H9 (cf (x.2.take i)).length (cf (x.2.take i))]) (λi=>x.2.length-i) 0 rfl ?_ rfl ?_ rfl (by omega) ?_
 .simp[ag.cat,ag,aP.same,cf]
 .simp[ag.cat,ag,aP,cf]
 intro i hi
 by_cases h:i<x.2.length
 .have d:x.2.getD (i:Int).toNat cL.bD=x.2.getD i ([],[]):=by rw[bz];rfl
  have a:=ss h;have b:=l (i+1) h;rw[a,bP] at b;refine aX [(10,ab)] 200 rfl ?_ (AK.aQ (i+1) rfl ?_ ?_ ?_ ?_)
  .simp only[ag,d,bu,show i3.bytes=8 from rfl,ba,aF,aC];and_intros <;> omega
  .simp only[ag.cat,ag,d,a,bP,aC,aF]
   and_intros <;> first|exact aP.same|rfl|omega
  .have e:=cI.LQ (cf (x.2.take i)) (x.2.getD i ([],[])).2 _ rfl;simp only[ag.cat,ag,d,a,bP,aC,aF] at e ⊢;exact⟨aP.same,e⟩
  .show i+1<=_;omega
  .omega
 .obtain rfl:i=x.2.length:=by omega
  rw[b6];refine aX [(10,ae)] 200 rfl (by simp[ag]) (AK.leaveD rfl rfl ?_)
  refine dO rfl av ?_;refine AK.cQ (CN (cf x.2) g) [1] rfl ?_;refine dO rfl av ?_;have k:=xc (X:=X) (mG (cf x.2)) (by rw[gH];exact g)
  rw[gH] at k;refine AK.cP k [1] rfl (λ_=>rfl) ?_
  rintro⟨es,f⟩;refine dO rfl av (AK.lg ⟨es,f⟩ (AK.dD [1] rfl ?_ rfl rfl rfl (λj m=>absurd m (by simp))))
  simp[ag,gX]
def nq(l:List gD)(i:Nat):(cf (l.take i)).length<=(cf l).length:=by
 have h:cf l=cf (l.take i)++cf (l.drop i):=by
  unfold cf;rw[<-qZ,j1]
 rw[h,bP];omega
def sv(l:List Int):(dL l).length<=l.length:=sx l _
def AT(x:cC)(d:x.2.length<=4000000)(c:(cf x.2).length<=4000000):Ev X 109 [Ek x] [] (cI.sl (gX x)) []:=by
 have a:=x3 (X:=X) x d c λi _=>eK (nq _ _) c
 have b:=cK.iY (σ1:=λ_:Mw (gX x)=>[]) (E:=3) (k:=1) (n:=λ_=>(cf x.2).length) (es:=λes=>es.1) a (λ_=>rfl) (λ_=>?_) (λ_=>rfl) (λ_=>bg _)
 refine(b.le (res':=λ_=>cI.sl (gX x)) (λ_=>rfl) (λes=>?_)).one
 .simp only[ag.cat,ag,aC,aF];exact es.2
 .have:(gX x).length<=(cf x.2).length:=by unfold gX;rw[<-gH (cf x.2)];exact sv _
  simpa[ag.cat,ag] using this
def RM(n lo hi:Int):Ev X 15 [dI n,dI lo,dI hi] [] (dB (decide (lo<=n/\n<=hi))) []:=by
 refine Ev.bQ Tryz.func15 rfl λc=>?_
 by_cases a:lo<=n
 .by_cases b:n<=hi
  .refine aX [(10,ab),(14,ab)] 100 rfl (by simp[ag];omega) (AK.bm rfl ?_)
   simp[ag,a,b]
  .refine aX [(10,ab),(14,ae)] 100 rfl (by simp[ag];omega) (AK.bm rfl ?_)
   simp[ag];omega
 .refine aX [(10,ae),(14,ae)] 100 rfl (by simp[ag];omega) (AK.bm rfl ?_)
  simp[ag];omega
abbrev n3:dh:=Dk aI aI aI (λn lo hi=>dB (decide (lo<=n/\n<=hi))) λ_ _ _=>[]
def oF:dG X 15 n3:=.IW λn lo hi _=>RM n lo hi
def Hz(n:Nat)(f:n<=4000000):Ev X 226 [dI n] [] (dI (cD n)) []:=by
 refine Ev.bQ Tryz.func226 rfl λe=>?_
 by_cases d:n<1
 .refine aX [(6,ab),(9,ab)] 100 rfl (by simp[ag];omega) (AK.bm rfl ?_)
  have:cD n=0:=by simp[cD,d]
  simp[ag,this]
 by_cases c:8<n
 .refine aX [(6,ae),(9,ab)] 100 rfl (by simp[ag];omega) (AK.bm rfl ?_)
  have:cD n=0:=by simp[cD,c]
  simp[ag,this]
 by_cases a:n<=2
 .refine aX [(6,ae),(9,ae),(10,ab)] 100 rfl (by simp[ag];omega) (AK.bm rfl ?_)
  have:cD n=2:=by simp only[cD,aY (show ¬(n<1∨8<n) by omega),bc a]
  simp[ag,this]
 by_cases b:n<=4
 .refine aX [(6,ae),(9,ae),(10,ae),(13,ab)] 100 rfl (by simp[ag];omega) (AK.bm rfl ?_)
  have:cD n=4:=by simp only[cD,aY (show ¬(n<1∨8<n) by omega),aY a,bc b]
  simp[ag,this]
 .refine aX [(6,ae),(9,ae),(10,ae),(13,ae)] 100 rfl (by simp[ag];omega) (AK.bm rfl ?_)
  have:cD n=8:=by simp only[cD,aY (show ¬(n<1∨8<n) by omega),aY a,aY b]
  simp[ag,this]
def Ow(l:List Bs)(p:Bs)(e:l.length<=4000000):Ev X 200 [cS.sl l,dS p] [] (dB (l.contains p)) []:=by
 refine Ev.bQ Tryz.func200 rfl λd=>?_
 refine bk rfl av ?_;refine AK.bO 0 (λi=>i<=l.length/\∀ j,j<i->l.getD j []≠p) (λi:Nat=>[(0,cS.sl l),(1,dS p),(5,dI i)]) (λ_=>[]) (λi=>l.length-i) 0 rfl ?_ rfl ?_ rfl ⟨by omega,by omega⟩ ?_
 .simp[ag.cat,ag,aP.same]
 .simp[ag]
 rintro i ⟨hi,a⟩
 by_cases h:i<l.length
 .have b:l.getD (i:Int).toNat cS.bD=l.getD i []:=by rw[bz];rfl
  by_cases f:l.getD i []=p
  .refine aX [(9,ab),(17,ab)] 100 rfl ?_ (AK.ei (b5.zero rfl ?_))
   .simp only[ag,b]
    grind
   .have:p∈l:=by grind
    simp[ag,this]
  .refine aX [(9,ab),(17,ae)] 100 rfl ?_ (AK.aQ (i+1) rfl ?_ ?_ ?_ ?_)
   .simp only[ag,b,bu]
    grind
   .simp[ag.cat,ag,aP.same]
   .simp[ag]
   .grind
   .omega
 .refine aX [(9,ae)] 100 rfl (by simp[ag];omega) (AK.leaveD rfl rfl ?_)
  refine bk rfl av (AK.bm rfl ?_);have:¬p∈l:=λc=>by
   obtain⟨j,g,rfl⟩:=dT c
   grind
  simp[ag,this]
def K3(p:Bs)(b:bH p=ab):Ev X 198 [dS p] [] (dI (codeOf p)) []:=by
 refine Ev.bQ Tryz.func198 rfl λg=>?_
 have a:=b;simp only[bH,bL,ba] at a;refine bk rfl av ?_;refine AK.bO 0 (λi=>i<=p.length) (λi:Nat=>[(0,dS p),(3,dI (codeOf (p.take i))),(4,dI i)]) (λ_=>[]) (λi=>p.length-i) 0 rfl (by simp[ag.cat,ag,codeOf]) rfl (by simp[ag]) rfl (by omega) ?_
 intro i hi
 by_cases h:i<p.length
 .have k:=jS b hi;have j:=jS b (i:=i+1) (by omega)
  have e:=tS h;have f:=kP a.2 (p.getD i 0) (wC h);have d:97<=cz p i/\cz p i<=122:=by unfold cz;omega
  refine aX [(8,ab)] 100 rfl ?_ (AK.aQ (i+1) rfl ?_ ?_ ?_ ?_)
  .simp only[ag,cy,bu];simp[-ai,h,cy];omega
  .have c:(cz p i-97) % 256=cz p i-97:=Int.emod_eq_of_lt (by omega) (by omega)
   rw[c] at e;simp[-ai,ag.cat,ag,cy,e]
  .simp[ag]
  .show i+1<=p.length;omega
  .show p.length-(i+1)<p.length-i;omega
 .obtain rfl:i=p.length:=by omega
  refine aX [(8,ae)] 100 rfl (by simp[ag]) (AK.leaveD rfl rfl ?_)
  refine bk rfl av (AK.bm rfl ?_);simp[ag]
def RN:dG X 198 (jX aS (λp=>dI (codeOf p)) λp=>[bH p=ab]):=.oi λp h=>K3 p h
def K4(k:Int)(p:Bs)(e:ck k=ab)(b:bH p=ab):Ev X 181 [dI k,dS p] [] (dI (iZ k p)) []:=by
 refine Ev.bQ Tryz.func181 rfl λh=>?_
 have c:bC X [(198,jX aS (λp=>dI (codeOf p)) λp=>[bH p=ab])]:=.cons RN .nil
 have a:=e;simp only[ck,bL,ba] at a;have g:=yw b;refine aD c [] 100 rfl ?_ (AK.bm rfl ?_)
 .have d:0<=codeOf p*(2*k+1):=Int.mul_nonneg g.1 (by omega)
  have f:codeOf p*(2*k+1)<=282429536481*199:=Int.mul_le_mul (by omega) (by omega) (by omega) (by omega)
  generalize codeOf p*(2*k+1)=m at d f;simp only[ag,bu];simp[b];omega
 .show (_:Int)=_;rfl
def Az:dG X 181 (p0 aI aS (λk p=>dI (iZ k p)) λk p=>[ck k=ab,bH p=ab]):=.tb λk p h=>K4 k p h.1 h.2
def K5(l:List di) (n:Int)(e:l.length<=4000000):Ev X 199 [oC.sl l,dI n] [] (dI (tT l n)) []:=by
 refine Ev.bQ Tryz.func199 rfl λd=>?_
 refine bk rfl av ?_;refine AK.bO 0 (λi=>i<=l.length/\∀ j,j<i->(l.getD j (0,0)).1≠n) (λi:Nat=>[(0,oC.sl l),(1,dI n),(5,dI i)]) (λ_=>[]) (λi=>l.length-i) 0 rfl ?_ rfl ?_ rfl ⟨by omega,by omega⟩ ?_
 .simp[ag.cat,ag,aP.same]
 .simp[ag]
 rintro i ⟨hi,b⟩
 by_cases h:i<l.length
 .have a:l.getD (i:Int).toNat oC.bD=l.getD i (0,0):=by rw[bz];rfl
  by_cases f:(l.getD i (0,0)).1=n
  .refine aX [(9,ab),(18,ab)] 100 rfl ?_ (AK.ei (b5.zero rfl ?_))
   .simp only[ag,a]
    grind
   .have:tT l n=(l.getD i (0,0)).2:=by
     have:l.find? (λs=>s.1==n)=aa (l.getD i (0,0)):=by
      rw[uI]
      grind
     rw[tT,this]
    simp only[ag,a];rw[this]
  .refine aX [(9,ab),(18,ae)] 100 rfl ?_ (AK.aQ (i+1) rfl ?_ ?_ ?_ ?_)
   .simp only[ag,a,bu]
    grind
   .simp[ag.cat,ag,aP.same]
   .simp[ag]
   .grind
   .omega
 .refine aX [(9,ae)] 100 rfl (by simp[ag];omega) (AK.leaveD rfl rfl ?_)
  refine bk rfl av (AK.bm rfl ?_);have:tT l n=0:=by
   have:l.find? (λs=>s.1==n)=af:=by
    rw[uQ];intro x c;obtain⟨j,g,rfl⟩:=dT c
    grind
   rw[tT,this]
  simp[ag,this]
theorem wM{n:Nat}(a:1<=n)(b:n<=8):n<=cD n/\cD n<=8:=by
 unfold cD
 grind
abbrev Gb:dh:=jX aI (λn=>dI (cD n.toNat)) λn=>[0<=n/\n<=4000000]
def Ox:dG X 226 Gb:=.oi λn h=>by
 obtain⟨m,rfl⟩:∃ m:Nat,n=m:=⟨n.toNat,by have:=h.1;omega⟩
 exact Hz m (by have:=h.2;omega)
def Oy(p:Bs)(c:bH p=ab):Ev X 204 [dS p] [] (dS (iF p)) []:=by
 refine Ev.bQ Tryz.func204 rfl λd=>?_
 have b:bC X [(226,Gb)]:=.cons Ox .nil;have a:=c;simp only[bH,bL,ba] at a;have f:=wM a.1.1 a.1.2;refine aD b [] 100 rfl ?_ ?_
 .simp only[ag];omega
 refine AK.bO 0 (λj=>p.length+j<=cD p.length) (λj:Nat=>[(0,dS (p++List.replicate j 46)),(3,dI (cD p.length))]) (λ_=>[]) (λj=>cD p.length-j) 0 rfl (by simp[ag.cat,ag]) rfl (by simp[ag]) rfl (by omega) ?_
 intro j g
 by_cases h:p.length+j<cD p.length
 .refine aD b [(10,ab)] 100 rfl ?_ (AK.aQ (j+1) rfl ?_ ?_ ?_ ?_)
  .simp[ag];omega
  .simp[ag.cat,ag,List.replicate_succ']
  .simp[ag]
  .show p.length+(j+1)<=_;omega
  grind
 .have e:cD p.length-p.length=j:=by omega
  refine aD b [(10,ae)] 100 rfl (by simp[ag];omega) (AK.leaveD rfl rfl ?_)
  refine aD b [] 100 rfl av (AK.bm rfl ?_);simp[ag,iF,c,e]
def K6(s:di):Ev X 201 [.e (.agg [.c (.int .i64 s.1),.c (.int .i64 s.2)])] [] (dB (lh s)) []:=by
 refine Ev.bQ Tryz.func201 rfl λf=>?_
 have d:bC X [(15,n3)]:=.cons oF .nil
 by_cases a:0<=s.1/\s.1<=999999999988
 .by_cases b:1<=s.2/\s.2<=99
  .refine aD d [(6,ab),(10,ab)] 100 rfl (by simp[ag,a,b]) (AK.bm rfl ?_)
   have:lh s=ab:=by simp[lh,a,b];omega
   simp[ag,this]
  .refine aD d [(6,ab),(10,ae)] 100 rfl (by simp[ag,a,b] <;> omega) (AK.bm rfl ?_)
   have:lh s=ae:=by simp[lh,a];omega
   simp[ag,this]
 .refine aD d [(6,ae),(10,ae)] 100 rfl (by simp[ag];omega) (AK.bm rfl ?_)
  have:lh s=ae:=by simp[lh];omega
  simp[ag,this]
abbrev K7:dh:=jX S6 (λs=>dB (lh s)) λ_=>[]
def RO:dG X 201 K7:=.oi λs _=>K6 s
def K8(s:Bs)(i:Nat)(a:b7 s=ab)(j:3<=i)(hi:i<=s.length)(g:s.length<=4000000):Ev X 227 [dS s,dI i] [] (dB (lb s i)) []:=by
 refine Ev.bQ Tryz.func227 rfl λf=>?_
 have k:=Hh a (i-1) (by omega)
 have h:=Hh a (i-2) (by omega)
 have e:=Hh a (i-3) (by omega)
 have c:((iR s ((i:Int)-1)).toNat:Int)=cz s (i-1):=by grind [cy]
 have b:((iR s ((i:Int)-2)).toNat:Int)=cz s (i-2):=by grind [cy]
 have d:((iR s ((i:Int)-3)).toNat:Int)=cz s (i-3):=by grind [cy]
 refine bk rfl ?_ (AK.bm rfl ?_)
 .simp only[ag,bu,c,b,d];omega
 .simp only[ag,ag.cat,c,b,d,lb,dl,aC]
  grind
abbrev K9:dh:=p0 aS aI (λs i=>dB (lb s i.toNat)) λs i=>[b7 s=ab,3<=i,i<=s.length,s.length<=4000000]
def RP:dG X 227 K9:=.tb λs i h=>by
 obtain⟨a,c,d,b⟩:=h;obtain⟨m,rfl⟩:∃ m:Nat,i=m:=⟨i.toNat,by omega⟩
 exact K8 s m a (by omega) (by omega) b
def RQ(t:Bs)(f:Nat)(i:b7 t=ab)(n:f<=t.length)(p:t.length<=4000000):Ev X 205 [dS t,dI f] [] (dI (cutAt t f)) []:=by
 refine Ev.bQ Tryz.func205 rfl λo=>?_
 have b:bC X [(227,K9)]:=.cons RP .nil;refine aD b [] 100 rfl av ?_;refine AK.jO (λj=>j<=5/\tc t f (5-j)=cutAt t f) (λj:Nat=>[(0,dS t),(1,dI f),(5,dI (3+j))]) (λ_=>[]) (λj=>5-j) 0 rfl ?_ rfl av ⟨by omega,rfl⟩ ?_
 .simp[ag,ag.cat]
 rintro j ⟨q,a⟩
 by_cases h:j<5
 .obtain⟨k,m⟩:∃ k,5-j=k+1:=⟨4-j,by omega⟩
  have d:f+(7-k)=f+3+j:=by omega
  rw[m] at a;simp only[tc,d] at a
  by_cases g:t.length<=f+3+j
  .rw[bc g] at a;refine aD b [(7,ab),(15,ab)] 100 rfl ?_ (AK.gJ (b5.zero rfl ?_))
   .simp only[ag,bu,ba,aF,aC];omega
   .simp[ag,ag.cat,<-a]
  rw[aY g] at a;have e:((f:Int)+(3+(j:Int))).toNat=f+3+j:=by omega
  cases c:lb t (f+3+j) with
  |true =>
   rw[c,bc rfl] at a;refine aD b [(7,ab),(15,ae),(22,ab)] 100 rfl ?_ (AK.gJ (b5.zero rfl ?_))
   .simp only[ag,bu,e,c,i,ba,bJ,aF,aC];omega
   .simp[ag,ag.cat,<-a];omega
  |false =>
   rw[c,aY (by simp)] at a
   refine aD b [(7,ab),(15,ae),(22,ae)] 100 rfl ?_ (AK.fU (j+1) rfl ?_ rfl av ⟨by omega,by grind⟩ (by omega))
   .simp only[ag,bu,e,c,i,ba,bJ,aF,aC];omega
   .simp[ag,ag.cat];omega
 .have e:cutAt t f=min (f+8) t.length:=by
   rw[<-a,show 5-j=0 by omega];rfl
  have l:bu .i64 ((min (f+8) t.length:Nat):Int):=by simp only[bu];omega
  refine aD b [(7,ae)] 100 rfl ?_ (AK.leave rfl rfl ?_)
  .simp only[ag,bu,ba,bJ];omega
  refine aD b [] 100 rfl ?_ ?_
  .simp only[ag,bu];omega
  refine AK.law (Aj ((min (f+8) t.length:Nat):Int) rfl rfl rfl (by omega) l) rfl rfl ?_
  refine aD b [] 100 rfl av (AK.bm rfl ?_);simp[ag,e]
abbrev UQ:dh:=p0 aS aI (λs i=>dI (cutAt s i.toNat)) λs i=>[b7 s=ab,0<=i,i<=s.length,s.length<=4000000]
def X9:dG X 205 UQ:=.tb λs i h=>by
 obtain⟨a,c,d,b⟩:=h;obtain⟨m,rfl⟩:∃ m:Nat,i=m:=⟨i.toNat,by omega⟩
 exact RQ s m a (by omega) b
abbrev mz(t:Bs):List Int:=(AA t).map λn:Nat=>(n:Int)
def La(t:Bs)(l:b7 t=ab)(p:t.length<=4000000):Ev X 187 [dS t] [] (cI.sl (mz t)) []:=by
 refine Ev.bQ Tryz.func187 rfl λo=>?_
 have a:bC X [(205,UQ)]:=.cons X9 .nil;refine aD a [(1000003,ab)] 100 rfl av ?_;refine AK.ir 3 3 1 rfl rfl ?_;refine aD a [] 100 rfl av ?_;refine AK.bO 1 (λs:Nat×List Int=>s.1<=t.length/\s.2.length<=s.1/\∃ k,t.length<=s.1+k/\mz t=s.2++(mD t k s.1).map λn:Nat=>(n:Int)) (λs=>[(0,dS t),(3,.e (.one (.vec 0 1 s.2.length (cI.fn s.2)))),(4,dI s.1)]) (λs=>[.vec 3 1 s.2.length (cI.fn s.2)]) (λs=>t.length-s.1) (0,[]) rfl ?_ rfl ?_ rfl ⟨by simp,by simp,t.length,by simp,by simp[mz,AA]⟩ ?_
 .simp[ag.cat,ag,aP.same,aP.nil]
 .simp[ag.cat,ag,aP.same,aP.nil]
 rintro⟨f,acc⟩ ⟨c,b,k,m,g⟩;simp only at c b m g
 by_cases h:f<t.length
 .obtain⟨k,rfl⟩:∃ k',k=k'+1:=⟨k-1,by omega⟩
  have j:=nh t f h;have i:=cI.cn acc (cutAt t f:Int);have d:acc.length+1=(acc++[(cutAt t f:Int)]).length:=by simp
  refine aD a [(9,ab)] 100 rfl ?_ (AK.aQ (cutAt t f,acc++[(cutAt t f:Int)]) rfl ?_ ?_ ?_ ?_)
  .simp only[ag,l,show i3.bytes=8 from rfl,ba,aF,aC]
   and_intros <;> omega
  .exact ag.cat.2 ⟨rfl,ag.cat.2 ⟨⟨d,i⟩,ag.cat.2 ⟨rfl,av⟩⟩⟩
  .exact ag.cat.2 ⟨⟨d,i⟩,av⟩
  .refine⟨j.2.1,by grind,k,by grind,?_⟩
   rw[g];simp only[mD,bc h];simp
  grind
 .have e:mz t=acc:=by
   have:mD t k f=[]:=by cases k <;> simp[mD,h]
   grind
  refine aD a [(9,ae)] 100 rfl (by simp only[ag,bJ];omega) (AK.leaveD rfl rfl ?_)
  refine aD a [] 100 rfl av (AK.bm rfl ?_);rw[e];simp[ag,ag.cat,aP.same]
abbrev Lb:dh:=jX aS (λt=>cI.sl (mz t)) λt=>[b7 t=ab,t.length<=4000000]
def RR:dG X 187 Lb:=.oi λt h=>La t h.1 h.2
def drop_cons{α:Type}{l r:List α}{i:Nat}{x:α}(h:l.drop i=x::r)(d:α):i<l.length/\l.getD i d=x/\l.drop (i+1)=r:=by
 grind [List.drop_eq_nil_of_le,List.drop_eq_getElem_cons]
def yB(t:Bs):∀ k f,(mD t k f).length<=k
 |0,_=>bg _
 |k+1,f=>by
  simp only[mD];split
  .have:=yB t k (cutAt t f);grind
  .simp
def Oz(t:Bs)(w:b7 t=ab)(z:t.length<=4000000):Ev X 160 [dS t] [] (cS.sl (pieces t)) []:=by
 refine Ev.bQ Tryz.func160 rfl λy=>?_
 have c:bC X [(187,Lb)]:=.cons RR .nil;have A:(mz t).length<=t.length:=by simp only[mz,kZ];exact yB t _ _
 refine aD c [(1000002,ab)] 100 rfl av ?_;refine AK.ir 3 9 1 rfl rfl ?_;refine aD c [] 100 rfl (by simp only[ag,w];grind) ?_
 refine AK.bO 1 (λs:Nat×Nat×List Bs=>s.1<=(mz t).length/\s.2.1<=t.length/\s.2.2.length<=s.1/\∃ k,t.length<=s.2.1+k/\(mz t).drop s.1=((mD t k s.2.1).map λn:Nat=>(n:Int))/\pieces t=s.2.2++ff t k s.2.1) (λs=>[(0,dS t),(3,.e (.one (.vec 0 1 s.2.2.length (cS.fn s.2.2)))),(4,dI s.2.1),(5,cI.sl (mz t)),(6,dI s.1)]) (λs=>[.vec 9 1 s.2.2.length (cS.fn s.2.2)]) (λs=>(mz t).length-s.1) (0,0,[]) rfl ?_ rfl ?_ rfl ⟨by simp,by simp,by simp,t.length,by simp,by simp[mz,AA],by simp[pieces]⟩ ?_
 .simp[ag.cat,ag,aP.same,aP.nil]
 .simp[ag.cat,ag,aP.same,aP.nil]
 rintro⟨i,f,acc⟩ ⟨hi,o,d,k,x,m,j⟩;simp only at hi o d x m j
 by_cases h:i<(mz t).length
 .have g:mD t k f≠[]:=by
   grind [List.length_drop]
  obtain⟨k,rfl⟩:∃ k',k=k'+1:=by
   cases k with
   |zero=>exact absurd rfl g
   |succ k=>grind
  have a:f<t.length:=by
   rcases cG f t.length with h|h
   .exact h
   .exact absurd (by simp only[mD,aY (show ¬f<t.length by omega)]) g
  simp only[mD,bc a,rl] at m;obtain⟨_,B,g2⟩:=drop_cons m 0;have u:=nh t f a;have l:(mz t).getD (i:Int).toNat cI.bD=(cutAt t f:Int):=by grind
  have b:rO t (aa (f:Int)) (aa (cutAt t f:Int))=(t.drop f).take (cutAt t f-f):=by simp[rO,List.drop_take]
  have p:=cS.cn acc ((t.drop f).take (cutAt t f-f));have q:acc.length+1=(acc++[(t.drop f).take (cutAt t f-f)]).length:=by simp
  refine aD c [(13,ab)] 100 rfl ?_ (AK.aQ (i+1,cutAt t f,acc++[(t.drop f).take (cutAt t f-f)]) rfl ?_ ?_ ?_ ?_)
  .simp only[ag,l,bu,iP,show i9.bytes=16 from rfl,ba,aF,aC]
   and_intros <;> omega
  .simp only[ag.cat,ag,l,b,aF,aC]
   and_intros <;> first|exact q|exact p|exactλ_ _=>rfl|omega
  .simp only[ag.cat,ag,l,b,aF,aC]
   and_intros <;> first|exact q|exact p
  .refine⟨by grind,u.2.1,by grind,k,by grind,g2,?_⟩
   rw[j];simp only[ff,bc a];simp
  grind
 .have e:pieces t=acc:=by
   have r:mD t k f=[]:=by
    grind [List.map_eq_nil_iff]
   have a:¬f<t.length:=by
    intro v;cases k with
    |zero=>omega
    |succ k=>simp only[mD,bc v] at r;cases r
   rw[j];cases k <;> simp[ff,a]
  refine aD c [(13,ae)] 100 rfl (by simp only[ag,bJ];omega) (AK.leaveD rfl rfl ?_)
  refine aD c [] 100 rfl av (AK.bm rfl ?_);rw[e];simp[ag,ag.cat,aP.same]
abbrev Gc:dh:=jX aS (λt=>cS.sl (pieces t)) λt=>[b7 t=ab,t.length<=4000000]
def Lc:dG X 160 Gc:=.oi λt h=>Oz t h.1 h.2
def _root_.Go.AM.hU.pj{α:Type}(c:hU α)(l:List α)(x y:α):aP (l.length+1+1) (cO (l.length+1) (cO l.length (c.fn l) λq=>[c.enc x].getD q []) λq=>[c.enc y].getD q []) (c.fn (l++[x,y])):=by
 have h1:=c.cn l x;have h2:=c.cn (l++[x]) y;rw[show (l++[x]).length=l.length+1 by simp,show l++[x]++[y]=l++[x,y] by simp] at h2
 intro q a;rw[<-h2 q a];simp only[cO]
 by_cases e:q<l.length+1
 .rw[bc e,bc e];exact h1 q e
 grind
abbrev Yc(x:cA):D:=.e (.agg [.c (.int .i64 x.1),.c (.str x.2)])
def jZ(x:cA)(acc:List cA×Bool)(y:cA):List cA×Bool:=if acc.2=ab then (acc.1++[y],ab) else if x.1<y.1 then (acc.1++[x,y],ab) else (acc.1++[y],ae)
def yJ(x:cA):∀ (l:List cA)(a:List cA),(l.foldl (jZ x) (a,ab))=(a++l,ab)
 |[],a=>by simp
 |y::r,a=>by
  rw[jl,show jZ x (a,ab) y=(a++[y],ab) from rfl,yJ x r]
  simp
def yK(x:cA):∀ (l:List cA)(a:List cA),(if (l.foldl (jZ x) (a,ae)).2=ab then (l.foldl (jZ x) (a,ae)).1 else (l.foldl (jZ x) (a,ae)).1++[x])=a++sh l x
 |[],a=>by simp[sh]
 |y::r,a=>by
  rw[jl]
  by_cases h:x.1<y.1
  .rw[show jZ x (a,ae) y=(a++[x,y],ab) by simp[jZ,h],yJ]
   simp[sh,h]
  .rw[show jZ x (a,ae) y=(a++[y],ae) by simp[jZ,h],yK x r]
   simp[sh,h]
theorem yL(x:cA):∀ (l:List cA)(a:List cA×Bool),(l.foldl (jZ x) a).1.length<=a.1.length+l.length+1-(if a.2=ab then 1 else 0)
 |[],a=>by grind
 |y::r,a=>by
  rw[jl];have:=yL x r (jZ x a y);unfold jZ at this ⊢
  grind
abbrev uD(x:cA)(l:List cA)(i:Nat):List cA×Bool:=(l.take i).foldl (jZ x) ([],ae)
def HH{x:cA}{l:List cA}{i:Nat}(h:i<l.length):uD x l (i+1)=jZ x (uD x l i) (l.getD i (0,[])):=by
 grind [bq]
def Cm(x:cA)(l:List cA)(i:Nat):(uD x l i).1.length<=l.length+1:=by
 grind [yL]
abbrev p3F(l:List cA)(x:cA)(i:Nat)(a:List cA×Bool):Fr:=[(0,dE.sl l),(3,.e (.one (.ptr 0 0))),(5,.e (.one (.vec 1 2 a.1.length (dE.fn a.1)))),(6,dB a.2),(7,dI i)]
abbrev p3B(x:cA)(a:List cA):List aV:=[.cells 88 [.c (.int .i64 x.1),.c (.str x.2)],.vec 88 2 a.length (dE.fn a)]
def OC(l:List cA)(x:cA)(q:l.length<=4000000):Ev X 203 [dE.sl l,Yc x] [] (dE.sl (sh l x)) []:=by
 refine Ev.bQ Tryz.func203 rfl λp=>?_
 refine aX [(1000002,ab)] 200 rfl av ?_;refine AK.ir 5 88 2 rfl rfl ?_;refine dO rfl av ?_;refine AK.bO 2 (λi=>i<=l.length) (λi:Nat=>p3F l x i (uD x l i)) (λi=>p3B x (uD x l i).1) (λi=>l.length-i) 0 rfl ?_ rfl ?_ rfl (by omega) ?_
 .simp[ag.cat,ag,aP.same,aP.nil,uD]
 .simp[ag.cat,ag,aP.same,aP.nil,uD]
 intro i hi
 by_cases h:i<l.length
 .have n:=HH (x:=x) h;have e:=Cm x l i;have g:l.getD (i:Int).toNat dE.bD=l.getD i (0,[]):=by grind
  generalize uD x l i=a at n e;obtain⟨a,b⟩:=a;simp only at e;have k:=dE.cn a (l.getD i (0,[]));have m:=dE.pj a x (l.getD i (0,[]));cases b with
  |true =>
   have d:uD x l (i+1)=(a++[l.getD i (0,[])],ab):=n;have j:a.length+1=(a++[l.getD i (0,[])]).length:=by simp
   refine aX [(12,ab)] 200 rfl ?_ (AK.aQ (i+1) rfl ?_ ?_ ?_ ?_)
   .simp only[ag,g,bu,show i88.bytes=24 from rfl,ba,aF,aC];and_intros <;> omega
   .rw[d];simp only[ag.cat,ag,g,aF,aC]
    and_intros <;> first|exact j|exact k|exactλ_ _=>rfl|rfl|omega
   .rw[d];simp only[ag.cat,ag,g,aF,aC]
    and_intros <;> first|exact j|exact k|exactλ_ _=>rfl|rfl|omega
   .grind
   .omega
  |false =>
   by_cases f:x.1<(l.getD i (0,[])).1
   .have d:uD x l (i+1)=(a++[x,l.getD i (0,[])],ab):=by rw[n];simp only[jZ,bc f];rfl
    have j:a.length+1+1=(a++[x,l.getD i (0,[])]).length:=by simp
    refine aX [(12,ab),(25,ab)] 200 rfl ?_ (AK.aQ (i+1) rfl ?_ ?_ ?_ ?_)
    .simp only[ag,g,bu,show i88.bytes=24 from rfl,f,ib,ba,aF,aC];and_intros <;> omega
    .rw[d];simp only[ag.cat,ag,g,aF,aC]
     and_intros <;> first|exact j|exact m|exactλ_ _=>rfl|rfl|omega
    .rw[d];simp only[ag.cat,ag,g,aF,aC]
     and_intros <;> first|exact j|exact m|exactλ_ _=>rfl|rfl|omega
    .grind
    .omega
   .have d:uD x l (i+1)=(a++[l.getD i (0,[])],ae):=by rw[n];simp only[jZ,aY f];rfl
    have j:a.length+1=(a++[l.getD i (0,[])]).length:=by simp
    refine aX [(12,ab),(25,ae)] 200 rfl ?_ (AK.aQ (i+1) rfl ?_ ?_ ?_ ?_)
    .simp only[ag,g,bu,show i88.bytes=24 from rfl,ba,f,ku,nC,bJ,aF,aC];and_intros <;> omega
    .rw[d];simp only[ag.cat,ag,g,aF,aC]
     and_intros <;> first|exact j|exact k|exactλ_ _=>rfl|rfl|omega
    .rw[d];simp only[ag.cat,ag,g,aF,aC]
     and_intros <;> first|exact j|exact k|exactλ_ _=>rfl|rfl|omega
    .grind
    .omega
 .obtain rfl:i=l.length:=by omega
  have c:=yK x l [];have e:=Cm x l l.length;refine aX [(12,ae)] 200 rfl (by simp[ag]) (AK.leaveD rfl rfl ?_)
  have o:uD x l l.length=l.foldl (jZ x) ([],ae):=by grind
  rw[o] at e ⊢;generalize l.foldl (jZ x) ([],ae)=a at *;obtain⟨a,b⟩:=a;simp only[List.nil_append] at c e;cases b with
  |true =>
   simp only[cq] at c;subst c;refine dO rfl av (AK.bm rfl ?_);simp[ag,ag.cat,aP.same]
  |false =>
   simp only[jE,b9] at c;have k:=dE.cn a x;refine dO rfl ?_ (AK.bm rfl ?_)
   .simp only[ag,show i88.bytes=24 from rfl,aF,aC];grind
   .rw[<-c];simp only[ag.cat,ag,aF,aC]
    and_intros <;> first|exact k|simp
abbrev P3:dh:=p0 (aL dE) S5 (λl x=>dE.sl (sh l x)) λl _=>[l.length<=4000000]
def UT:dG X 203 P3:=.tb λl x h=>OC l x h
end
end Go.AM.R1
