/- Part 4. No condition. -/
import Derived.Test.YtnfgfnpbmbalmaaGreatDoorA3
import Derived.Lib.FrozenHead
import Derived.Lib.UnsafeStr
import Derived.Lib.MakeNoZero
import Derived.Laws.Externs
import Derived.Lib.Builder
import Derived.Maps.RangeRun
import Derived.Lib.Bytealg
import Derived.Conc.DeferLaws
set_option linter.all false
set_option maxHeartbeats 8000000
open Go renaming Value → ak
open Option renaming some → aa
open Go renaming Program → aq
open Go renaming TypeId → ar
open Bool renaming true → ab
open Go renaming Goroutine → au
open Go renaming Frame → aR
open Go renaming Oper → aw
open Go renaming FuncId → aW
open Go renaming execOp → ay
open Go renaming Operand → an
open Option renaming none → af
open Bool renaming false → ae
open Go renaming undef → aj
open Go.World renaming cell? → a9
open List renaming getD_eq_getElem?_getD → ai
open Go.Sem renaming events_bind → aO
open Go.Result renaming evThen_ok → aU
open Go renaming World → az
open Go renaming stepG → aK
open List renaming range → bh
open Nat renaming beq → aG
open Nat renaming ble → bo
open Go.Region renaming ready → bc
open Go.Op renaming bytesLess → bl
open Go.Proofs.Tryz renaming prog → ah
open List renaming all_eq_true → bu
open Go.Conc renaming stepG_seq → aD
open Go.Conc renaming stepG_region_end → aA
namespace Go.AM
section
open Go.Conc (G)
def ql(xs:List UInt8):List ak:=xs.map λx=>.int .u8 x.toNat
theorem u6{xs:List UInt8}:(ql xs).length=xs.length:=by simp[ql]
def Nq{xs b:List UInt8}:ql (xs++b)=ql xs++ql b:=by simp[ql]
def oV(bf:Option (Nat×Nat))(n:Nat):ak:=match bf with|none=>.slice af 0 0|some (g,cap)=>.slice (aa ⟨g,0,af⟩) n cap
def BB(T E:ar)(a:Bool)(v1:ak)(bf:Option (Nat×Nat))(xs:List UInt8)(f:Nat):ak->(Nat->Option Obj)->Prop:=λv d =>
 ∃ b,v=.pointer (aa ⟨b,0,af⟩)/\cZ v1=ab/\d b=aa (.cells #[if a then v else .pointer af,v1] T (0,0)) /\
 match bf with
 |none=>xs=[]/\∀ c,(d c).isSome=ab↔c=b
 |some (g,cap)=>g≠b/\xs.length<=cap/\0<cap/\cap<=9223372036854775807/\f<=xs.length/\(∃ e,(ql xs++e).length=cap/\d g=aa (.cells (ql xs++e).toArray E (0,f)))/\∀ c,(d c).isSome=ab↔c=b∨c=g
section
variable {P:aq}{X:Cx P}{N:Nat}{m:List (Nat×TI)}{o:aw}{k:an->D}{σ:List aV}{l:Nat}{T E:ar}{a:Bool}{v1:ak}{bf:Option (Nat×Nat)}{xs:List UInt8}{f:Nat}{s:St}
structure vr (P:aq)(σ:List aV)(s:St)(l:Nat)(T E:ar)(a:Bool)(v1:ak)(bf:Option (Nat×Nat))(xs:List UInt8)(f:Nat)(L:Loc)(b:Nat)(ch:Nat->Option Obj):Prop where
 β:s.β[l]?=aa L
 v:L.v=.pointer (aa ⟨b,0,af⟩)
 bb:BB T E a v1 bf xs f L.v ch
 heap:∀ (b:Nat) (o:Obj),ch b=aa o->s.w.heap[b]?=aa o
 bs:∀ b,b∈L.bs↔(ch b).isSome=ab
 M:∀ b∈L.bs,∀ o,s.M b o=af
 ch:ch b=aa (.cells #[if a then L.v else .pointer af,v1] T (0,0))
 cell:cZ v1=ab
def BB.row(hh:aJ σ s)(hl:σ[l]?=aa (.dD (BB T E a v1 bf xs f))):∃ L b ch,vr P σ s l T E a v1 bf xs f L b ch:=by
 have c:l<s.β.length:=by rw[hh.len];grind
 have e:=br c;generalize s.β[l]=L at e;obtain⟨ch,g,h1,h2,h⟩:=hh.box l _ L hl e;have d:=g;obtain⟨b,i,j,hb,_⟩:=d;exact⟨L,b,ch,e,i,g,h1,h2,h,hb,j⟩
def vr.mem{L:Loc}{b:Nat}{ch:Nat->Option Obj}(r:vr P σ s l T E a v1 bf xs f L b ch):b∈L.bs:=(r.bs b).2 (by rw[r.ch];rfl)
def vr.ptr{L:Loc}{b:Nat}{ch:Nat->Option Obj}(r:vr P σ s l T E a v1 bf xs f L b ch){v:ak}{off:Nat}(h:dc σ s v (.e (.one (.ptr l off)))):v=.pointer (aa ⟨b,off,af⟩):=by
 obtain⟨_,d,c,h1,h2,rfl⟩:=(h:gx σ s v (.ptr l off));rw[r.β] at h1;cases h1;rw[r.v] at h2;grind
def Jg(B:dg P m){t:ar}{x:an}{i:TI}(h:o.op=.load t x)(hi:bF m t=aa i)(F:i.agg=ae)(K:σ[l]?=aa (.dD (BB T E a v1 bf xs f))){off:Nat}{d:D}(J:k x=.e (.one (.ptr l off)))
  (C:∀ s L b ch,aJ σ s->vr P σ s l T E a v1 bf xs f L b ch->∃ v,(#[if a then L.v else .pointer af,v1]:Array ak)[off]?=aa v/\dc σ s v d):bH P o k σ d σ:=by
 refine .nS λs ρ z G=>?_
 obtain⟨L,b,ch,r⟩:=BB.row (P:=P) z K;have A:=r.ptr (by have:=G x;rwa [J] at this)
 obtain⟨v,H,u⟩:=C s L b ch z r;have g:s.w.cell? ⟨b,off,af⟩=aa v:=by
  simp only[a9,r.heap _ _ r.ch]
  grind
 have c:(loadVar t ⟨b,off,af⟩).run P s.w=.ok v s.w:=by
  simp[loadVar,(B t i hi).ki,F,run_load,g]
 refine⟨v,by simp[ay,h,A,Instr.loadAt,Instr.sureAddr,c],u,λy q=>?_⟩
 have p:y∈(loadVar t ⟨b,off,af⟩).events P s.w #[]:=by
  have e:ay ρ o=(do pure (.value (<-loadVar t ⟨b,off,af⟩))):=by simp[ay,h,A,Instr.loadAt,Instr.sureAddr]
  rw[e] at q;simpa[c] using q
 obtain⟨j,I,rfl⟩:=kl (B t i hi) (n:=1) (λj I=>by
  grind) (by grind) y p
 exact rE (bU r.β) r.mem
def bH.fe(c:dg P m){t:ar}{x:an}{i:TI}(h:o.op=.load t x)(hi:bF m t=aa i)(d:i.agg=ae)(hl:σ[l]?=aa (.dD (BB T E a v1 bf xs f)))(g:k x=.e (.one (.ptr l 1))):bH P o k σ (.e (.one (.v v1))) σ :=
 Jg c h hi d hl g λs L b ch hh r=>⟨v1,by simp,Rd.val r.cell⟩
def Nr{H:ak->(Nat->Option Obj)->Prop}(b:σ[l]?=aa (.dD H)):∀ B,σ[l]?=aa B->B.gr=ae:=by intro B h;rw[b] at h;cases h;rfl
def bH.Jh(c:dg P m){t:ar}{x:an}{i:TI}(h:o.op=.load t x)(hi:bF m t=aa i)(d:i.agg=ae)(hl:σ[l]?=aa (.dD (BB T E ab v1 bf xs f)))(g:k x=.e (.one (.ptr l 0))):bH P o k σ (.e (.one (.ptr l 0))) σ :=
 Jg c h hi d hl g λs L b ch hh r=>⟨L.v,by simp,Nr hl,L,b,r.β,r.v,r.v⟩
def bH.QK(d:dg P m){t:ar}{x:an}{i:TI}(h:o.op=.load t x)(hi:bF m t=aa i)(g:i.agg=ae)(hl:σ[l]?=aa (.dD (BB T E ae v1 bf xs f)))(j:k x=.e (.one (.ptr l 0))):bH P o k σ (.e (.one (.c .km))) σ :=
 Jg d h hi g hl j λs L b ch hh r=>⟨.pointer af,by simp,Rd.km⟩
def setRow_size(w:az)(b:Nat)(row:Array ak):(w.setRow b row).heap.size=w.heap.size:=by simp[World.setRow]
def Ji(V:dg P m){t:ar}{x y:an}{i:TI}(h:o.op=.store t x y)(hi:bF m t=aa i)(K:i.size=1)(hl:σ[l]?=aa (.dD (BB T E a v1 bf xs f))){off:Nat}{c:Bool}{d:ak}(hx:k x=.e (.one (.ptr l off)))(ho:off<2)(hc:cZ d=ab)
  (hd:∀ s L b ch v,aJ σ s->vr P σ s l T E a v1 bf xs f L b ch->dc σ s v (k y)->cZ v=ab/\(#[if a then L.v else .pointer af,v1]:Array ak).setIfInBounds off v=#[if c then L.v else .pointer af,d]):bH P o k σ .any (σ.set l (.dD (BB T E c d bf xs f))):=by
 intro s ρ S W;obtain⟨L,b,ch,r⟩:=BB.row (P:=P) S hl;have I:=r.ptr (by have:=W x;rwa [hx] at this)
 obtain⟨C,F⟩:=hd s L b ch (ρ y) S r (W y);have q:(ρ y).cells=#[ρ y]:=by cases R:ρ y <;> simp[R,cZ,Value.cells] at C ⊢
 have A:∀ v∈[ρ y],v.oneCell'=ab:=by
  intro v I;simp at I;subst I;cases R:ρ y <;> simp[R,cZ,Value.oneCell'] at C ⊢
 have n:=r.heap _ _ r.ch;have G:=run_storeCells_at P b off T [ρ y] 0 _ s.w n (by grind) A
 have B:((#[if a then L.v else .pointer af,v1]:Array ak).toList.take (off+0)++[ρ y]++(#[if a then L.v else .pointer af,v1]:Array ak).toList.drop (off+0+[ρ y].length)).toArray=#[if c then L.v else .pointer af,d]:=by
  rw[<-F]
  match off,ho with
  |0,_=>grind
  |1,_=>grind
 rw[B] at G;have Jj:(s.w.setRow b #[if c then L.v else .pointer af,d]).heap[b]?=aa (.cells #[if c then L.v else .pointer af,d] T (0,0)):=setRow_heap s.w b _ _ T _ n
 have z:∀ g,g≠b->(s.w.setRow b #[if c then L.v else .pointer af,d]).heap[g]?=s.w.heap[g]?:=λg p=>setRow_other s.w b g _ p
 obtain⟨Z,Y⟩:=S.ld (l:=l) (H':=BB T E c d bf xs f) (L':=L) (w':=s.w.setRow b #[if c then L.v else .pointer af,d]) hl r.β rfl (by rw[setRow_size];grind)
  (λg p hn=>z g (by rintro rfl;exact hn r.mem)) (λg p=>.inl p)
  ⟨λg=>if g=b then aa (.cells #[if c then L.v else .pointer af,d] T (0,0)) else ch g,by
   obtain⟨O,q1,q2,q3,q4⟩:=r.bb;have:O=b:=by rw[r.v] at q1;grind
   subst this;have Q:∀ g,(if g=O then aa (Obj.cells #[if c then L.v else .pointer af,d] T (0,0)) else ch g).isSome=ab↔(ch g).isSome=ab:=by
    grind
   refine⟨O,q1,hc,by simp,?_⟩
   grind,λg o' p=>by
   by_cases e:g=b
   .grind
   .simp only[e,cd] at p;rw[z g e];exact r.heap _ _ p,λg=>by
   rw[r.bs g]
   by_cases e:g=b
   .subst e;simp[r.ch]
   grind⟩ rfl rfl rfl
 have J:s.β.set l L=s.β:=by
  apply iM
  intro j
  by_cases e:l=j
  .subst e;rw[fI (cr.1 r.β).1,r.β]
  grind
 rw[J] at Z Y;refine⟨.skip,{ s with w:=s.w.setRow b #[if c then L.v else .pointer af,d] },?_,rfl,Z,Y,?_⟩
 .simp[ay,h,I,Instr.storeAt,Instr.sureAddr,storeVar,(V t i hi).run_sizeOf,K,q,G]
 .intro U u;have e:ay ρ o=(do storeVar t ⟨b,off,af⟩ (ρ y);pure .skip):=by simp[ay,h,I,Instr.storeAt,Instr.sureAddr]
  rw[e] at u;have H:U∈(storeCells ⟨b,off,af⟩ [ρ y]).events P s.w #[]:=by
   simp only[storeVar,aO,(V t i hi).run_sizeOf,q,K,aU,events_sizeOf,cW,fu,cd,bY,b9,Sem.events_pure,List.size_toArray,er] at u;generalize (storeCells ⟨b,off,af⟩ [ρ y]).run P s.w=r at u;cases r with
   |ok v w'=>simpa using u
   |halt x w'=>simpa using u
  rcases eE [ρ y] 0 _ s.w #[] n (by grind) A U H with QL|⟨j,_,_,rfl⟩
  .grind
  .exact mn (bU r.β) r.mem (r.M _ r.mem _)
def bH.zy(n:dg P m){t:ar}{x y:an}{i:TI}(h:o.op=.store t x y)(hi:bF m t=aa i)(d:i.size=1)(hl:σ[l]?=aa (.dD (BB T E a v1 bf xs f))){c:ak}(p:k x=.e (.one (.ptr l 1)))(j:k y=.e (.one (.v c)))(q:cZ c=ab):bH P o k σ .any (σ.set l (.dD (BB T E a c bf xs f))) :=
 Ji n h hi d hl p (by omega) q λs L b ch v hh r g=>by
  rw[j] at g;have:=Rd.fZ g
  grind
def bH.Ns(j:dg P m){t:ar}{x y:an}{i:TI}(h:o.op=.store t x y)(hi:bF m t=aa i)(c:i.size=1)(hl:σ[l]?=aa (.dD (BB T E a v1 bf xs f)))(n:k x=.e (.one (.ptr l 0)))(g:k y=.e (.one (.ptr l 0)))(p:cZ v1=ab):bH P o k σ .any (σ.set l (.dD (BB T E ab v1 bf xs f))) :=
 Ji j h hi c hl n (by omega) p λs L b ch v hh r d=>by
  rw[g] at d;have:=r.ptr d;subst this;refine⟨rfl,?_⟩;rw[<-r.v];rfl
def bH.QM{T:ar}(h:o.op=.alloc T)(p:∀ w,(zeroValue T).run P w=.ok (.agg #[.pointer af,.slice af 0 0]) w)(g:∀ w es,(zeroValue T).events P w es=es):bH P o k σ (.e (.one (.ptr σ.length 0))) (σ++[.dD (BB T E ae (.slice af 0 0) af [] 0)]):=by
 intro s ρ hh hr
 let w':=s.w.alloc (.cells #[.pointer af,.slice af 0 0] T)
 obtain⟨t,g2⟩:=hh.grow (M':=s.M) (w':=w') (by simp[w']) (λb hb=>cK s.w _ hb) (λ_ _ _=>rfl) (λb hb o v i=>by have:=hh.block i;omega) rfl rfl rfl
 have u:w'.heap.size=s.w.heap.size+1:=by simp[w']
 have j:w'.heap[s.w.heap.size]?=aa (.cells #[.pointer af,.slice af 0 0] T (0,0)):=dx s.w _;obtain⟨r,q⟩:=t.gT g2 rfl hh (B:=.dD (BB T E ae (.slice af 0 0) af [] 0)) (L:=⟨.pointer (aa ⟨s.w.heap.size,0,af⟩),[s.w.heap.size]⟩)
  ⟨λd=>if d=s.w.heap.size then aa (.cells #[.pointer af,.slice af 0 0] T (0,0)) else af,⟨s.w.heap.size,rfl,rfl,by simp,rfl,λd=>by by_cases e:d=s.w.heap.size <;> simp[e]⟩,λd n c=>by
   grind,λd=>by by_cases e:d=s.w.heap.size <;> simp[e],λd c n=>by
   simp at c;subst c;show s.M _ _=af;cases i:s.M s.w.heap.size n with
   |none=>rfl
   |some v=>have:=hh.block i;omega⟩ (λd c=>by grind)
 refine⟨.value (.pointer (aa ⟨s.w.heap.size,0,af⟩)),_,?_,⟨by simp,⟨.pointer (aa ⟨s.w.heap.size,0,af⟩),[s.w.heap.size]⟩,s.w.heap.size,?_,rfl,rfl⟩,r,q,?_⟩
 .simp[ay,h,Instr.alloc,p,Go.newVar,newRow,Value.cells,w']
 .simp[<-hh.len]
 .simp[ay,h,Instr.alloc,p,g,Go.newVar,newRow];exact .nil
end
section
variable {P:aq}{X:Cx P}{N:Nat}{z:List (Nat×TI)}{o:aw}{q:an->D}{σ:List aV}{l:Nat}{T E:ar}{d:Bool}{v1:ak}{bf:Option (Nat×Nat)}{xs:List UInt8}{k:Nat}{s:St}
def oX{P:aq}{b o:Nat}{t:ar}{k:Nat×Nat}:∀ (vs:List ak)(i:Nat)(a:Array ak)(w:az)(es:Array Event),w.heap[b]?=aa (.cells a t k)->k.2<=o+i->o+i+vs.length<=a.size->(∀ v∈vs,v.oneCell'=ab) ->
  ∀ e∈(storeCells ⟨b,o,af⟩ vs i).events P w es,e∈es∨∃ j,i<=j/\j<i+vs.length/\e=GU b (o+j)
 |[],_,_,_,_,_,_,_,_=>λe h=>.inl (by simpa[storeCells] using h)
 |v::rest,i,a,w,es,n,r,F,p=>λe h=>by
  have hi:o+i<a.size:=by grind
  have c:w.cell? ⟨b,o+i,af⟩=aa a[o+i]:=by simp[a9,n,hi]
  have f:w.frozen? ⟨b,o+i,af⟩=ae:=by
   obtain⟨lo,x⟩:=k;simp only[World.frozen?,n,ra,bM]
   grind
  have m:(store (⟨b,o+i,af⟩:Addr) v).run P w=.ok () (w.setRow b (a.setIfInBounds (o+i) v)):=by
   grind [run_store,setCell_eq_setRow]
  have g:(store (⟨b,o+i,af⟩:Addr) v).events P w es=es.push (GU b (o+i)):=by
   rw[events_store P w es _ v _ (p v (by simp)),c]
   simp only[f,jE,cd];rfl
  simp only[storeCells,aO,dj,m,g,aU] at h;rcases oX rest (i+1) (a.setIfInBounds (o+i) v) _ _ (setRow_heap _ _ _ _ _ _ n) (by omega) (by grind) (λu C=>p u (by grind)) e h with B|⟨j,y,A,rfl⟩
  .grind
  grind
def vr.at{L:Loc}{b g cap:Nat}{ch:Nat->Option Obj}(r:vr P σ s l T E d v1 (aa (g,cap)) xs k L b ch) :
  g≠b/\xs.length<=cap/\0<cap/\cap<=9223372036854775807/\k<=xs.length/\(∃ a,(ql xs++a).length=cap/\ch g=aa (.cells (ql xs++a).toArray E (0,k)))/\(∀ c,(ch c).isSome=ab↔c=b∨c=g)/\g∈L.bs:=by
 obtain⟨e,f,_,_,a1,a2,a3,a4,a5,a6,h⟩:=r.bb;have:e=b:=by rw[r.v] at f;grind
 subst this;obtain⟨a,a6,i⟩:=a6;exact⟨a1,a2,a3,a4,a5,⟨a,a6,i⟩,h,(r.bs g).2 (by grind)⟩
def Jk{L:Loc}(h:s.β[l]?=aa L):s.β.set l L=s.β:=by
 apply iM
 grind
def vr.ld{L:Loc}{b g cap:Nat}{ch:Nat->Option Obj}(hh:aJ σ s)(hl:σ[l]?=aa (.dD (BB T E d v1 (aa (g,cap)) xs k)))(r:vr P σ s l T E d v1 (aa (g,cap)) xs k L b ch){xs':List UInt8}{fz':Nat}{zs':List ak}{w':az}
  (f:(ql xs'++zs').length=cap) (t:xs'.length<=cap) (j:fz'<=xs'.length) (y:w'.heap.size=s.w.heap.size) (h:∀ a,a≠g->w'.heap[a]?=s.w.heap[a]?) (F:w'.heap[g]?=aa (.cells (ql xs'++zs').toArray E (0,fz'))) (m:w'.os=s.w.os) (n:w'.tape=s.w.tape) (p:w'.output=s.w.output) :
  aJ (σ.set l (.dD (BB T E d v1 (aa (g,cap)) xs' fz'))) { s with w:=w' }/\Step σ s (σ.set l (.dD (BB T E d v1 (aa (g,cap)) xs' fz'))) { s with w:=w' }:=by
 obtain⟨a1,a2,a3,a4,a5,⟨B,a6,G⟩,C,i⟩:=r.at;obtain⟨x,u⟩:=hh.ld (l:=l) (H':=BB T E d v1 (aa (g,cap)) xs' fz') (L':=L) (w':=w') hl r.β rfl (by omega)
  (λa c hn=>h a (by grind)) (λa c=>.inl c)
  ⟨λa=>if a=g then aa (.cells (ql xs'++zs').toArray E (0,fz')) else ch a,⟨b,r.v,r.cell,(show (if b=g then _ else ch b)=_ from (aY λe=>a1 e.symm).trans r.ch),a1,t,a3,a4,j,⟨zs',f,by simp⟩,λa=>by
   grind⟩,λa A c=>by
   by_cases e:a=g
   .grind
   .simp only[e,cd] at c;rw[h a e];exact r.heap _ _ c,λa=>by
   rw[r.bs a]
   grind⟩ m n p
 rw[Jk r.β] at x u
 grind
def bH.Nt{t O:ar}{x y:an}(Z:o.op=.call { callee:=.builtin .append,args:=#[x,y],argTypes:=#[t,O] }){R:TypeInfo}(ht:P.underlying t=aa (.slice E))(F:P.underlying O=aa .string)(p:P.info? E=aa R)(I:R.size=1)
  {g cap n:Nat} (hl:σ[l]?=aa (.dD (BB T E d v1 (aa (g,cap)) xs k))) (hx:q x=.e (.one (.v (oV (aa (g,cap)) n)))) (hn:xs.length=n) {str:List UInt8} (hy:q y=.e (.one (.c (.str str)))) (WH:n+str.length<=cap) :
  bH P o q σ (.e (.one (.v (oV (aa (g,cap)) (n+str.length))))) (σ.set l (.dD (BB T E d v1 (aa (g,cap)) (xs++str) k))):=by
 intro s ρ hh hr;subst hn;obtain⟨L,b,ch,r⟩:=BB.row (P:=P) hh hl;obtain⟨a1,a2,a3,a4,a5,⟨a,a6,a7⟩,a8,A⟩:=r.at;have J:=hr x;rw[hx] at J;have J:=Rd.fZ J;have G:=hr y;rw[hy] at G;have G:=fy G;generalize K:ρ y=vy at G;cases G with
 |@str sb _ Y abq =>
 have C:sb.size=str.length:=by rw[<-Y,jg];rfl
 have Q:=r.heap _ _ a7;have hlen:(ql xs++a).toArray.size=cap:=by grind
 have m:=Lib.run_append_room_stringF (P:=P) s.w t O o.type E R ht F p I g xs.length cap _ _ Q a5 sb (by omega) (by grind)
 have B:((ql xs++a).toArray.toList.take xs.length++Lib.strCells sb++(ql xs++a).toArray.toList.drop (xs.length+sb.size))=ql (xs++str)++a.drop str.length:=by
  have e1:(ql xs++a).take xs.length=ql xs:=by grind [u6]
  have e2:(ql xs++a).drop (xs.length+sb.size)=a.drop str.length:=by
   rw[List.drop_append,u6,List.drop_eq_nil_of_le (by grind),C]
   simp
  have e3:Lib.strCells sb=ql str:=by simp[Lib.strCells,ql,Y]
  rw[List.toList_toArray,e1,e2,e3,Nq]
 rw[B,C] at m;have hlz:a.length=cap-xs.length:=by grind [u6]
 have f:(ql (xs++str)++a.drop str.length).length=cap:=by grind [u6]
 have H:(s.w.setRow g (ql (xs++str)++a.drop str.length).toArray).heap[g]?=aa (.cells (ql (xs++str)++a.drop str.length).toArray E (0,k)):=setRow_heap s.w g _ _ E _ Q;obtain⟨t1,V⟩:=r.ld (fz':=k) (w':=s.w.setRow g (ql (xs++str)++a.drop str.length).toArray) hh hl f (by grind) (by grind) (setRow_size _ _ _) (λb' W=>setRow_other s.w g b' _ W) H rfl rfl rfl
 refine⟨.value (.slice (aa ⟨g,0,af⟩) (xs.length+str.length) cap),_,?_,Rd.val rfl,t1,V,?_⟩
 .rw[c6 Z,J,K];simp only[bY,cY];have u:(Builtin.append_ #[t,O] o.type #[oV (aa (g,cap)) xs.length,.string sb]).run P s.w=_:=m;rw[u];rfl
 .rw[c6 Z,J,K];refine ey λe he=>?_
  have hf:=Lib.run_firstCells_string (P:=P) s.w 1 sb;have U:=run_storeCells_atF P g xs.length E (0,k) (Lib.strCells sb) 0 _ s.w Q (by grind) (by grind) (Lib.strCells_oneCell sb)
  have i:xs.length+sb.size<=cap:=by omega
  have S:(Builtin.firstCells 1 sb.size (.string sb)).events P s.w #[]=#[]:=rfl;simp[oV,Builtin.append_,run_underlying ht,run_underlying F,sizeOf,typeInfo,p,I,Builtin.lenOf,i,hf,S,dj,U] at he;rcases oX (Lib.strCells sb) 0 _ s.w _ Q (by grind) (by grind) (Lib.strCells_oneCell sb) e he with h|⟨j,h1,h2,rfl⟩
  .grind
  .exact mn (bU r.β) A (r.M _ A _)
def bH.Jl{t u:ar}{x y:an}(r:o.op=.call { callee:=.builtin .append,args:=#[x,y],argTypes:=#[t,u] }){m:TypeInfo}(A:P.underlying t=aa (.slice E))(g:P.underlying u=aa .string)(b:P.info? E=aa m)
  (C:q x=.e (.one (.v (oV af 0)))) (B:q y=.e (.one (.c (.str [])))):bH P o q σ (.e (.one (.v (oV af 0)))) σ:=by
 refine .quiet λs ρ hh hr=>?_
 have f:=hr x;rw[C] at f;have f:=Rd.fZ f;have h:=hr y;rw[B] at h;have h:=fy h;generalize i:ρ y=vy at h;cases h with
 |@str sb _ F p =>
 have a:sb.size=0:=by
  have:sb.data.toList.length=0:=by grind
  rw[jg] at this;exact this
 have j:=Lib.run_firstCells_string (P:=P) s.w m.size sb;rw[a] at j;have n:(Builtin.firstCells m.size 0 (.string sb)).events P s.w #[]=#[]:=rfl;refine⟨.slice af 0 0,?_,Rd.val rfl,?_⟩
 .rw[c6 r,f,i];simp[oV,Builtin.append_,run_underlying A,run_underlying g,sizeOf,typeInfo,b,Builtin.lenOf,a,j]
 .rw[c6 r,f,i];simp[oV,Builtin.append_,run_underlying A,run_underlying g,sizeOf,typeInfo,b,Builtin.lenOf,a,j,n]
def TJ{f:aW}{fn:Func}{ps:Array ar}{t:ar}(ht:P.underlying t=aa (.slice E))(hf:P.funcs[f]?=aa fn)(C:(fn.name== "runtime.NumGoroutine")=ae)
  (hb:fn.body.isNone=ab) (O:Extern.findNext fn=af) (F:Extern.find fn=aa (Extern.BytealgMakeNoZero.makeNoZero ps #[t])) {I x:an} {S:Array ar} (ho:o.op=.call { callee:=.value I,args:=#[x],argTypes:=S })
  (V:q I=.e (.one (.c (.fn (.func f) [] [])))) {n:Nat} (hx:q x=.e (.one (.c (.int .i64 n)))) (h0:0<n) (abr:n<=140737488355328) (hl:σ[l]?=aa (.dD (BB T E d v1 af xs k))) :
  ∀ s ρ,aJ σ s->(∀ y,dc σ s (ρ y) (q y))->∃ (j:{ p:Nat×Nat // n<=p.2 }) (s':St) (v:ak),(ay ρ o).run P s.w=.ok (.value v) s'.w/\dc (σ.set l (.dD (BB T E d v1 (aa j.1) [] 0))) s' v (.e (.one (.v (oV (aa j.1) n)))) /\
   aJ (σ.set l (.dD (BB T E d v1 (aa j.1) [] 0))) s'/\Step σ s (σ.set l (.dD (BB T E d v1 (aa j.1) [] 0))) s'/\eZ s ((ay ρ o).events P s.w #[]):=by
 intro s ρ hh hr;obtain⟨L,b,ch,r⟩:=BB.row (P:=P) hh hl;have G:ρ I=.func (.func f) #[] #[]:=by
  have g:=hr I;rw[V] at g;have g:=fy g;generalize ρ I=v at g;cases g with
  |fn fs cs a b f1 f2 c1 c2 d1 d2 =>
   grind
 have M:ρ x=.int .i64 n:=by
  have g:=hr x;rw[hx] at g;have g:=fy g;generalize ρ x=v at g;cases g;rfl
 obtain⟨cs,g,Z,U⟩:=Lib.run_makeNoZero (P:=P) s.w ps t E ht n (by omega)
 have U:=U (by simp only[maxLen];omega)
 have B:(callFunc f #[.int .i64 n]).run P s.w=.ok (.value (.slice (aa ⟨s.w.heap.size,0,af⟩) n cs.size)) (s.w.drew.drew.alloc (.cells cs E)):=by
  rw[run_callFunc_extern hf C hb O F,g];rfl
 let w':az:=s.w.drew.drew.alloc (.cells cs E)
 have Jj:w'.heap[s.w.heap.size]?=aa (.cells cs E (0,0)):=dx s.w.drew.drew _;have Ds:w'.heap.size=s.w.heap.size+1:=by show (s.w.drew.drew.heap.push _).size=_;simp
 obtain⟨A,q1,q2,q3,q4⟩:=r.bb;have Y:A=b:=by rw[r.v] at q1;grind
 subst Y;have J:A<s.w.heap.size:=hh.lt L (bU r.β) A r.mem;have H:s.w.heap.size≠A:=by omega
 obtain⟨t1,t2⟩:=hh.ld (l:=l) (H':=BB T E d v1 (aa (s.w.heap.size,cs.size)) [] 0) (L':=⟨L.v,[A,s.w.heap.size]⟩) (w':=w') hl r.β rfl (by omega)
  (λu i O=>cK s.w.drew.drew _ i) (λu i=>by
   simp at i;rcases i with rfl|rfl
   .exact .inl r.mem
   grind)
  ⟨λu=>if u=A then aa (.cells #[if d then L.v else .pointer af,v1] T (0,0)) else if u=s.w.heap.size then aa (.cells cs E (0,0)) else af,⟨A,r.v,r.cell,by simp,H,by simp,by omega,by simp only[maxLen] at U;omega,by simp,⟨cs.toList,by simp[ql],by simp[H,ql]⟩,λu=>by
   grind⟩,λu o' i=>by
   by_cases e:u=A
   .subst e;simp only[cu] at i;have:w'.heap[u]?=s.w.heap[u]?:=cK s.w.drew.drew _ J;rw[this,<-i];exact r.heap _ _ r.ch
   grind,λu=>by
   grind⟩ rfl rfl rfl
 refine⟨⟨(s.w.heap.size,cs.size),Z⟩,_,_,?_,Rd.val rfl,t1,t2,?_⟩
 .simp[ay,ho,resolve,Deferred.ofValue,invoke,G,M,B,w',oV]
 .intro ev Q;simp only[ay,ho,resolve,Deferred.ofValue,invoke,G,M] at Q;have K:ev∈(callFunc f #[.int .i64 n]).events P s.w #[]:=by
   grind
  have R:fn.name≠ "runtime.NumGoroutine":=by grind
  have W:fn.body=af:=by simpa using hb
  have key:∀ es:Array Event,∀ e∈(Extern.BytealgMakeNoZero.makeNoZero ps #[t] #[.int .i64 n]).events P s.w es,e∈es∨∃ m,e=⟨.mark m,ae,ab⟩/\Go.Conc.Neutral m:=by
   intro es e F
   change e∈Sem.events P (underlying _ >>= _) _ _ at F
   have g:¬(n:Int)<0:=by omega
   have Z:¬(281474976710656:Int)<(n:Int):=by omega
   have VV:e∈(askRoom (grownCap s.w n 0 E)).events P s.w.drew es:=by
    simpa[run_underlying ht,g,Z,Question.forced,newRow,grownCap] using F
   grind [Go.Conc.events_askRoom]
  have:ev∈(Extern.BytealgMakeNoZero.makeNoZero ps #[t] #[.int .i64 n]).events P s.w ((#[]:Array Event).push ⟨.mark (.extern f),ae,ab⟩):=by
   have e:callFunc f #[.int .i64 n]=callFunc f #[.int .i64 n]:=rfl;simpa[callFunc,hf,R,W,O,F,g] using K
  rcases key _ _ this with h|⟨m,rfl,hm⟩
  .simp at h;subst h;exact .inr ⟨f,rfl⟩
  .exact .inl hm
def TK{C H:ar}{x y:an}(ho:o.op=.call { callee:=.builtin .unsafeString,args:=#[x,y],argTypes:=#[C,H] })(hp:P.underlying C=aa (.pointer E))(J:P.cellsOf E=1)
  {g cap:Nat} (hl:σ[l]?=aa (.dD (BB T E d v1 (aa (g,cap)) xs k))) (hx:q x=.e (.one (.v (.pointer (aa ⟨g,0,af⟩))))) (hy:q y=.e (.one (.c (.int .i64 xs.length)))) :
  bH P o q σ (.e (.one (.c (.str xs)))) (σ.set l (.dD (BB T E d v1 (aa (g,cap)) xs xs.length))):=by
 intro s ρ hh hr;obtain⟨L,b,ch,r⟩:=BB.row (P:=P) hh hl;obtain⟨a1,Z,a3,a4,a5,⟨Q,a6,a7⟩,a8,W⟩:=r.at;have B:=hr x;rw[hx] at B;have B:=Rd.fZ B;have t:ρ y=.int .i64 xs.length:=by
  have M:=hr y;rw[hy] at M;have M:=fy M;generalize ρ y=v at M;cases M;rfl
 have hg:=r.heap _ _ a7;have p:ay ρ o=(do pure (.value (<-Builtin.unsafeString_ #[C,H] o.type #[ρ x,ρ y]))):=by simp[ay,ho,resolve,invoke,builtin]
 have hlen:(ql xs++Q).toArray.size=cap:=by grind
 by_cases h0:xs=[]
 .subst h0;have n:=Lib.run_unsafeString_none (P:=P) s.w C H o.type (aa ⟨g,0,af⟩);obtain⟨t1,t2⟩:=r.ld (xs':=[]) (fz':=0) (zs':=Q) (w':=s.w) hh hl a6 Z (by simp) rfl (λ_ _=>rfl) (by grind) rfl rfl rfl
  refine⟨.value (.string .empty),_,?_,Rd.str rfl (by simp),t1,t2,?_⟩
  .rw[p,B,t];simp only[bY,cY];have:(Builtin.unsafeString_ #[C,H] o.type #[.pointer (aa ⟨g,0,af⟩),.int .i64 ([]:List UInt8).length]).run P s.w=_:=n;rw[this];rfl
  .rw[p,B,t];refine ey ?_
   change eZ s (Sem.events P (asInt (.int .i64 0) >>= _) _ _)
   simp[asInt,asIntOf,IntKind.max];exact .nil
 .have i:∀ j x,xs[j]?=aa x->s.w.cell? ((⟨g,0,af⟩:Addr).add j)=aa (.int .u8 x.toNat):=by
   intro j x O;rw[dj];simp only[a9,hg,bt];have sV:j<xs.length:=(cr.1 O).1;have:(ql xs)[j]?=aa (.int .u8 x.toNat):=by simp[ql,O]
   grind
  have u:s.w.shape? g=aa (E,cap):=by simp only[World.shape?,hg];grind
  have n:=Lib.run_unsafeString_row (P:=P) s.w C H o.type E hp J g cap u xs h0 Z (by omega) i
  have f:xs.length≠0:=by grind
  have R:(s.w.freeze ⟨g,0,af⟩ xs.length).heap[g]?=aa (.cells (ql xs++Q).toArray E (0,xs.length)):=by
   simp only[World.freeze,f,cd,zr,cu,hg,j9]
   grind
  obtain⟨t1,t2⟩:=r.ld (xs':=xs) (fz':=xs.length) (zs':=Q) (w':=s.w.freeze ⟨g,0,af⟩ xs.length) hh hl a6 Z (bg _) (by simp[World.freeze,f]) (λb' oO=>by
   simp only[World.freeze,f,cd,zr]
   grind) R (by simp[World.freeze,f]) (by simp[World.freeze,f]) (by simp[World.freeze,f])
  refine⟨.value (.string ⟨xs.toArray⟩),_,?_,Rd.str (by simp) (by omega),t1,t2,?_⟩
  .rw[p,B,t];simp only[bY,cY,n];rfl
  .rw[p,B,t];refine ey λe A=>?_
   have I:¬(xs.length:Int)<0:=by omega
   have S:¬(9223372036854775807:Int)<(xs.length:Int):=by omega
   have m:=Lib.liesAt_bytes (P:=P) J (cap / P.cellsOf E) xs.length (by grind)
   have F:IntKind.i64.max=9223372036854775807:=rfl;have U:=Lib.run_loadBytes (P:=P) s.w xs ⟨g,0,af⟩ .empty i;have Y:∀ (G:List UInt8) (a:Nat) (acc:ByteArray) (es:Array Event),(∀ j x,G[j]?=aa x->s.w.cell? ⟨g,a+j,af⟩=aa (.int .u8 x.toNat))->∀ e∈(loadBytes ⟨g,a,af⟩ acc G.length).events P s.w es,e∈es∨∃ j,e=zw g j:=by
    intro G
    induction G with
    |nil=>intro a acc es _ e A;exact .inl (by simpa[loadBytes] using A)
    |cons y G ih =>
     intro a acc es J e A;have K:=J 0 y rfl;simp only[iO] at K;have hl0:(load ⟨g,a,af⟩).run P s.w=.ok (.int .u8 y.toNat) s.w:=by grind [run_load]
     simp only[fa,loadBytes,aO,hl0,aU,zz K,dj] at A;rcases ih (a+1) _ _ (λj x O=>by have:=J (j+1) x (by grind);grind) e A with h|h
     .grind
     grind
   have hva:(variablesAt ⟨g,0,af⟩ E xs.length).run P s.w=.ok ab s.w:=by simp[variablesAt,u,m]
   have V:∀ es,(variablesAt ⟨g,0,af⟩ E xs.length).events P s.w es=es:=λes=>by simp[variablesAt,u,m]
   have QN:e∈(loadBytes ⟨g,0,af⟩ .empty xs.length).events P s.w #[]:=by
    change e∈Sem.events P (asInt (.int .i64 (xs.length:Int)) >>= _) _ _ at A
    simpa[asInt,asIntOf,F,I,S,f,elemOf,run_underlying hp,hva,V,U] using A
   rcases Y xs 0 .empty #[] (λj x O=>by grind [dj]) e QN with h|⟨j,rfl⟩
   .grind
   .exact rE (bU r.β) W
end
section
variable {P:aq}{X:Cx P}{N:Nat}{q:List (Nat×TI)}{o:aw}{g:an->D}{σ:List aV}{l:Nat}{T E:ar}{i:Bool}{v1:ak}{bf:Option (Nat×Nat)}{xs:List UInt8}{p:Nat}{s:St}
def bH.exact{x:an}{v r:ak}{d:D}(b:g x=.e (.one (.v v)))(h:∀ (ρ:an->ak) w,ρ x=v->(ay ρ o).run P w=.ok (.value r) w/\(ay ρ o).events P w #[]=#[])(c:∀ σ s,dc σ s r d):bH P o g σ d σ:=by
 refine .quiet λs ρ hh hr=>?_
 have a:=hr x;rw[b] at a;have a:=Rd.fZ a;obtain⟨h1,h2⟩:=h ρ s.w a
 grind
def bH.uy{x:an}{b:Array ar}{t E:ar}(h:o.op=.call { callee:=.builtin .len,args:=#[x],argTypes:=b })(f:b[0]?=aa t)(k:P.underlying t=aa (.slice E)){a:Option Addr}{n c:Nat}(j:g x=.e (.one (.v (.slice a n c))))(hn:n<=9223372036854775807):bH P o g σ (.e (.one (.c (.int .i64 n)))) σ :=
 .exact j (λρ w d=>by constructor <;> simp[ay,h,resolve,invoke,builtin,Builtin.len_,d,run_underlying k,goInt,f]) (λ_ _=>Rd.int (by simp only[bx];omega))
def bH.Nu{x:an}{b:Array ar}{t E:ar}(h:o.op=.call { callee:=.builtin .cap,args:=#[x],argTypes:=b })(f:b[0]?=aa t)(k:P.underlying t=aa (.slice E)){a:Option Addr}{n c:Nat}(j:g x=.e (.one (.v (.slice a n c))))(hn:c<=9223372036854775807):bH P o g σ (.e (.one (.c (.int .i64 c)))) σ :=
 .exact j (λρ w d=>by constructor <;> simp[ay,h,resolve,invoke,builtin,Builtin.cap_,d,run_underlying k,goInt,f]) (λ_ _=>Rd.int (by simp only[bx];omega))
def bH.TM{x:an}{a:Array ar}(h:o.op=.call { callee:=.builtin .unsafeSliceData,args:=#[x],argTypes:=a }){n c:Nat}(d:g x=.e (.one (.v (.slice af n c)))):bH P o g σ (.e (.one (.v (.pointer af)))) σ :=
 .exact d (λρ w b=>by
  have e:Builtin.unsafeSliceData_ a o.type #[.slice af n c]=pure (.pointer af):=rfl
  constructor <;> simp[ay,h,resolve,invoke,builtin,b,e]) (λ_ _=>Rd.val rfl)
def bH.TN{x:an}{b:Array ar}(h:o.op=.call { callee:=.builtin .unsafeSliceData,args:=#[x],argTypes:=b }){a:Addr}{n c:Nat}(j:g x=.e (.one (.v (.slice (aa a) n c))))(f:c≠0):bH P o g σ (.e (.one (.v (.pointer (aa a))))) σ :=
 .exact j (λρ w d=>by
  obtain⟨m,rfl⟩:=Nat.exists_eq_succ_of_ne_zero f;have e:Builtin.unsafeSliceData_ b o.type #[.slice (aa a) n (m+1)]=pure (.pointer (aa a)):=rfl
  constructor <;> simp[ay,h,resolve,invoke,builtin,d,e]) (λ_ _=>Rd.val rfl)
def bH.TO{t E:ar}{x y:an}(h:o.op=.slice t x af (aa y) af)(u:P.underlying t=aa (.slice E)){B:TypeInfo}(hi:P.info? E=aa B){a:Addr}{n c k:Nat}(F:g x=.e (.one (.v (.slice (aa a) n c))))(A:g y=.e (.one (.c (.int .i64 k))))(C:k<=n)(hn:n<=c)(r:c≠0)(z:a.add 0=a):bH P o g σ (.e (.one (.v (.slice (aa a) k c)))) σ:=by
 refine .quiet λs ρ hh hr=>?_
 have d:=hr x;rw[F] at d;have d:=Rd.fZ d;have b:ρ y=.int .i64 k:=by
  have h1:=hr y;rw[A] at h1;have h1:=fy h1;generalize ρ y=v at h1;cases h1;rfl
 have hl:((af:Option ak)=af/\(af:Option Int)=af)∨∃ k j,(af:Option ak)=aa (.int k j)/\(af:Option Int)=aa j:=.inl ⟨rfl,rfl⟩;have hh:(aa (Value.int .i64 k)=af/\(aa (k:Int))=af)∨∃ k' j,aa (Value.int .i64 k)=aa (.int k' j)/\(aa (k:Int))=aa j:=.inr ⟨_,_,rfl,rfl⟩;have m:ag (iQ n af (aa (k:Int))):=by simp[ag,iQ,C]
 obtain⟨hb,_,_⟩:=nT (P:=P) (isS:=ab) hn hl hh m s.w;have f:=pR (P:=P) (isS:=ab) hn hl hh m s.w;simp only[cv,bA] at hb;refine⟨.slice (aa a) k c,?_,Rd.val rfl,?_⟩
 .simp[ay,h,d,b,Instr.sliceAt,run_underlying u,Instr.slice,hb,sizeOf,typeInfo,hi,r,z]
 .simp[ay,h,d,b,Instr.sliceAt,run_underlying u,Instr.slice,hb,f,sizeOf,typeInfo,hi,r]
def bH.copyV{t E k:ar}{x y:an}(h:o.op=.call { callee:=.builtin .copy,args:=#[x,y],argTypes:=#[t,k] })(n:P.underlying t=aa (.slice E)){j:TypeInfo}(hi:P.info? E=aa j){a:Addr}{c:Nat}(m:g x=.e (.one (.v (.slice (aa a) 0 c))))(f:g y=.e (.one (.v (.slice af 0 0)))):bH P o g σ (.e (.one (.c (.int .i64 0)))) σ:=by
 refine .quiet λs ρ hh hr=>?_
 have b:=hr x;rw[m] at b;have b:=Rd.fZ b;have d:=hr y;rw[f] at d;have d:=Rd.fZ d;refine⟨.int .i64 0,?_,Rd.int (by simp[bx]),?_⟩ <;>
 simp[ay,h,resolve,invoke,builtin,Builtin.copy_,b,d,run_underlying n,sizeOf,typeInfo,hi,Builtin.lenOf,Builtin.firstCells,storeCells,goInt]
def bH.TP{j h:ar}{x y:an}(m:o.op=.call { callee:=.builtin .unsafeString,args:=#[x,y],argTypes:=#[j,h] })(n:g x=.e (.one (.v (.pointer af))))(k:g y=.e (.one (.c (.int .i64 ((0:Nat):Int))))):bH P o g σ (.e (.one (.c (.str [])))) σ:=by
 refine .nS λs ρ hh hr=>?_
 have d:=hr x;rw[n] at d;have d:=Rd.fZ d;have b:ρ y=.int .i64 0:=by
  have h1:=hr y;rw[k] at h1;have h1:=fy h1;generalize ρ y=v at h1;cases h1;rfl
 have f:ay ρ o=(do pure (.value (<-Builtin.unsafeString_ #[j,h] o.type #[ρ x,ρ y]))):=by simp[ay,m,resolve,invoke,builtin]
 have a:=Lib.run_unsafeString_none (P:=P) s.w j h o.type af;refine⟨.string .empty,?_,Rd.str rfl (by simp),?_⟩
 .rw[f,d,b];simp only[bY,cY,a];rfl
 .rw[f,d,b];refine ey ?_
  change eZ s (Sem.events P (asInt (.int .i64 0) >>= _) _ _)
  simp[asInt,asIntOf,IntKind.max];exact .nil
def bH.bTo(m:σ[l]?=aa (.dD (BB T E i v1 bf xs p))){d dst:ar}{x:an}(h:o.op=.convert d dst x)(u:P.underlying d=aa (.pointer T))(n:P.underlying dst=aa .unsafePointer){j:TypeInfo}(hj:P.info? T=aa j)(f:j.size≠0)(v:g x=.e (.one (.ptr l 0))):bH P o g σ (.e (.one (.ptr l 0))) σ:=by
 refine .quiet λs ρ hh hr=>?_
 obtain⟨L,b,ch,r⟩:=BB.row (P:=P) hh m;have c:=hr x;rw[v] at c;have t:=r.ptr c;have k:s.w.shape? b=aa (T,2):=by simp[World.shape?,r.heap _ _ r.ch]
 have a:=Lib.run_to_unsafe (P:=P) s.w ⟨b,0,af⟩ u n hj f k (by simp)
 refine⟨ρ x,by simp[ay,h,t,a],c,?_⟩
 have:(convert d dst (.pointer (aa ⟨b,0,af⟩))).events P s.w #[]=#[]:=by
  simp[convert,run_underlying u,run_underlying n,Conv.unsafePointer,Conv.seenAt,viewAt,cellsIn,k,sizeOf,typeInfo,hj,f]
 simp[ay,h,t,a,this]
def bH.TQ(n:σ[l]?=aa (.dD (BB T E i v1 bf xs p))){f dst:ar}{x:an}(h:o.op=.convert f dst x)(v:P.underlying f=aa .unsafePointer)(t:P.underlying dst=aa (.pointer T)){j:TypeInfo}(hj:P.info? T=aa j)(m:j.size≠0)(a:liesAt P P.depth T (2 / P.cellsOf T) 0 T 1=ab)(y:g x=.e (.one (.ptr l 0))):bH P o g σ (.e (.one (.ptr l 0))) σ:=by
 refine .quiet λs ρ hh hr=>?_
 obtain⟨L,b,ch,r⟩:=BB.row (P:=P) hh n;have d:=hr x;rw[y] at d;have u:=r.ptr d;have k:s.w.shape? b=aa (T,2):=by simp[World.shape?,r.heap _ _ r.ch]
 have c:=Lib.run_from_unsafe (P:=P) s.w ⟨b,0,af⟩ v t hj k a;refine⟨ρ x,by simp[ay,h,u,c],d,?_⟩
 have:(convert f dst (.pointer (aa ⟨b,0,af⟩))).events P s.w #[]=#[]:=by
  simp[convert,run_underlying v,run_underlying t,Conv.unsafePointer,Conv.seenAt,viewAt,variablesAt,k,sizeOf,typeInfo,hj,m,a]
 simp[ay,h,u,c,this]
def bH.TR{f:aW}{fn:Func}(y:P.funcs[f]?=aa fn)(j:(fn.name== "runtime.NumGoroutine")=ae)(hb:fn.body.isNone=ab)(hn:Extern.findNext fn=af)(A:Extern.find fn=aa Extern.AbiNoEscape.same)
  {m x:an} {r:Array ar} (z:o.op=.call { callee:=.value m,args:=#[x],argTypes:=r }) (t:g m=.e (.one (.c (.fn (.func f) [] [])))) {d:D} (F:g x=d):bH P o g σ d σ:=by
 refine .nS λs ρ hh hr=>?_
 have n:ρ m=.func (.func f) #[] #[]:=by
  have h1:=hr m;rw[t] at h1;have h1:=fy h1;generalize ρ m=v at h1;cases h1 with
  |fn fs cs a b C G c1 c2 d1 d2 =>
   grind
 have k:(callFunc f #[ρ x]).run P s.w=.ok (.value (ρ x)) s.w:=by
  rw[run_callFunc_extern y j hb hn A];rfl
 have u:=lT (P:=P) y j hb hn A #[ρ x] (λ_ _=>rfl) s.w #[]
 refine⟨ρ x,?_,by grind,λB h=>?_⟩
 .simp[ay,z,resolve,Deferred.ofValue,invoke,n,k]
 .simp[ay,z,resolve,Deferred.ofValue,invoke,n,u] at h;subst h;exact .inr ⟨_,rfl⟩
end
end
end Go.AM
namespace Go.AM.R1
section
open Go.Proofs
variable {X:Cx ah}
abbrev bB(a:Bool)(v1:ak)(bf:Option (Nat×Nat))(xs:Bs)(b:Nat):aV:=.dD (BB 194 5 a v1 bf xs b)
def Cc(v1:ak)(b:cZ v1=ab)(bf:Option (Nat×Nat))(xs:Bs)(a:Nat):Ev X 175 [.e (.one (.ptr 0 0))] [bB ae v1 bf xs a] (.eK []) [bB ab v1 bf xs a]:=by
 refine Ev.bQ Tryz.func175 rfl λd=>?_
 refine bk rfl av ?_;refine AK.law (bH.QK tok rfl rfl rfl rfl rfl) rfl rfl ?_;refine AK.law (Kx rfl Tryz.underlying192 rfl rfl rfl) rfl rfl ?_;refine bk rfl av ?_;refine AK.law (bH.bTo rfl rfl Tryz.underlying192 Tryz.underlying176 (bz Tryz.type194) (by simp[Tryz.t194]) rfl) rfl rfl ?_
 refine AK.law (bH.TR Tryz.func193 (by kernel_rfl) (by kernel_rfl) (by kernel_rfl) (by kernel_rfl) rfl rfl rfl) rfl rfl ?_
 refine AK.law (bH.TQ rfl rfl Tryz.underlying176 Tryz.underlying192 (bz Tryz.type194) (by simp[Tryz.t194]) (by kernel_rfl) rfl) rfl rfl ?_
 refine bk rfl av ?_;refine AK.law (bH.Ns tok rfl rfl rfl rfl rfl rfl b) rfl rfl ?_;refine bk rfl av ?_;exact b6.tj [0] rfl av rfl rfl rfl (λj c=>by
  have:j=0:=by simpa using c
  subst this;rfl)
def Cd(v1:ak)(bf:Option (Nat×Nat))(xs:Bs)(a:Nat):Ev X 175 [.e (.one (.ptr 0 0))] [bB ab v1 bf xs a] (.eK []) [bB ab v1 bf xs a]:=by
 refine Ev.bQ Tryz.func175 rfl λc=>?_
 refine bk rfl av ?_;refine AK.law (bH.Jh tok rfl rfl rfl rfl rfl) rfl rfl ?_;refine AK.law (RF rfl Tryz.underlying192 rfl rfl rfl) rfl rfl ?_;refine bk rfl av ?_;refine AK.law (bH.Jh tok rfl rfl rfl rfl rfl) rfl rfl ?_;refine bk rfl av ?_;refine AK.law (Oc rfl Tryz.underlying192 (n:=2) (by decide) (λw=>by simp[sizeOf,typeInfo,bz Tryz.type194,Tryz.t194]) (λw es=>by simp[sizeOf,typeInfo,bz Tryz.type194]) rfl rfl rfl) rfl rfl ?_
 refine bk rfl av ?_;exact b6.tj [0] rfl av rfl rfl rfl (λj b=>by
  have:j=0:=by simpa using b
  subst this;rfl)
end
end Go.AM.R1
namespace Go.AM
section
open Go.Conc (G)
def ff(i:Nat)(D:Nat->Bool):Nat->Bool:=λj=>match aG j i with|true=>ab|false=>D j
section
variable {P:aq}{X:Cx P}{N:Nat}{ops:Array aw}{φ:Fr}{σ:List aV}{g:Type}{x:g->Nat->D}{idx:Nat->Option Nat}{S:g->(Nat->Bool)->List aV}{Inv:g->(Nat->Bool)->Prop}{c:Nat}
def lu(L:Array Bool):Nat->Bool:=λi=>L.getD i ae
def Hk{L:Array Bool}{i:Nat}(hi:i<L.size):lu (L.setIfInBounds i ab)=ff i (lu L):=by
 funext j
 have h:=ez (L:=L) (i:=i) (j:=j) hi;simp only[lu,ff]
 grind [Nat.eq_of_beq_eq_true,Nat.beq_refl]
def Rv{L:Array Bool}{n c:Nat}(d:L.size=n)(h:∀ k,c<=k->¬L.getD k ae=ab):n-c<=(L.toList.filter (λb=>!b)).length:=by
 have e:(L.toList.drop c).filter (λb=>!b)=L.toList.drop c:=by
  rw[uT];intro b a;obtain⟨i,hi,rfl⟩:=dH a;have:=h (c+i) (by omega)
  simp only[me,jg] at hi;simp only[dG,fR (by omega:c+i<L.size),fJ] at this
  grind
 grind [List.drop_sublist]
theorem Names.Uv(all:List aw)(c:Nat):Names all (List.range' c (all.length-c)) (all.drop c):=by
 have key:∀ (l:List aw) (n:Nat),(∀ j o,l[j]?=aa o->all[n+j]?=aa o)->Names all (List.range' n l.length) l:=by
  intro l
  induction l with
  |nil=>intro n _;trivial
  |cons o r b =>
   intro n h;rw[fa,List.range'_succ];refine⟨by simpa using h 0 o rfl,b (n+1) λj a hj=>?_⟩
   have:=h (j+1) a (by grind)
   grind
 have:=key (all.drop c) c λj o h=>by grind
 grind
structure Uw {P:aq}(X:Cx P)(N:Nat)(ops:Array aw)(φ:Fr){g:Type}(x:g->Nat->D)(S:g->(Nat->Bool)->List aV)(Inv:g->(Nat->Bool)->Prop)(idx:Nat->Option Nat)(c:Nat):Prop where
 back:∀ i o,ops[i]?=aa o->∀ e∈o.after,c7 e=ab->e.on<i
 Jz:∀ i o d,ops[i]?=aa o->o.dst=aa d->idx d=aa i/\d<N
 xI:∀ d i,idx d=aa i->∃ o,ops[i]?=aa o/\o.dst=aa d
 one:∀ κ (D:Nat->Bool) i o,Inv κ D->ops[i]?=aa o->i<c->D i=ae->(∀ e∈o.after,c7 e=ab->D e.on=ab)->(∀ j o',ops[j]?=aa o'->D j=ab->∀ e∈o'.after,c7 e=ab->D e.on=ab)->rZ X N ops.toList o (mZ ops.toList φ (x κ) i) (S κ D) (λq:{ κ':g // (∀ j,D j=ab->x κ' j=x κ j)/\Inv κ' (ff i D) }=>x q.1 i) (λq=>S q.1 (ff i D))
 Th:∀ (x:Nat->D) i o,ops[i]?=aa o->∀ t σ s v,dc σ s v (match idx t with|some j=>(if ∃ e∈o.after,c7 e=ab/\e.on=j then x j else .any)|none=>look φ t)->dc σ s v (look (mZ ops.toList φ x i) t)
 fin:∀ (x:Nat->D) t σ s v,dc σ s v (match idx t with|some j=>x j|none=>look φ t)->dc σ s v (look (M8 ops.toList φ x) t)
 Tn:∀ i o,ops[i]?=aa o->c<=i->∀ L:Array Bool,(∀ i o,ops[i]?=aa o->L.getD i ae=ab->∀ e∈o.after,c7 e=ab->L.getD e.on ae=ab)->(∀ e∈o.after,c7 e=ab->L.getD e.on ae=ab)->∀ k,k<i->L.getD k ae=ab
 cc:c<=ops.size
 Rw:∀ κ (D:Nat->Bool),Inv κ D->(∀ i,i<c->D i=ab)->∀ i,c<=i->i<ops.size->x κ i=.any
def F6{L:Array Bool}{i n:Nat}(a:L.size=n)(hi:i<n):L.getD i ab=ae↔¬L.getD i ae=ab:=by
 grind
def Uw.seq(h:Uw X N ops φ x S Inv idx c):∀ (a d:Nat)(L:Array Bool)(t:Nat),L.size=ops.size->c<=d->d<=ops.size->ops.size-d<=a->(∀ k,k<ops.size->(L.getD k ae=ab↔k<d)) ->
  Region.linearise.go .any ops a t L []=List.range' d (ops.size-d):=by
 intro a
 induction a with
 |zero =>
  grind [vM]
 |succ a y =>
  intro d L t u C z E v
  by_cases B:d=ops.size
  .grind [B7]
  .rw[oZ];have l:d<ops.size:=by omega
   have q:∀ i o,ops[i]?=aa o->L.getD i ae=ab->∀ e∈o.after,c7 e=ab->L.getD e.on ae=ab:=λi o m hi e j hb=>by
    have b:=(ia.1 m).1;have h1:=(v i b).1 hi;have h2:=h.back i o m e j hb
    grind
   have s:∀ i,i∈bc .any ops L->i=d:=λi hi=>by
    obtain⟨o,m,hl,w⟩:=mem_ready.1 hi;have b:=(ia.1 m).1;have hn:¬i<d:=λn=>(F6 u b).1 hl ((v i b).2 n)
    rcases cJ d i with h1|h1
    .have:=h.Tn i o m (by omega) L q w d h1
     grind
    .omega
   have r:d∈bc .any ops L:=mem_ready.2 ⟨ops[d],fR l,(F6 u l).2 (λhh=>by grind),λe j hb=>by
    have:=h.back d _ (fR l) e j hb
    grind⟩
   have p:0<(bc .any ops L).length:=List.length_pos_of_mem r;have f:=jG t p;rw[br f];have e1:=s _ (nG f);simp only[e1];rw[y (d+1) _ _ (by grind) (by omega) (by omega) (by omega) (λk A=>by
    grind [ez])]
   rw[show ops.size-d=(ops.size-(d+1))+1 by omega,List.range'_succ]
def Uw.arr(h:Uw X N ops φ x S Inv idx c){R:au->St->Prop}{b:aR}{kk:List Item}{cs:List aR}(hb:b.kind≠.early){σ0:List aV}{s0:St}
  (hQ:∀ l D s a,Inv l D->(∀ i,i<c->D i=ab)->cx N (S l D) s (M8 ops.toList φ (x l)) a->aJ (S l D) s->cD σ0 s0 (S l D) s->ft X R (G (b.aT a (.inRegion ops (List.range' c (ops.size-c))::kk)) cs) s) :
  ∀ (f:Nat) (l:g) (L:Array Bool),Inv l (lu L)->L.size=ops.size->(L.toList.filter (λb=>!b)).length<=f->(∀ k,c<=k->¬L.getD k ae=ab) ->
   (∀ i o,ops[i]?=aa o->L.getD i ae=ab->∀ e∈o.after,c7 e=ab->L.getD e.on ae=ab) ->
   ∀ (s:St) (a:Act),I0 N (S l (lu L)) s (gb φ (x l) idx L) a->aJ (S l (lu L)) s->cD σ0 s0 (S l (lu L)) s ->
   ∀ t,ft X R (G (b.aT a (.inRegion ops (Region.linearise.go .any ops f t L [])::kk)) cs) s:=by
 have fin:∀ (l:g) (L:Array Bool) (s:St) (a:Act) (f t:Nat),Inv l (lu L)->L.size=ops.size->(L.toList.filter (λb=>!b)).length<=f->(∀ k,c<=k->¬L.getD k ae=ab)->(∀ i,i<c->L.getD i ae=ab)->I0 N (S l (lu L)) s (gb φ (x l) idx L) a->aJ (S l (lu L)) s->cD σ0 s0 (S l (lu L)) s->ft X R (G (b.aT a (.inRegion ops (Region.linearise.go .any ops f t L [])::kk)) cs) s:=by
  intro l L s a f t F C Q p u m hh st;have W:=h.cc;rw[h.seq f c L t C (bg _) W (by
   have h2:=Rv (n:=ops.size) (c:=c) C p;omega) (λk hk=>⟨λO=>by
    grind,λO=>u k O⟩)]
  exact hQ l _ s a F u (m.Jy λt σ s v I=>h.fin (x l) t σ s v (by
   unfold gb at I;cases hi:idx t with
   |none=>grind
   |some k =>
    simp only[hi] at I ⊢;obtain⟨o,A,_⟩:=h.xI _ _ hi;rcases cJ k c with h1|h1
    .grind
    .rw[h.Rw l _ F u k h1 (ia.1 A).1];trivial)) hh st
 intro f
 induction f with
 |zero =>
  intro l L F C Q p B s a m hh st t;have W:=h.cc
  grind [Ae]
 |succ f ih =>
  intro l L F C Q p B s a m hh st t;have W:=h.cc;cases r:(bc .any ops L)[t % (bc .any ops L).length]? with
  |none=>exact fin l L s a _ t F C Q p (λi hi=>Kg (back:=h.back) C (Ed r) i (by omega)) m hh st
  |some i =>
   have hi:=bU r;obtain⟨o,A,ZP,w⟩:=mem_ready.1 hi;have sV:i<ops.size:=(ia.1 A).1;rcases cJ i c with H|H
   rotate_left
   .exact fin l L s a _ t F C Q p (λk hk=>h.Tn i o A H L B w k (by omega)) m hh st
   rw[oZ,r];have K:¬L.getD i ae=ab:=by
    grind
   have y:((L.setIfInBounds i ab).toList.filter (λb=>!b)).length<=f:=by
    have h1:L.toList[i]?=aa ae:=by
     rw[zq,fR (by omega:i<L.size)]
     simpa[dG,fR (by omega:i<L.size)] using K
    grind [count_set]
   have M:∀ j Z,ops[j]?=aa Z->(L.setIfInBounds i ab).getD j ae=ab->∀ e∈Z.after,c7 e=ab->(L.setIfInBounds i ab).getD e.on ae=ab:=by
    grind [ez]
   have Y:cx N (S l (lu L)) s (mZ ops.toList φ (x l) i) a:=N3 (h.Th (x l) i o A) m w;have:=h.one l (lu L) i o F A H (by unfold lu;grind) w B s a Y hh b kk cs R i (Region.linearise.go .any ops f (t / (bc .any ops L).length) (L.setIfInBounds i ab) []) hb (by grind)
   simp only[oP] at this;refine this λq v s' I E z=>?_
   obtain⟨U,V,J⟩:=q;have T:=Hk (L:=L) (i:=i) (by omega)
   simp only at I E z;rw[<-T] at I E z J;exact ih U _ J (by grind) y (λk hk=>by grind [ez]) M s' _ (Hf (λd hd=>h.Jz i o d A hd) h.xI A (by omega) (λj hj=>V j hj) hh.len z m I) E (st.trans z) _
def AW.reg(hf:P.follows Departure.mixedOrders=ab){all:List aw}(c:Nat)(x:g->Nat->D)(S:g->(Nat->Bool)->List aV)(Inv:g->(Nat->Bool)->Prop)(E:g)(hI0:Inv E λ_=>ae)(h0:S E (λ_=>ae)=σ)
  (Y:mx all=ab) (F:r5 all 0=ab) (O:n5 N all=ab) (hc:c<=all.length)
  (Tn:∀ i,c<=i->i<all.length->∀ L:Nat->Prop,(∀ i,i<all.length->L i->∀ e∈bS (all.getD i fV).after.toList,L e)->(∀ e∈bS (all.getD i fV).after.toList,L e)->∀ k,k<i->L k)
  (Rw:∀ p (D:Nat->Bool),Inv p D->(∀ i,i<c->D i=ab)->∀ i,c<=i->i<all.length->x p i=.any)
  (one:∀ p (D:Nat->Bool) i o,Inv p D->all[i]?=aa o->i<c->D i=ae->(∀ e∈bS o.after.toList,D e=ab)->(∀ j o',all[j]?=aa o'->D j=ab->∀ e∈bS o'.after.toList,D e=ab)->rZ X N all o (mZ all φ (x p) i) (S p D) (λq:{ K:g // (∀ j,D j=ab->x K j=x p j)/\Inv K (ff i D) }=>x q.1 i) (λq=>S q.1 (ff i D)))
  {Q:Post} (hQ:∀ p D,Inv p D->(∀ i,i<c->D i=ab)->jB X N all (all.drop c) (Q .normal) (M8 all φ (x p)) (S p D)) (id:Nat) :
  AW X N (.region id all.toArray ab) Q φ σ:=by
 have n:∀ i:Nat,all.toArray[i]?=all[i]?:=λi=>by simp
 let idx:Nat->Option Nat:=λt=>(bh all.length).find? (λi=>decide ((all.getD i fV).dst=aa t))
 have R:∀ t j,idx t=aa j->∃ o,all[j]?=aa o/\o.dst=aa t:=by
  grind
 have z:∀ i o d,all[i]?=aa o->o.dst=aa d->idx d=aa i:=by
  intro i o d f H;have hi:i<all.length:=(cr.1 f).1;cases hx:idx d with
  |none =>
   have:=rh.1 hx i (by grind)
   grind
  |some j =>
   grind [sZ]
 have T:∀ t,o0 t all=ab↔∃ j,idx t=aa j:=by
  grind [pT,rP]
 have J:∀ i o,all[i]?=aa o->all.getD i fV=o:=λi o h=>by grind
 have H:Uw X N all.toArray φ x S Inv idx c:=by
  refine⟨?_,?_,?_,?_,?_,?_,λi o f Xm L hLc hLp k hk=>?_,by grind,λp D M hD i h1 h2=>Rw p D M hD i h1 (by grind)⟩
  .intro i o f e U hb;rw[n] at f;have:=B5 F i o f e.on (eD.2 ⟨e,by grind,hb,rfl⟩)
   omega
  .intro i o d f H;rw[n] at f;exact⟨z i o d f H,il (yt O i o f) d H⟩
  .grind
  .intro p D i o M f hic XR QW M6;rw[n] at f;exact one p D i o M f hic XR (λe U=>by
    grind [eD]) λj o hj hDj e U=>by
    grind [eD]
  .intro x i o f t σ s v V;rw[n] at f;show dc σ s v (look (mZ all φ x i) t);unfold mZ;rw[J i o f];rcases nc (m:=λj=>fK j (bS o.after.toList)) (φ:=uC all φ) (t:=t) (l:=Ac all 0 x) (i:=0) with⟨j,y,h1,h2,C⟩|C
   .rw[C];rw[wo] at h1;cases hj:all[j]? with
    |none=>grind
    |some oj =>
     simp only[hj,j9,di,k8,bt] at h1;rw[z j oj t hj h1.1] at V;simp only at V;rw[bd] at V
     .grind
     .simp only[bt] at h2;obtain⟨e,a,b,c⟩:=eD.1 (BG h2)
      grind
   .rw[C,lM];split
    .trivial
    grind
  .intro x t σ s v V;show dc σ s v (look (M8 all φ x) t);unfold M8;rcases nc (m:=λ_=>ab) (φ:=uC all φ) (t:=t) (l:=Ac all 0 x) (i:=0) with⟨j,y,h1,h2,C⟩|C
   .rw[C];rw[wo] at h1
    grind
   .rw[C,lM];split
    .trivial
    grind
  .rw[n] at f;refine Tn i Xm (cr.1 f).1 (λk=>L.getD k ae=ab) (λi' hi' hl e U=>?_) (λe U=>?_) k hk
   .grind [eD]
   grind [eD]
 intro s a V3 hh b kk cs SS hb Xd;refine .next rfl λB A=>?_
 have A:=X.ik A;have u:=hh.rely A;have I:=V3.rely A hh;have G:Step σ B σ { B with w:={ B.w with drawn:=B.w.drawn+1 } }:=Step.same rfl rfl rfl rfl;have Dr:aJ σ { B with w:={ B.w with drawn:=B.w.drawn+1 } }:=u.same rfl;have ZY:=A.stepW.trans (G.oG u);refine⟨_,{ B with w:={ B.w with drawn:=B.w.drawn+1 } },#[],lR,⟨⟨σ,σ,u,Dr,G⟩,.nil⟩,?_⟩;simp only[Region.schedule,hf,Bool.true_or,cu];have W:lu (Array.replicate all.toArray.size ae)=λ_=>ae:=by
  funext i
  simp[lu,dG,mM];split <;> simp
 refine H.arr hb (σ0:=σ) (s0:=s) (λp D s2 a2 M hD f2 h2 oB=>?_) all.toArray.size E _ (by grind) (by simp) (by simp) ?_ ?_ _ a ?_ (by grind) (by grind) _
 .refine hQ p D M hD s2 a2 f2 h2 b kk cs SS _ hb ?_ λφ3 σ3 s3 a3 q3 f3 C Z=>Xd .normal _ _ s3 a3 q3 f3 C (oB.trans Z)
  grind [Names.Uv]
 .intro i _ hi;simp[dG,mM] at hi;split at hi <;> simp at hi
 .intro i o f hi;simp[dG,mM] at hi;split at hi <;> simp at hi
 .rw[W,h0];have r:=I.mono (G.oG u) u.len;refine⟨r.size,r.defers,λt=>?_⟩
  unfold gb;cases hix:idx t with
  |none=>exact r.slot t
  |some j =>
   simp only;rw[aY]
   .exact r.slot t
   .simp[dG,mM];split <;> simp
def rZ.to{all:List aw}{o:aw}{φ:Fr}{ι e:Type}{y:ι->D}{σ':ι->List aV}{z:e->D}{d:e->List aV}(h:rZ X N all o φ σ y σ')(l:∀ j,∃ k,y j=z k/\σ' j=d k):rZ X N all o φ σ z d:=by
 intro s a f hh b k cs S i rest hb hi hK;refine h s a f hh b k cs S i rest hb hi λj v s' r1 r2 r3=>?_
 obtain⟨q,p2,p3⟩:=l j
 grind
def OA.Bm{all:List aw}{o:aw}{φ:Fr}{d:Type}{y:D}{σ':List aV}{z:d->D}{e:d->List aV}(h:OA X N all o φ σ y σ')(k:d)(h1:y=z k)(h2:σ'=e k):rZ X N all o φ σ z e:=by
 subst h1 h2;exactλs a f hh b k' cs S i rest hb hi hK=>h s a f hh b k' cs S i rest hb hi λv s' r1 r2 r3=>hK k v s' r1 r2 r3
end
section
variable {P:aq}{X:Cx P}{N:Nat}{all:List aw}{φ:Fr}{σ:List aV}{o:aw}
theorem rZ.md{ι:Type}{x:ι->D}{σ':ι->List aV}(n:o.guard=af)(h:∀ s ρ,aJ σ s->(∀ y,dc σ s (ρ y) (b5 φ y))->∃ (j:ι)(s':St)(v:ak),(ay ρ o).run P s.w=.ok (.value v) s'.w/\dc (σ' j) s' v (x j)/\aJ (σ' j) s'/\Step σ s (σ' j) s'/\eZ s ((ay ρ o).events P s.w #[])):rZ X N all o φ σ x σ':=by
 intro s a f hh b k cs S i rest hb hi hK;refine zV hb hi (dv n) λm d=>?_
 have c:=hh.rely d;obtain⟨j,s',v,h1,h2,e,g,l⟩:=h m a.eval c (dX (f.rely d hh));exact⟨_,s',v,h1,.inl rfl,⟨⟨σ,σ' j,c,e,g⟩,l⟩,hK j v s' h2 e (d.stepW.trans (g.oG c))⟩
def rZ.tg{x:D}{σ':List aV}(h:OA X N all o φ σ x σ'):rZ X N all o φ σ (λ_:Unit=>x) (λ_=>σ') :=
 λs a f hh b k cs S i rest hb hi hK=>h s a f hh b k cs S i rest hb hi λv s'=>hK () v s'
def OA.law{x:D}{σ':List aV}(h:bH P o (b5 φ) σ x σ')(a:o.guard=af):OA X N all o φ σ x σ':=.md (λ_ _ _ _=>dv a) h
def OA.eval{T:List (Nat×TI)}{CT:List (Nat×dk)}{ds:List (Nat×Bool)}{x:D}{obs:List Prop}(a:dg P T)(hC:bD X CT)(h:FK T CT ds all φ σ o=aa (x,af,obs))(b:ag obs):OA X N all o φ σ x σ:=en a hC h b
def OA.bT{T:List (Nat×TI)}{CT:List (Nat×dk)}{x:D}(a:dg P T)(hC:bD X CT)(h:FK T CT [] all φ σ o=aa (x,af,[])):OA X N all o φ σ x σ:=en a hC h av
def qG(X:Cx P)(N:Nat)(all:List aw)(φ:Fr)(σ:List aV)(x:Nat->D)(pre:Nat->Bool):List aw->Nat->Prop
 |[],_=>True
 |o::r,i=>(match pre i with|true=>OA X N all o (mZ all φ x i) σ (x i) σ|false=>True)/\qG X N all φ σ x pre r (i+1)
def qH(X:Cx P)(N:Nat)(all:List aw)(φ:Fr)(σ:List aV)(x:Nat->D)(m:Nat):List aw->Nat->Prop
 |[],_=>True
 |o::r,i=>(match aG i m with|true=>True|false=>OA X N all o (mZ all φ x i) σ (x i) σ)/\qH X N all φ σ x m r (i+1)
theorem qG.get{x:Nat->D}{pre:Nat->Bool}:∀ {l:List aw}{k:Nat},qG X N all φ σ x pre l k->∀ (i:Nat)(o:aw),l[i]?=aa o->pre (k+i)=ab->OA X N all o (mZ all φ x (k+i)) σ (x (k+i)) σ
 |[],_,_,i,o,h=>by grind
 |p::r,k,h,0,o,hi=>λa=>by
  simp at hi;subst hi;have h1:=h.1
  grind
 |p::r,k,h,i+1,o,hi=>λa=>by
  have:=qG.get h.2 i o (by grind) (by grind)
  grind
theorem qH.get{x:Nat->D}{m:Nat}:∀ {l:List aw}{k:Nat},qH X N all φ σ x m l k->∀ (i:Nat)(o:aw),l[i]?=aa o->k+i≠m->OA X N all o (mZ all φ x (k+i)) σ (x (k+i)) σ
 |[],_,_,i,o,h=>by grind
 |p::r,k,h,0,o,hi=>λa=>by
  simp at hi;subst hi;have h1:=h.1;simp only[iO] at a
  grind [Nat.eq_of_beq_eq_true]
 |p::r,k,h,i+1,o,hi=>λa=>by
  have:=qH.get h.2 i o (by grind) (by omega)
  grind
def qI{ι:Type}(pre:Nat->Bool)(x:Nat->D)(y:ι->Nat->D)(j:ι)(i:Nat):D:=match pre i with|true=>x i|false=>y j i
def Af{ι:Type}{m c:Nat}{pre:Nat->Bool}{x:Nat->D}{b:ι->Nat->D}{σ':ι->List aV}{S:ι->(Nat->Bool)->List aV}(A:pre m=ae)(z:xO pre m all 0=ab)(same:∀ j i,pre i=ab->b j i=x i)
  (one:∀ i o,all[i]?=aa o->pre i=ab->OA X N all o (mZ all φ x i) σ (x i) σ)
  (two:∀ j (D:Nat->Bool) i o,all[i]?=aa o->i≠m->i<c->D i=ae->(∀ k f,all[k]?=aa f->D k=ab->∀ e∈bS f.after.toList,D e=ab)->OA X N all o (mZ all φ (b j) i) (S j D) (b j i) (S j (ff i D)))
  (Hg:∀ o,all[m]?=aa o->rZ X N all o (mZ all φ x m) σ (λj=>b j m) σ') (y:∀ j (D:Nat->Bool),(∀ i,D i=ab->pre i=ab)->σ' j=S j (ff m D)) :
  ∀ (a:Option ι) (D:Nat->Bool) i o,(a.isSome=D m/\(a=af->∀ i,D i=ab->pre i=ab))->all[i]?=aa o->i<c->D i=ae->(∀ e∈bS o.after.toList,D e=ab)->(∀ j f,all[j]?=aa f->D j=ab->∀ e∈bS f.after.toList,D e=ab) ->
   rZ X N all o (mZ all φ (a.elim x b) i) (a.elim σ λj=>S j D) (λq:{ d:Option ι // (∀ j,D j=ab->d.elim x b j=a.elim x b j)/\(d.isSome=ff i D m/\(d=af->∀ k,ff i D k=ab->pre k=ab)) }=>q.1.elim x b i) (λq=>q.1.elim σ λj=>S j (ff i D)):=by
 intro a D i o v r s p u n;have B:∀ {k},ff i D k=ab->k=i∨D k=ab:=λ{k} g=>by
  unfold ff at g
  grind [Nat.eq_of_beq_eq_true]
 have w:∀ {k},k≠i->ff i D k=D k:=λ{k} g=>by
  unfold ff
  grind [Nat.eq_of_beq_eq_true]
 by_cases l:i=m
 .subst l;cases a with
  |some j=>grind
  |none =>
   refine(Hg o r).to λj=>⟨⟨aa j,λk g=>same j k (v.2 rfl k g),?_,λh=>by cases h⟩,rfl,y j D (v.2 rfl)⟩
   unfold ff;grind [Nat.beq_refl]
 .cases a with
  |none =>
   have t:pre i=ab:=by
    grind [F3]
   exact(one i o r t).Bm ⟨af,λ_ _=>rfl,by grind,λ_ k g=>by
    grind⟩ rfl rfl
  |some j=>exact(two j D i o r l s p n).Bm ⟨aa j,λ_ _=>rfl,by grind,λh=>by cases h⟩ rfl rfl
def sd{ι:Type}{m c:Nat}{pre:Nat->Bool}{a:Option ι}{D:Nat->Bool}(d:a.isSome=D m/\(a=af->∀ i,D i=ab->pre i=ab))(e:m<c)(b:∀ i,i<c->D i=ab):∃ j,a=aa j:=by
 cases a with
 |some j=>grind
 |none=>grind
def AK.Hg{ι:Type}(n:P.follows Departure.mixedOrders=ab)(m:Nat)(pre:Nat->Bool)(x:Nat->D)(y:ι->Nat->D)(σ':ι->List aV){ops:Array aw}{id:Nat}{K:List It}{Qf:Post}
  (c:mx ops.toList=ab) (b:r5 ops.toList 0=ab) (d:n5 N ops.toList=ab) (f:Nat.blt m ops.toList.length=ab) (g:pre m=ae) (e:xO pre m ops.toList 0=ab)
  (one:qG X N ops.toList φ σ x pre ops.toList 0) (two:∀ j,qH X N ops.toList φ (σ' j) (qI pre x y j) m ops.toList 0)
  (Hg:rZ X N ops.toList (ops.toList.getD m fV) (mZ ops.toList φ x m) σ (λj=>qI pre x y j m) σ') (k:∀ j,AK X N Qf K .normal (M8 ops.toList φ (qI pre x y j)) (σ' j)):AK X N Qf (.code (.region id ops ab)::K) .normal φ σ:=by
 have f:=db f;have:=AW.reg (X:=X) (N:=N) (φ:=φ) (σ:=σ) n (all:=ops.toList) ops.toList.length (λa:Option ι=>a.elim x (qI pre x y)) (λa _=>a.elim σ σ') (λa D=>a.isSome=D m/\(a=af->∀ i,D i=ab->pre i=ab)) af ⟨rfl,λ_ _ h=>by cases h⟩ rfl c b d (bg _)
  (λi h1 h2=>absurd h2 (kB.2 h1)) (λa D _ _ i h1 h2=>absurd h2 (kB.2 h1))
  (Af (S:=λj _=>σ' j) g e (λj i l=>by simp only[qI,l]) (λi o hi l=>by have:=one.get i o hi (by grind);grind) (λj D i o hi Bq _ _ _=>by have:=(two j).get i o hi (by grind);grind)
   (λo r=>by grind) (λ_ _ _=>rfl))
  (Q:=AK X N Qf K) (λa D q p=>by
   obtain⟨j,rfl⟩:=sd q f p;rw[pJ];exact .nil (k j)) id
 rw[oP] at this;exact this
end
end
end Go.AM
namespace Go.AM.R1
section
open Go.Proofs
variable {X:Cx ah}
abbrev bb(a:Bool)(bf:Option (Nat×Nat))(xs:Bs)(b:Nat):aV:=bB a (oV bf xs.length) bf xs b
def l5:∀ j,j<1->([0]:List Nat)[j]?=aa j:=λj a=>by
 have:j=0:=by omega
 subst this;rfl
def Al(a:Bool)(bf:Option (Nat×Nat))(xs:Bs)(b:Nat)(d:xs.length<=9223372036854775807)(c:bf=af->xs=[]):Ev X 247 [.e (.one (.ptr 0 0))] [bb a bf xs b] (dI xs.length) [bb a bf xs b]:=by
 refine Ev.bQ Tryz.func247 rfl λf=>?_
 refine bk rfl av ?_;refine AK.law (bH.fe tok rfl rfl rfl rfl rfl) rfl rfl ?_;cases bf with
 |none =>
  have:=c rfl;subst this;refine AK.law (bH.uy rfl rfl Tryz.underlying22 rfl (by simp)) rfl rfl ?_
  refine bk rfl av (AK.dJ [0] rfl ?_ rfl rfl rfl l5);simp[ag]
 |some p =>
  refine AK.law (bH.uy rfl rfl Tryz.underlying22 rfl d) rfl rfl ?_;refine bk rfl av (AK.dJ [0] rfl ?_ rfl rfl rfl l5);simp[ag]
def Ek(g cap:Nat)(xs s:Bs)(a:Nat)(d:s.length<=9223372036854775807)(b:xs.length+s.length<=cap):Ev X 144 [.e (.one (.ptr 0 0)),dS s] [bb ab (aa (g,cap)) xs a] (.eK [.one (.c (.int .i64 s.length)),.one (.c .nV)]) [bb ab (aa (g,cap)) (xs++s) a]:=by
 refine Ev.bQ Tryz.func144 rfl λf=>?_
 refine bk rfl av ?_;refine AK.cQ (Cd (oV (aa (g,cap)) xs.length) (aa (g,cap)) xs a) [0] rfl ?_;refine bk rfl av ?_;refine AK.law (bH.fe tok rfl rfl rfl rfl rfl) rfl rfl ?_;refine bk rfl av ?_;refine AK.law (bH.Nt (l:=0) (g:=g) (cap:=cap) (xs:=xs) rfl Tryz.underlying22 Tryz.underlying9 (bz Tryz.type5) (by simp[Tryz.t5]) rfl rfl rfl rfl b) rfl rfl ?_
 refine bk rfl av ?_;refine AK.law (bH.zy tok rfl rfl rfl rfl rfl rfl rfl) rfl rfl ?_;have e:bb ab (aa (g,cap)) (xs++s) a=.dD (BB 194 5 ab (oV (aa (g,cap)) (xs.length+s.length)) (aa (g,cap)) (xs++s) a):=by simp[bb,bB]
 rw[e];refine bk rfl av (AK.dJ [0] rfl ?_ rfl rfl rfl l5);simp[ag,ag.cat]
theorem RG:Ev X 144 [.e (.one (.ptr 0 0)),dS []] [bb ab af [] 0] (.eK [.one (.c (.int .i64 0)),.one (.c .nV)]) [bb ab af [] 0]:=by
 refine Ev.bQ Tryz.func144 rfl λa=>?_
 refine bk rfl av ?_;refine AK.cQ (Cd (oV af 0) af [] 0) [0] rfl ?_;refine bk rfl av ?_;refine AK.law (bH.fe tok rfl rfl rfl rfl rfl) rfl rfl ?_;refine bk rfl av ?_;refine AK.law (bH.Jl rfl Tryz.underlying22 Tryz.underlying9 (bz Tryz.type5) rfl rfl) rfl rfl ?_;refine bk rfl av ?_;refine AK.law (bH.zy tok rfl rfl rfl rfl rfl rfl rfl) rfl rfl ?_;refine bk rfl av (AK.dJ [0] rfl ?_ rfl rfl rfl l5);simp[ag,ag.cat]
abbrev dp:D:=.e (.one (.ptr 0 0))
abbrev Nb:D:=.e (.one (.ptr 0 1))
def El(g cap:Nat)(xs:Bs)(c:Nat)(a:xs.length<=9223372036854775807)(b:cap≠0):Ev X 145 [.e (.one (.ptr 0 0))] [bb ab (aa (g,cap)) xs c] (dS xs) [bb ab (aa (g,cap)) xs xs.length]:=by
 refine Ev.bQ Tryz.func145 rfl λd=>?_
 refine aX [(1000001,ab)] 100 rfl av ?_;refine AK.Hg ei 10 (λi=>bo i 9) (λi=>[dp,dp,Nb,.e (.one (.v (.slice (aa ⟨g,0,af⟩) xs.length cap))),.e (.one (.v (.pointer (aa ⟨g,0,af⟩)))),dp,dp,Nb,.e (.one (.v (.slice (aa ⟨g,0,af⟩) xs.length cap))),dI xs.length].getD i .any) (λ(_:Unit) _=>dS xs)
  (λ_=>[bb ab (aa (g,cap)) xs xs.length]) rfl rfl rfl rfl rfl rfl ?_ ?_ ?_ ?_
 .refine⟨.bT tok bD.nil rfl,.bT tok bD.nil rfl,.bT tok bD.nil rfl,?_,?_,.bT tok bD.nil rfl,.bT tok bD.nil rfl,.bT tok bD.nil rfl,?_,?_,av,av,av⟩
  .exact .law (bH.fe (l:=0) tok rfl rfl rfl rfl rfl) rfl
  .exact .law (bH.TN rfl rfl b) rfl
  .exact .law (bH.fe (l:=0) tok rfl rfl rfl rfl rfl) rfl
  .exact .law (bH.uy rfl rfl Tryz.underlying22 rfl a) rfl
 .intro _;refine⟨.bT tok bD.nil rfl,.bT tok bD.nil rfl,.bT tok bD.nil rfl,?_,?_,.bT tok bD.nil rfl,.bT tok bD.nil rfl,.bT tok bD.nil rfl,?_,?_,av,.bT tok bD.nil rfl,av⟩
  .exact .law (bH.fe (l:=0) tok rfl rfl rfl rfl rfl) rfl
  .exact .law (bH.TN rfl rfl b) rfl
  .exact .law (bH.fe (l:=0) tok rfl rfl rfl rfl rfl) rfl
  .exact .law (bH.uy rfl rfl Tryz.underlying22 rfl a) rfl
 .exact .tg (.law (TK (l:=0) rfl Tryz.underlying224 (by kernel_rfl) rfl rfl rfl) rfl)
 .intro _;refine bk rfl av (AK.dJ [0] rfl ?_ rfl rfl rfl l5);simp[ag]
def UB{o:aw}{a:an->D}{σ:List aV}{t ty:ar}{x y:an}(h:o.op=.binOp .add t x y ty){b:Int}(f:a x=dI 0)(e:a y=dI b)(d:bx .i64 b):bH ah o a σ (dI b) σ:=by
 have:=bH.binOp (P:=ah) (σ:=σ) h f e (c:=.int .i64 (0+b)) (obs:=[bx .i64 (0+b)]) rfl (by rw[Int.zero_add];exact d)
 rwa [Int.zero_add] at this
def cM.Qa{ι:Type}{f:aW}{fn:Func}{c:Code}{args:List D}{σ:List aV}{σ':ι->List aV}{res:ι->D}(d:Tryz.prog.funcs[f]?=aa fn)(a:(fn.name== "runtime.NumGoroutine")=ae)(hb:fn.body=aa c)(b:bo args.length fn.ntmps=ab)
  (h:AK X fn.ntmps (λe φ σ1=>∃ j,b6 fn σ.length (res j) (σ' j) e φ σ1) [.code c] .normal (js 0 args) σ):cM X f args σ res σ' :=
 cM.intro d a hb (db b) (AK.of_code h)
def Od:Ev X 145 [.e (.one (.ptr 0 0))] [bb ab af [] 0] (dS []) [bb ab af [] 0]:=by
 refine Ev.bQ Tryz.func145 rfl λa=>?_
 refine aX [(1000001,ab)] 100 rfl av ?_;refine AK.Hg ei 10 (λi=>bo i 9) (λi=>[dp,dp,Nb,.e (.one (.v (.slice af 0 0))),.e (.one (.v (.pointer af))),dp,dp,Nb,.e (.one (.v (.slice af 0 0))),dI (0:Nat)].getD i .any) (λ(_:Unit) _=>dS [])
  (λ_=>[bb ab af [] 0]) rfl rfl rfl rfl rfl rfl ?_ ?_ ?_ ?_
 .refine⟨.bT tok bD.nil rfl,.bT tok bD.nil rfl,.bT tok bD.nil rfl,?_,?_,.bT tok bD.nil rfl,.bT tok bD.nil rfl,.bT tok bD.nil rfl,?_,?_,av,av,av⟩
  .exact .law (bH.fe (l:=0) tok rfl rfl rfl rfl rfl) rfl
  .exact .law (bH.TM rfl rfl) rfl
  .exact .law (bH.fe (l:=0) tok rfl rfl rfl rfl rfl) rfl
  .exact .law (bH.uy rfl rfl Tryz.underlying22 rfl (by decide)) rfl
 .intro _;refine⟨.bT tok bD.nil rfl,.bT tok bD.nil rfl,.bT tok bD.nil rfl,?_,?_,.bT tok bD.nil rfl,.bT tok bD.nil rfl,.bT tok bD.nil rfl,?_,?_,av,.bT tok bD.nil rfl,av⟩
  .exact .law (bH.fe (l:=0) tok rfl rfl rfl rfl rfl) rfl
  .exact .law (bH.TM rfl rfl) rfl
  .exact .law (bH.fe (l:=0) tok rfl rfl rfl rfl rfl) rfl
  .exact .law (bH.uy rfl rfl Tryz.underlying22 rfl (by decide)) rfl
 .exact .tg (.law (bH.TP rfl rfl rfl) rfl)
 .intro _;refine bk rfl av (AK.dJ [0] rfl ?_ rfl rfl rfl l5);simp[ag]
def Oe(n:Nat)(c:0<n)(b:n<=140737488355328):cM (ι:={ p:Nat×Nat // n<=p.2 }) X 176 [.e (.one (.ptr 0 0)),dI n] [bb ab af [] 0] (λ_=>.eK []) (λj=>[bb ab (aa j.1) [] 0]):=by
 refine cM.Qa Tryz.func176 rfl rfl rfl ?_;refine aX [(1000000,ab)] 100 rfl av ?_;have a:bx .i64 (n:Int):=by simp only[bx];omega
 have v0:D:=.e (.one (.v (.slice af 0 0)));refine AK.Hg (ι:={ p:Nat×Nat // n<=p.2 }) ei 8 (λi=>bo i 7||(bo 9 i&&bo i 13)) (λi=>[dp,dp,Nb,.e (.one (.v (.slice af 0 0))),dI (0:Nat),dI 0,dI n,dI n,.any,dp,dp,Nb,.e (.one (.v (.slice af 0 0))),dI (0:Nat)].getD i .any)
  (λj i=>[.e (.one (.v (oV (aa j.1) n))),.any,.any,.any,.any,.any,.e (.one (.v (.slice (aa ⟨j.1.1,0,af⟩) 0 j.1.2))),.e (.one (.v (.slice (aa ⟨j.1.1,0,af⟩) 0 j.1.2)))].getD (i-8) .any)
  (λj=>[bB ab (.slice af 0 0) (aa j.1) [] 0]) rfl rfl rfl rfl rfl rfl ?_ ?_ ?_ ?_
 .refine⟨.bT tok bD.nil rfl,.bT tok bD.nil rfl,.bT tok bD.nil rfl,?_,?_,?_,.bT tok bD.nil rfl,?_,av,.bT tok bD.nil rfl,.bT tok bD.nil rfl,.bT tok bD.nil rfl,?_,?_,av,av,av⟩
  .exact .law (bH.fe (l:=0) tok rfl rfl rfl rfl rfl) rfl
  .exact .law (bH.Nu rfl rfl Tryz.underlying22 rfl (by decide)) rfl
  .exact .law (Ky 0 rfl rfl rfl (by simp[bx]) (λw=>rfl) (λw=>rfl)) rfl
  .exact .law (UB rfl rfl rfl a) rfl
  .exact .law (bH.fe (l:=0) tok rfl rfl rfl rfl rfl) rfl
  .exact .law (bH.uy rfl rfl Tryz.underlying22 rfl (by decide)) rfl
 .intro j;have d:j.1.2≠0:=by grind
  refine⟨.bT tok bD.nil rfl,.bT tok bD.nil rfl,.bT tok bD.nil rfl,?_,?_,?_,.bT tok bD.nil rfl,?_,av,.bT tok bD.nil rfl,.bT tok bD.nil rfl,.bT tok bD.nil rfl,?_,?_,?_,.bT tok bD.nil rfl,av⟩
  .exact .law (bH.fe (l:=0) tok rfl rfl rfl rfl rfl) rfl
  .exact .law (bH.Nu rfl rfl Tryz.underlying22 rfl (by decide)) rfl
  .exact .law (Ky 0 rfl rfl rfl (by simp[bx]) (λw=>rfl) (λw=>rfl)) rfl
  .exact .law (UB rfl rfl rfl a) rfl
  .exact .law (bH.fe (l:=0) tok rfl rfl rfl rfl rfl) rfl
  .exact .law (bH.uy rfl rfl Tryz.underlying22 rfl (by decide)) rfl
  .exact .law (bH.TO (k:=0) rfl Tryz.underlying22 (bz Tryz.type5) rfl rfl (gD _) j.2 d (dj _ _ _)) rfl
 .exact .md rfl (TJ (l:=0) (ps:=#[3]) Tryz.underlying22 Tryz.func194 (by kernel_rfl) (by kernel_rfl) (by kernel_rfl) (by kernel_rfl) rfl rfl rfl c b rfl)
 .intro j;refine bk rfl av ?_;refine AK.law (bH.fe (l:=0) tok rfl rfl rfl rfl rfl) rfl rfl ?_;refine AK.law (bH.copyV rfl Tryz.underlying22 (bz Tryz.type5) rfl rfl) rfl rfl ?_;refine bk rfl av ?_;refine AK.law (bH.zy (l:=0) tok rfl rfl rfl rfl rfl rfl rfl) rfl rfl ?_;refine bk rfl av ?_;exact⟨j,b6.tj [0] rfl av rfl rfl rfl l5⟩
def Ga(n:Nat)(b:0<n)(a:n<=140737488355328):cM (ι:={ p:Nat×Nat // n<=p.2 }) X 143 [.e (.one (.ptr 0 0)),dI n] [bb ae af [] 0] (λ_=>.eK []) (λj=>[bb ab (aa j.1) [] 0]):=by
 refine cM.Qa Tryz.func143 rfl rfl rfl ?_;refine bk rfl av ?_;refine AK.cQ (Cc (oV af 0) rfl af [] 0) [0] rfl ?_;refine aX [(7,ae),(1000003,ab)] 100 rfl ?_ ?_
 .simp[ag]
 refine AK.Hg ei 4 (λi=>bo i 3||(bo 5 i&&bo i 9)||aG i 11) (λi=>[dp,dp,Nb,.e (.one (.v (.slice af 0 0))),.any,dp,dp,Nb,.e (.one (.v (.slice af 0 0))),dI (0:Nat),.any,dI n].getD i .any)
  (λ(_:Unit) i=>[dI (0:Nat),.any,.any,.any,.any,.any,dI (0-0),.any,dB ab].getD (i-4) .any)
  (λ_=>[bb ab af [] 0]) rfl rfl rfl rfl rfl rfl ?_ ?_ ?_ ?_
 .refine⟨.bT tok bD.nil rfl,.bT tok bD.nil rfl,.bT tok bD.nil rfl,?_,av,.bT tok bD.nil rfl,.bT tok bD.nil rfl,.bT tok bD.nil rfl,?_,?_,av,.bT tok bD.nil rfl,av,av⟩
  .exact .law (bH.fe (l:=0) tok rfl rfl rfl rfl rfl) rfl
  .exact .law (bH.fe (l:=0) tok rfl rfl rfl rfl rfl) rfl
  .exact .law (bH.uy rfl rfl Tryz.underlying22 rfl (by decide)) rfl
 .intro _;refine⟨.bT tok bD.nil rfl,.bT tok bD.nil rfl,.bT tok bD.nil rfl,?_,av,.bT tok bD.nil rfl,.bT tok bD.nil rfl,.bT tok bD.nil rfl,?_,?_,?_,.bT tok bD.nil rfl,?_,av⟩
  .exact .law (bH.fe (l:=0) tok rfl rfl rfl rfl rfl) rfl
  .exact .law (bH.fe (l:=0) tok rfl rfl rfl rfl rfl) rfl
  .exact .law (bH.uy rfl rfl Tryz.underlying22 rfl (by decide)) rfl
  .exact .eval (ds:=[]) tok bD.nil (obs:=[bx .i64 (((0:Nat):Int)-((0:Nat):Int))]) rfl (by simp[ag,bx])
  .exact .eval (ds:=[(21,ab)]) tok bD.nil (obs:=[decide ((0:Int)-0<(n:Int))=ab]) rfl (by simp[ag];omega)
 .exact .tg (.law (bH.Nu rfl rfl Tryz.underlying22 rfl (by decide)) rfl)
 .intro _;refine bk rfl av ?_;refine AK.cP (Oe n b a) [0] rfl (λ_=>rfl) λj=>?_
  refine bk rfl av ?_;exact⟨j,b6.tj [0] rfl av rfl rfl rfl l5⟩
def Kz:Ev X 143 [.e (.one (.ptr 0 0)),dI (0:Nat)] [bb ae af [] 0] (.eK []) [bb ab af [] 0]:=by
 refine Ev.bQ Tryz.func143 rfl λa=>?_
 refine bk rfl av ?_;refine AK.cQ (Cc (oV af 0) rfl af [] 0) [0] rfl ?_;refine aX [(7,ae),(1000003,ab)] 100 rfl ?_ ?_
 .simp[ag]
 refine AK.Hg ei 4 (λi=>bo i 3||(bo 5 i&&bo i 9)||aG i 11) (λi=>[dp,dp,Nb,.e (.one (.v (.slice af 0 0))),.any,dp,dp,Nb,.e (.one (.v (.slice af 0 0))),dI (0:Nat),.any,dI (0:Nat)].getD i .any)
  (λ(_:Unit) i=>[dI (0:Nat),.any,.any,.any,.any,.any,dI (0-0),.any,dB ae].getD (i-4) .any)
  (λ_=>[bb ab af [] 0]) rfl rfl rfl rfl rfl rfl ?_ ?_ ?_ ?_
 .refine⟨.bT tok bD.nil rfl,.bT tok bD.nil rfl,.bT tok bD.nil rfl,?_,av,.bT tok bD.nil rfl,.bT tok bD.nil rfl,.bT tok bD.nil rfl,?_,?_,av,.bT tok bD.nil rfl,av,av⟩
  .exact .law (bH.fe (l:=0) tok rfl rfl rfl rfl rfl) rfl
  .exact .law (bH.fe (l:=0) tok rfl rfl rfl rfl rfl) rfl
  .exact .law (bH.uy rfl rfl Tryz.underlying22 rfl (by decide)) rfl
 .intro _;refine⟨.bT tok bD.nil rfl,.bT tok bD.nil rfl,.bT tok bD.nil rfl,?_,av,.bT tok bD.nil rfl,.bT tok bD.nil rfl,.bT tok bD.nil rfl,?_,?_,?_,.bT tok bD.nil rfl,?_,av⟩
  .exact .law (bH.fe (l:=0) tok rfl rfl rfl rfl rfl) rfl
  .exact .law (bH.fe (l:=0) tok rfl rfl rfl rfl rfl) rfl
  .exact .law (bH.uy rfl rfl Tryz.underlying22 rfl (by decide)) rfl
  .exact .eval (ds:=[]) tok bD.nil (obs:=[bx .i64 (((0:Nat):Int)-((0:Nat):Int))]) rfl (by simp[ag,bx])
  .exact .eval (ds:=[(21,ae)]) tok bD.nil (obs:=[decide ((0:Int)-0<((0:Nat):Int))=ae]) rfl (by simp[ag])
 .exact .tg (.law (bH.Nu rfl rfl Tryz.underlying22 rfl (by decide)) rfl)
 .intro _;refine bk rfl av ?_;exact b6.tj [0] rfl av rfl rfl rfl l5
def KA{o:aw}{a:an->D}{σ:List aV}(h:o.op=.alloc 194):bH ah o a σ (.e (.one (.ptr σ.length 0))) (σ++[bb ae af [] 0]) :=
 bH.QM h (λw=>by simp[zeroValue,typeInfo,bz Tryz.type194,Tryz.t194]) (λw es=>by simp)
def KB{o:aw}{n:an->D}{σ:List aV}{x y z:an}{p:Array ar}{a b c:Int} (m:Int)(h:o.op=.call { callee:=.builtin .min,args:=#[x,y,z],argTypes:=p })(u:n x=dI a)(q:n y=dI b)(t:n z=dI c)(w:min (min a b) c=m)(r:bx .i64 m):bH ah o n σ (dI m) σ:=by
 refine .quiet λs ρ v d=>?_
 have j:=d x;have g:=d y;have f:=d z;rw[u] at j;rw[q] at g;rw[t] at f
 replace j:=fy j
 replace g:=fy g
 replace f:=fy f
 generalize i:ρ x=vx at j;generalize l:ρ y=vy at g;generalize k:ρ z=vz at f;cases j;cases g;cases f;have e:(if c<(if b<a then b else a) then c else if b<a then b else a)=m:=by
  grind
 exact⟨.int .i64 m,by simp[ay,h,resolve,invoke,builtin,i,l,k,Builtin.min_,Builtin.min2,e],.int r,by simp[ay,h,resolve,invoke,builtin,i,l,k,Builtin.min_,Builtin.min2]⟩
def KC(n:Nat)(q:2<=n)(l:n<=3):Ev X 238 [dS [46],dI n] [] (dS (List.replicate n 46)) []:=by
 refine Ev.bQ Tryz.func238 rfl λo=>?_
 have a:bD X [(246,RH)]:=.cons t246 .nil;refine aC a [(13,ae),(15,ae),(18,ae),(30,ae),(33,ae),(40,ae),(44,ae),(45,ae),(46,ae),(47,ae),(48,ae),(96,ae),(1000035,ab)] 200 rfl ?_ ?_
 .have h:(n:Int)=2∨(n:Int)=3:=by omega
  have e:(iS [46] 0).toNat=46:=rfl;simp[ag,bx,e,h];omega
 refine AK.region ?_;refine AK.law (KA rfl) rfl rfl ?_;refine aC a [] 200 rfl av ?_;refine AK.cP (Ga n (by omega) (by omega)) [0] rfl (λ_=>rfl) λj=>?_
 obtain⟨⟨g,cap⟩,b⟩:=j;have b:n<=cap:=b;refine aC a [] 200 rfl av ?_;refine AK.cQ (Ek g cap [] [46] 0 (by simp) (by simp;omega)) [0] rfl ?_
 refine aC a [] 200 rfl av ?_;refine AK.jP (λk=>1<=k/\k<=n) (λk:Nat=>[(0,dS [46]),(7,dI n),(8,dI n),(9,.e (.one (.ptr 0 0)))]) (λk=>[bb ab (aa (g,cap)) (List.replicate k 46) (k-1)]) (λk=>n-k) 1 rfl ?_ rfl ?_ ⟨by omega,by omega⟩ ?_
 .simp[ag,ag.cat]
 .exact ag.cat.2 ⟨rfl,av⟩
 rintro k ⟨c,d⟩;refine aC a [] 200 rfl av ?_;refine AK.cQ (Al ab (aa (g,cap)) (List.replicate k 46) (k-1) (by simp;omega) (by simp)) [0] rfl ?_
 by_cases p:k<n
 .refine aC a [(113,ab)] 200 rfl ?_ ?_
  .simp[ag];omega
  refine AK.cQ (Al ab (aa (g,cap)) (List.replicate k 46) (k-1) (by simp;omega) (by simp)) [0] rfl ?_
  refine aC a [] 200 rfl ?_ ?_
  .simp[ag,bx];omega
  refine AK.cQ (Al ab (aa (g,cap)) (List.replicate k 46) (k-1) (by simp;omega) (by simp)) [0] rfl ?_
  refine aC a [] 200 rfl av ?_;refine AK.law (KB 1 rfl rfl rfl rfl (by simp;omega) (by simp[bx])) rfl rfl ?_
  refine aC a [] 200 rfl av ?_;refine AK.cQ (El g cap (List.replicate k 46) (k-1) (by simp;omega) (by omega)) [0] rfl ?_
  have f:rT (List.replicate k (46:UInt8)) af (aa 1)=[46]:=by
   obtain⟨m,rfl⟩:∃ m,k=m+1:=⟨k-1,by omega⟩
   simp[rT,List.replicate_succ]
  refine aC a [] 200 rfl ?_ ?_
  .simp[ag];omega
  rw[f];refine AK.cQ (Ek g cap (List.replicate k 46) [46] (List.replicate k 46).length (by simp) (by simp;omega)) [0] rfl ?_
  have i:List.replicate k (46:UInt8)++[46]=List.replicate (k+1) 46:=by rw[List.replicate_succ']
  rw[i];refine aC a [] 200 rfl av (AK.fW (k+1) rfl ?_ rfl ?_ ⟨by omega,by omega⟩ (by omega))
  .simp[ag,ag.cat]
  .refine ag.cat.2 ⟨?_,av⟩;simp[ag]
 .refine aC a [(113,ae)] 200 rfl ?_ (AK.leave rfl rfl ?_)
  .simp[ag];omega
  have e:k=n:=by omega
  subst e;refine aC a [] 200 rfl av ?_;refine AK.cQ (El g cap (List.replicate k 46) (k-1) (by simp;omega) (by omega)) [0] rfl ?_
  refine aC a [] 200 rfl av (AK.bn rfl ?_);simp[ag,ag.cat]
def X1:dM X 238 Hl:=UC (KC 2 (by omega) (by omega)) (KC 3 (by omega) (by omega))
def UD:dM X 219 ph:=UE X1
def Room(bf:Option (Nat×Nat))(n:Nat):Prop:=match bf with|none=>n=0|some (_,cap)=>n<=cap/\0<cap
def _root_.Go.AM.cM.re{P:aq}{ι b:Type}{X:Cx P}{f:aW}{args:List D}{σ:List aV}{res:ι->D}{σ':ι->List aV}{a:b->D}{σ2:b->List aV}(h:cM X f args σ res σ')(g:ι->b)(c:∀ i,a (g i)=res i)(d:∀ i,σ2 (g i)=σ' i):cM X f args σ a σ2 :=
 ⟨h.1,λs vs h1 h2 S cs hS=>h.2 s vs h1 h2 S cs λi fr v s' k1 k2 k3 k4=>hS (g i) fr v s' k1 (by grind) (by grind) (by grind)⟩
def KD(n:Nat)(a:n<=140737488355328):cM (ι:={ bf:Option (Nat×Nat) // Room bf n }) X 143 [.e (.one (.ptr 0 0)),dI n] [bb ae af [] 0] (λ_=>.eK []) (λj=>[bb ab j.1 [] 0]):=by
 by_cases h:n=0
 .subst h;exact Kz.Bm.re (λ_=>⟨af,rfl⟩) (λ_=>rfl) (λ_=>rfl)
 .exact(Ga n (by omega) a).re (λp=>⟨aa p.1,p.2,by grind⟩) (λ_=>rfl) (λ_=>rfl)
def Em(bf:Option (Nat×Nat))(xs s:Bs)(a:s.length<=9223372036854775807)(h:Room bf (xs.length+s.length)):Ev X 144 [.e (.one (.ptr 0 0)),dS s] [bb ab bf xs 0] (.eK [.one (.c (.int .i64 s.length)),.one (.c .nV)]) [bb ab bf (xs++s) 0]:=by
 cases bf with
 |none =>
  have h:xs.length+s.length=0:=h
  grind [RG]
 |some p=>exact Ek p.1 p.2 xs s 0 a h.1
def shown(bf:Option (Nat×Nat))(xs:Bs):Nat:=match bf with|none=>0|some _=>xs.length
def Of(bf:Option (Nat×Nat))(xs:Bs)(a:xs.length<=9223372036854775807)(h:Room bf xs.length):Ev X 145 [.e (.one (.ptr 0 0))] [bb ab bf xs 0] (dS xs) [bb ab bf xs (shown bf xs)]:=by
 cases bf with
 |none =>
  have h:xs.length=0:=h;have b:xs=[]:=hZ h;subst b;exact Od
 |some p=>exact El p.1 p.2 xs 0 a (by have:=h.2;omega)
def Gb(l:List Bs)(i:Nat):Bs:=(l.take i).flatten
def KE{l:List Bs}{i:Nat}(h:i<l.length):Gb l (i+1)=Gb l i++l.getD i []:=by
 unfold Gb
 grind [List.take_add_one]
def UF{l:List Bs}:Gb l l.length=l.flatten:=by simp[Gb]
def KF{l:List Bs}(i:Nat):(Gb l i).length<=l.flatten.length:=by
 have e:l.flatten=(l.take i).flatten++(l.drop i).flatten:=by grind [List.take_append_drop]
 rw[e,bR];simp only[Gb];omega
def Og(l:List Bs)(r:l.flatten.length<=140737488355328):Ev X 79 [cS.sl l,dS []] [] (dS l.flatten) []:=by
 refine Ev.bQ Tryz.func79 rfl λq=>?_
 have m:=q.sl 0 rfl
 by_cases k:l=[]
 .subst k;refine aX [(14,ab)] 100 rfl ?_ (AK.bn rfl ?_)
  .simp[ag]
  .simp[ag]
 by_cases s:l.length=1
 .obtain⟨x,rfl⟩:=List.length_eq_one_iff.1 s;refine aX [(14,ae),(16,ab)] 100 rfl ?_ (AK.bn rfl ?_)
  .simp[ag]
  .simp[ag,ag.cat,cS,hY.fn]
 have v:2<=l.length:=by
  have:l.length≠0:=by grind
  omega
 refine aX [(14,ae),(16,ae),(22,ae)] 100 rfl ?_ ?_
 .simp[ag,k];omega
 refine AK.jP (λi=>i<=l.length) (λi:Nat=>[(0,cS.sl l),(1,dS []),(5,dI (Gb l i).length),(39,cS.sl l),(40,dI l.length),(41,dI i)]) (λ_=>[]) (λi=>l.length-i) 0 rfl ?_ rfl av (by omega) ?_
 .simp[ag,ag.cat,aP.same,Gb]
 .intro i hi;have u:=KF (l:=l) i
  by_cases h:i<l.length
  .have f:=KF (l:=l) (i+1);rw[KE h,bR] at f;refine aX [(42,ab),(49,ae)] 100 rfl ?_ (AK.fW (i+1) rfl ?_ rfl av (by omega) (by omega))
   .have e:(l.getD (i:Int).toNat cS.bE)=l.getD i []:=rfl;simp only[ag,bx,e]
    grind
   .have e:(l.getD (i:Int).toNat cS.bE)=l.getD i []:=rfl;rw[KE h];rw[e];simp[ag,ag.cat,aP.same]
  .have e:i=l.length:=by omega
   subst e;refine aX [(42,ae),(1000018,ab)] 100 rfl ?_ (AK.leave rfl rfl ?_)
   .simp[ag]
   refine aX [(1000018,ab)] 100 rfl av ?_;refine AK.region ?_;refine AK.law (KA rfl) rfl rfl ?_;refine dY rfl av ?_;rw[UF];refine AK.cP (KD l.flatten.length r) [0] rfl (λ_=>rfl) λj=>?_
   obtain⟨bf,d⟩:=j;refine dY rfl ?_ ?_
   .exact⟨by omega,show (0:Int)<(l.length:Int) by omega⟩
   have room:∀ n,n<=l.flatten.length->Room bf n:=λn o=>by
    cases bf with
    |none =>
     have:l.flatten.length=0:=d
     grind
    |some p=>exact⟨eL o d.1,d.2⟩
   have g:Gb l 1=l.getD 0 []:=by rw[KE (by omega)];simp[Gb]
   have b:=KF (l:=l) 1;rw[g] at b;refine AK.cQ (Em bf [] (l.getD 0 []) (by omega) (room _ (by grind))) [0] rfl ?_
   refine dY rfl ?_ ?_
   .exact⟨by omega,show (1:Int)<=(l.length:Int) by omega⟩
   refine AK.jP (λi=>i+1<=l.length) (λi:Nat=>[(1,dS []),(8,.e (.one (.ptr 0 0))),(63,.e (.one (.c (.sl ae 1 (l.length-1) (jL 1 (cS.fn l)))))),(64,dI (l.length-1:Nat)),(65,dI i)]) (λi=>[bb ab bf (Gb l (i+1)) 0]) (λi=>l.length-i) 0 rfl ?_ rfl ?_ (by omega) ?_
   .simp[ag,ag.cat,cv,aP.same]
   .refine ag.cat.2 ⟨?_,av⟩;rw[bt,g];exact rfl
   intro i hi;have t:=KF (l:=l) (i+1)
   by_cases h:i+1<l.length
   .have a:=KF (l:=l) (i+2);rw[KE h,bR] at a;refine aX [(66,ab)] 100 rfl ?_ ?_
    .exact⟨by omega,by omega,cn (by omega)⟩
    refine AK.cQ (Em bf (Gb l (i+1)) [] (by simp) (room _ (by grind))) [0] rfl ?_
    rw[k7];refine bk rfl av ?_;refine AK.cQ (Em bf (Gb l (i+1)) (l.getD (1+i) []) (by grind) (room _ (by grind))) [0] rfl ?_
    refine bk rfl ?_ (AK.fW (i+1) rfl ?_ rfl ?_ (by omega) (by omega))
    .simp only[ag,bx];omega
    .simp[ag,ag.cat,aP.same]
    .refine ag.cat.2 ⟨?_,av⟩;rw[KE h,Nat.add_comm 1 i];exact rfl
   .have e:i+1=l.length:=by omega
    refine aX [(66,ae)] 100 rfl ?_ (AK.leave rfl rfl ?_)
    .exact eC (by omega)
    rw[e,UF];refine bk rfl av ?_;refine AK.cQ (Of bf l.flatten (by omega) (room _ (by omega))) [0] rfl ?_
    refine bk rfl av (AK.bn rfl ?_);simp[ag,ag.cat]
def Hq{s:Bs}(h:b8 s=ab)(i:Nat)(hi:i<s.length):97<=cB s i/\cB s i<=122:=by
 have a:=bu.1 h (s.getD i 0) (by grind)
 simp only[eG,bL,ba] at a;unfold cB;omega
def Ck(s:Bs)(i:Nat)(a:b8 s=ab)(e:3<=i)(hi:i<=s.length)(k:s.length<=4000000):Ev X 195 [dS s,dI i] [] (dB (ld s i)) []:=by
 refine Ev.bQ Tryz.func195 rfl λh=>?_
 have f:=Hq a (i-1) (by omega)
 have j:=Hq a (i-2) (by omega)
 have g:=Hq a (i-3) (by omega)
 have c:((iS s ((i:Int)-1)).toNat:Int)=cB s (i-1):=by rw[cA,show ((i:Int)-1).toNat=i-1 by omega]
 have d:((iS s ((i:Int)-2)).toNat:Int)=cB s (i-2):=by rw[cA,show ((i:Int)-2).toNat=i-2 by omega]
 have b:((iS s ((i:Int)-3)).toNat:Int)=cB s (i-3):=by rw[cA,show ((i:Int)-3).toNat=i-3 by omega]
 refine bk rfl ?_ (AK.bn rfl ?_)
 .simp only[ag,bx,c,d,b];omega
 .simp only[ag,ag.cat,c,d,b,ld,dl,aE]
  grind
def Hr:dM X 195 (p9 aS aI (λs i=>dB (ld s i.toNat)) λs i=>[b8 s=ab,3<=i,i<=s.length,s.length<=4000000]):=.tm λs i h=>by
 obtain⟨b,d,c,a⟩:=h;obtain⟨m,rfl⟩:∃ m:Nat,i=m:=⟨i.toNat,by omega⟩
 exact Ck s m b (by omega) (by omega) a
def Aq{o:aw}{k:an->D}{σ:List aV}{x y:an}{j:Array ar}{a b:Int} (m:Int)(h:o.op=.call { callee:=.builtin .min,args:=#[x,y],argTypes:=j })(q:k x=dI a)(l:k y=dI b)(p:min a b=m)(n:bx .i64 m):bH ah o k σ (dI m) σ:=by
 refine .quiet λs ρ r g=>?_
 have f:=g x;have c:=g y;rw[q] at f;rw[l] at c
 replace f:=fy f
 replace c:=fy c
 generalize d:ρ x=vx at f;generalize i:ρ y=vy at c;cases f;cases c;have e:(if b<a then b else a)=m:=by
  rw[<-p];split <;> omega
 exact⟨.int .i64 m,by simp[ay,h,resolve,invoke,builtin,d,i,Builtin.min_,Builtin.min2,e],.int n,by simp[ay,h,resolve,invoke,builtin,d,i,Builtin.min_,Builtin.min2]⟩
def KS{t:Bs}{f j:Nat}(h:t.length<=f+3+j)(c:j<=5):tn t f (5-j)=min (f+8) t.length:=by
 rcases cJ j 5 with a|a
 .obtain⟨k,b⟩:∃ k,5-j=k+1:=⟨4-j,by omega⟩
  rw[b];simp only[tn];rw[bd (by omega)]
  omega
 .rw[show 5-j=0 by omega];rfl
def Hs(t:Bs)(f:Nat)(m:b8 t=ab)(o:f<=t.length)(r:t.length<=4000000):Ev X 178 [dS t,dI f] [] (dI (cutAt t f)) []:=by
 refine Ev.bQ Tryz.func178 rfl λp=>?_
 have a:bD X [(195,p9 aS aI (λs i=>dB (ld s i.toNat)) λs i=>[b8 s=ab,3<=i,i<=s.length,s.length<=4000000])]:=.cons Hr .nil
 refine aC a [] 100 rfl ?_ ?_
 .simp[ag,bx];omega
 refine AK.jP (λj=>j<=5/\tn t f (5-j)=cutAt t f) (λj:Nat=>[(0,dS t),(1,dI f),(5,dI (f+3+j))]) (λ_=>[]) (λj=>5-j) 0 rfl ?_ rfl av ⟨by omega,rfl⟩ ?_
 .simp[ag,ag.cat]
 rintro j ⟨q,b⟩
 by_cases h:j<5/\f+3+j<t.length
 .obtain⟨k,n⟩:∃ k,5-j=k+1:=⟨4-j,by omega⟩
  have d:f+(7-k)=f+3+j:=by omega
  rw[n] at b;simp only[tn,d] at b;rw[aY (by omega)] at b
  have e:((f:Int)+3+j).toNat=f+3+j:=by omega
  cases c:ld t (f+3+j) with
  |true =>
   rw[c,bd rfl] at b;refine aC a [(11,ab),(16,ab),(22,ab)] 100 rfl ?_ (AK.gK (b6.zero rfl ?_))
   .simp only[ag,bx,e,c,m,ba,eq_self,aF,aE];omega
   .simp[ag,ag.cat,<-b]
  |false =>
   rw[c,aY (by simp)] at b
   refine aC a [(11,ab),(16,ab),(22,ae)] 100 rfl ?_ (AK.fW (j+1) rfl ?_ rfl av ⟨by omega,by rw[<-b];congr 1;omega⟩ (by omega))
   .simp only[ag,bx,e,c,m,ba,eq_self,aF,aE];omega
   .simp[ag,ag.cat];omega
 .have e:cutAt t f=min (f+8) t.length:=by
   rw[<-b];rcases cJ j 5 with g|g
   .exact KS (by omega) (by omega)
   .rw[show 5-j=0 by omega];rfl
  have l:bx .i64 ((min (f+8) t.length:Nat):Int):=by simp only[bx];omega
  rcases cJ j 5 with g|g
  .refine aC a [(11,ab),(16,ae)] 100 rfl ?_ (AK.leave rfl rfl ?_)
   .simp only[ag,bx,ba,bM];omega
   refine aC a [] 100 rfl ?_ ?_
   .simp only[ag,bx];omega
   refine AK.law (Aq ((min (f+8) t.length:Nat):Int) rfl rfl rfl (by omega) l) rfl rfl ?_
   refine aC a [] 100 rfl av (AK.bn rfl ?_);simp[ag,e]
  .refine aC a [(11,ae)] 100 rfl ?_ (AK.leave rfl rfl ?_)
   .simp only[ag,bx,ba,bM];omega
   refine aC a [] 100 rfl ?_ ?_
   .simp only[ag,bx];omega
   refine AK.law (Aq ((min (f+8) t.length:Nat):Int) rfl rfl rfl (by omega) l) rfl rfl ?_
   refine aC a [] 100 rfl av (AK.bn rfl ?_);simp[ag,e]
def RR:dM X 178 (p9 aS aI (λs i=>dI (cutAt s i.toNat)) λs i=>[b8 s=ab,0<=i,i<=s.length,s.length<=4000000]):=.tm λs i h=>by
 obtain⟨b,d,c,a⟩:=h;obtain⟨m,rfl⟩:∃ m:Nat,i=m:=⟨i.toNat,by omega⟩
 exact Hs s m b (by omega) a
end
end Go.AM.R1
namespace Go.AM
def l0{B:aV}{r:List aV}(h:B≠.qV)(k:mv r=ab):mv (B::r)=ab:=by
 cases B <;> first|exact k|exact absurd rfl h
section
variable {P:aq}{X:Cx P}{N:Nat}{Qf:Post}{φ:Fr}{σ:List aV}
def AK.iF{Q a:Post}(h:∀ e φ σ,Q e φ σ->a e φ σ):∀ {K:List It}{e:Exit}{φ:Fr}{σ:List aV},AK X N Q K e φ σ->AK X N a K e φ σ
 |[],e,φ,σ,q=>h e φ σ q
 |.code c::K,.normal,φ,σ,q=>AW.mono q λ_ _ _ q=>AK.iF h q
 |.code c::K,.exit _,φ,σ,q=>AK.iF (K:=K) h q
 |.code c::K,.ret,φ,σ,q=>AK.iF (K:=K) h q
 |.code c::K,.panic _,φ,σ,q=>AK.iF (K:=K) h q
 |.code c::K,.goto _,φ,σ,q=>AK.iF (K:=K) h q
 |.code c::K,.outgrown,φ,σ,q=>AK.iF (K:=K) h q
 |.blk id::K,.exit I7,φ,σ,q=>by
  simp only[AK] at q ⊢;split
  .rename_i e;rw[bd e] at q;exact AK.iF (K:=K) h q
  .rename_i e;rw[aY e] at q;exact AK.iF (K:=K) h q
 |.blk id::K,.normal,φ,σ,q=>AK.iF (K:=K) h q
 |.blk id::K,.ret,φ,σ,q=>AK.iF (K:=K) h q
 |.blk id::K,.panic _,φ,σ,q=>AK.iF (K:=K) h q
 |.blk id::K,.goto _,φ,σ,q=>AK.iF (K:=K) h q
 |.blk id::K,.outgrown,φ,σ,q=>AK.iF (K:=K) h q
 |.ops all rest::K,.normal,φ,σ,q=>jB.mono q λ_ _ q=>AK.iF h q
 |.ops all rest::K,.exit _,φ,σ,q=>AK.iF (K:=K) h q
 |.ops all rest::K,.ret,φ,σ,q=>AK.iF (K:=K) h q
 |.ops all rest::K,.panic _,φ,σ,q=>AK.iF (K:=K) h q
 |.ops all rest::K,.goto _,φ,σ,q=>AK.iF (K:=K) h q
 |.ops all rest::K,.outgrown,φ,σ,q=>AK.iF (K:=K) h q
def AK.Kc{id:Nat}{A:Fr->List aV->Prop}{a c b:List It}(h1:kP id a=af)(h2:kP id c=aa b)(k:AK X N Qf b .normal φ σ) :
  AK X N (FZ A (AK X N Qf c)) (.code (.exit id)::a) .normal φ σ :=
 AK.iF (λe d σ' q=>by cases e <;> exact q) (AK.leave (X:=X) (N:=N) (Qr:=Qf) (A:=A) (φ:=φ) (σ:=σ) h1 h2 k)
end
end Go.AM
namespace Go.AM.R1
section
open Go.Proofs
variable {X:Cx ah}
abbrev Qd(t:Bs):C:=.fn (.func 177) [] [.rp [.str t]]
def Oo(t:Bs):Ev X 147 [dS t] [] (.e (.one (.c (Qd t)))) []:=by
 refine Ev.bQ Tryz.func147 rfl λa=>?_
 refine aX [] 5 rfl av ?_;refine AK.freeze 1 0 rfl rfl rfl ?_;refine bk rfl av (AK.bn rfl ?_);simp[ag]
def Ht{T:Type}(text:Bs)(u:b8 text=ab)(v:text.length<=4000000){j:Nat}{a:Fr}{k:Loop}(g B1 B2:T->aV)(R:Nat->T->Prop)(l:T)(q:R 0 l)(n:∀ t,g t≠.qV/\B1 t≠.qV/\B2 t≠.qV)
  (b:∀ f t,f<text.length->R f t->Yields (ι:={ d:T // R (cutAt text f) d }) X 3 [dI f,dI (cutAt text f)] [g t,B1 t,B2 t,.loop j a k] ab (λd=>[g d.1,B1 d.1,B2 d.1,.loop j a k])) :
  cM (ι:={ t:T // R text.length t }) X 177 [.e (.one (.ref 3)),.e (.one (.c (.rp [.str text])))] [g l,B1 l,B2 l,.loop j a k] (λ_=>.eK []) (λi=>[g i.1,B1 i.1,B2 i.1,.loop j a k]):=by
 refine cM.mV Tryz.func177 rfl rfl rfl (AK.of_code ?_);have m:bD X [(178,p9 aS aI (λs i=>dI (cutAt s i.toNat)) λs i=>[b8 s=ab,0<=i,i<=s.length,s.length<=4000000])]:=.cons RR .nil
 refine aC m [] 100 rfl av ?_;show AW X _ (.loop _) _ _ _;refine AW.loop (S:=T×Nat) (λx=>x.2<=text.length/\R x.2 x.1) (λx=>[(0,.e (.one (.ref 3))),(1,.e (.one (.c (.rp [.str text])))),(3,dI x.2)]) (λx=>[g x.1,B1 x.1,B2 x.1,.loop j a k]) (λx=>text.length-x.2) (l,0) ⟨gD _,q⟩ (dh rfl (by simp[ag,ag.cat])) rfl ?_
 rintro⟨t,f⟩ ⟨r,o⟩;simp only at r o;refine AK.of_code ?_
 by_cases h:f<text.length
 .have p:=nq text f h;refine aC m [(8,ab)] 100 rfl ?_ ?_
  .simp only[ag,u,ba,eq_self,aF,aE];omega
  refine AK.yield (b f t h o) rfl rfl rfl rfl rfl rfl λd=>?_
  refine aC m [(16,ae)] 100 rfl ?_ ?_
  .simp[ag]
  refine⟨(d.1,cutAt text f),⟨p.2.1,d.2⟩,?_,dh rfl (by simp[ag,ag.cat]),rfl⟩
  simp only;omega
 .have e:f=text.length:=by omega
  subst e;refine aC m [(8,ae)] 100 rfl ?_ ?_
  .simp[ag]
  refine AK.Kc rfl rfl ?_;exact⟨⟨t,o⟩,.inr rfl,rfl,l0 (n t).1 (l0 (n t).2.1 (l0 (n t).2.2 rfl)),[],.eK [],[],rfl,rfl,rfl,av⟩
def Gc{l:List Bs}{i:Nat}(h:i<l.length):l.getD i []=l[i]:=by simp[ai,br h]
def RJ(a b:List Bs):Ev X 81 [cS.sl a,cS.sl b] [] (dB (a==b)) []:=by
 refine Ev.bQ Tryz.func81 rfl λl=>?_
 have k:=l.sl 0 rfl
 by_cases g:a.length=b.length
 .refine aX [(10,ae)] 100 rfl (by simp[ag,g]) ?_
  refine AK.jP (λi=>i<=a.length/\∀ j,j<i->a.getD j []=b.getD j []) (λi:Nat=>[(0,cS.sl a),(1,cS.sl b),(12,dI a.length),(13,dI i)]) (λ_=>[]) (λi=>a.length-i) 0 rfl ?_ rfl av ⟨by omega,by omega⟩ ?_
  .simp[ag.cat,ag,aP.same]
  rintro i ⟨hi,c⟩
  by_cases h:i<a.length
  .by_cases d:a.getD i []=b.getD i []
   .refine aX [(14,ab),(24,ae)] 100 rfl ?_ (AK.fW (i+1) rfl ?_ rfl av ?_ ?_)
    .simp only[ag,bA];have e:(a.getD i cS.bE==b.getD i cS.bE)=ab:=fS.2 d;exact⟨by simp only[bx];omega,by rw[e];rfl,by omega,by omega,by omega,by omega,cn (by omega)⟩
    .simp[ag.cat,ag,aP.same]
    .refine⟨by omega,λj f=>?_⟩
     rcases sS.1 f with f|rfl
     .exact c j f
     .exact d
    .omega
   .refine aX [(14,ab),(24,ab)] 100 rfl ?_ (AK.gK (b6.zero rfl ?_))
    .simp only[ag,bA];have e:(a.getD i cS.bE==b.getD i cS.bE)=ae:=dt.2 d;exact⟨by rw[e];rfl,by omega,by omega,by omega,by omega,cn (by omega)⟩
    .have:(a==b)=ae:=dt.2 (by rintro rfl;exact d rfl)
     simp[ag,this]
  .refine aX [(14,ae)] 100 rfl (by simp[ag];omega) (AK.leave rfl rfl ?_)
   refine bk rfl av (AK.bn rfl ?_);have:a=b:=pI g λj d m=>by rw[<-Gc d,<-Gc m];exact c j (by omega)
   simp[ag,this]
 .refine aX [(10,ab)] 100 rfl ?_ (AK.bn rfl ?_)
  .simp[ag];omega
  .have:(a==b)=ae:=dt.2 (by rintro rfl;exact g rfl)
   simp[ag,this]
def lL:∀ (l:List UInt8)(c:UInt8),Lib.indexByte l c<l.length∨Lib.indexByte l c=-1
 |[],c=>.inr (by rw[Lib.indexByte.eq_def])
 |b::l,c=>by
  have e:=lL l c;rw[Lib.indexByte.eq_def];simp only[fa];split
  .left;omega
  .split
   .right;rfl
   .rename_i d a
    left
    simp at a;omega
set_option maxRecDepth 20000 in
theorem A7(s:Bs)(c:UInt8):Ev X 221 [dS s,dU c.toNat] [] (dI (Lib.indexByte s c)) []:=by
 refine Ev.bQ Tryz.func221 rfl λq=>?_
 have B:=q.str 0 rfl;refine bk rfl av ?_;refine AK.one (x:=dI (Lib.indexByte s c)) (σ':=[]) ?_ rfl ?_
 .refine OA.md (λ_ _ _ _=>dv (by rfl)) ?_
  refine bH.nS λst ρ u k=>?_
  have o:=fy (k (.tmp 5));have p:=fy (k (.tmp 6));generalize g:ρ (.tmp 5)=v1 at o;generalize j:ρ (.tmp 6)=v2 at p;cases o with
  |str e1 l1 =>
  cases p with
  |int l2 =>
  have h:ρ (.func 240)=.func (.func 240) #[] #[]:=by
   have:=fy (k (.func 240));generalize ρ (.func 240)=v at this;cases this with
   |fn fs cs a b y A c1 c2 d1 d2 =>
    have:fs=[]:=hZ a;subst this;have:cs=[]:=hZ b;subst this;rfl
  have f:(callFunc 240 #[.string ‹ByteArray›,.int .u8 c.toNat]).run ah st.w=.ok (.value (.int .i64 (Lib.indexByte s c))) st.w:=by
   rw[run_callFunc_extern Tryz.func240 (by kernel_rfl) (by kernel_rfl) (by kernel_rfl) (e:=Extern.BytealgIndexByte.indexByte) (by kernel_rfl),Lib.run_indexByteString]
   subst e1;simp
  have l:cO ah (Extern.BytealgIndexByte.indexByte #[.string ‹ByteArray›,.int .u8 c.toNat]):=by
   refine cO.bind (m:=Extern.Bytes.bytesOf (.string ‹ByteArray›)) (λ_ _=>rfl) λb=>cO.bind (m:=Extern.Bytes.asByte (.int .u8 c.toNat)) (λ_ _=>?_) λd=>?_
   .simp[Extern.Bytes.asByte]
   .skip
    split <;> exact .pure
  have i:=lT Tryz.func240 (by kernel_rfl) (by kernel_rfl) (by kernel_rfl) (e:=Extern.BytealgIndexByte.indexByte) (by kernel_rfl) _ l st.w #[]
  refine⟨.int .i64 (Lib.indexByte s c),?_,Rd.int ?_,?_⟩
  rotate_left 2
  .intro t n;simp[ay,resolve,Deferred.ofValue,invoke,g,j,h,i] at n;subst n;exact .inr ⟨_,rfl⟩
  .simp[ay,resolve,Deferred.ofValue,invoke,g,j,h,f]
  .have r:=Lib.indexByte_ge s c;have z:=lL s c;simp only[bx];omega
 .refine bk rfl av (AK.bn rfl ?_);simp[ag]
end
end Go.AM.R1
namespace Go.AM
abbrev Pe(a b:Bs)(c:Bool):D:=.eK [.one (.c (.str a)),.one (.c (.str b)),.one (.c (.bool c))]
namespace R1
open Go.Proofs
variable {X:Cx ah}
def x7(s:Bs) (c:Int)(h:0<=c/\c<=255):Ev X 221 [dS s,dU c] [] (dI (Lib.indexByte s (UInt8.ofNat (Int.toNat c)))) []:=by
 have e:c=((UInt8.ofNat c.toNat).toNat:Int):=by
  grind [UInt8.toNat_ofNat']
 grind [A7]
def SM:dk:=λargs σ=>match args,σ with
 |[.e (.one (.c (.str a))),.e (.one (.c (.int .u8 b)))],[]=>aa (dI (Lib.indexByte a (UInt8.ofNat (Int.toNat b))),[],[0<=b/\b<=255])
 |_,_=>af
def t221:dM X 221 SM:=by
 intro args σ res σ' obs h a;unfold SM at h;split at h
 .cases h;exact(x7 _ _ (a)).args (λ_ _ r=>r)
 grind
def Vv:List (Nat×dk):=(221,SM)::ct7
def Mo:bD X Vv:=bD.cons t221 (Za)
def iA(s:Bs):Int:=Lib.indexByte s 47
theorem Mp(s:Bs):Ev X 196 [dS s,dS [47]] [] (dI (iA s)) []:=by
 refine Ev.bQ Tryz.func196 rfl λa=>?_
 by_cases h:s=[47]
 .subst h;refine aC Mo [(18,ae),(22,ab)] 100 rfl ?_ (AK.bn rfl ?_)
  .simp[ag]
  .simp[ag,iA,Lib.indexByte.eq_def]
 .refine aC Mo [(18,ae),(22,ae),(26,ab)] 100 rfl ?_ (AK.bn rfl ?_)
  .simp[ag,cA,cB];grind
  .simp[ag,iA,iS]
def SN:dk:=λargs σ=>match args,σ with
 |[.e (.one (.c (.str a))),.e (.one (.c (.str [47])))],[]=>aa (dI (iA a),[],[])
 |_,_=>af
def t196:dM X 196 SN:=by
 intro args σ res σ' obs h a;unfold SN at h
 grind [Mp]
def Vw:List (Nat×dk):=(196,SN)::Vv
def Mq:bD X Vw:=bD.cons t196 (Mo)
def ju(s:Bs):Bs:=if 0<=iA s then s.take (iA s).toNat else s
def mI(s:Bs):Bs:=if 0<=iA s then s.drop ((iA s).toNat+1) else []
def j3(s:Bs):Bool:=decide (0<=iA s)
theorem Mr(s:Bs):Ev X 179 [dS s,dS [47]] [] (Pe (ju s) (mI s) (j3 s)) []:=by
 refine Ev.bQ Tryz.func179 rfl λc=>?_
 have d:=c.str 0 rfl;have a:=lL s 47
 change iA s<s.length∨iA s=-1 at a
 by_cases h:0<=iA s
 .have b:(iA s+1).toNat=(iA s).toNat+1:=by omega
  refine aC Mq [(12,ab)] 100 rfl ?_ (AK.bn rfl ?_)
  .simp[ag,h,bx];omega
  .simp[ag,ag.cat,ju,mI,j3,h,rT,b]
 .refine aC Mq [(12,ae)] 100 rfl ?_ (AK.bn rfl ?_)
  .simp[ag];omega
  .simp[ag,ag.cat,ju,mI,j3,h]
def SP:dk:=λargs σ=>match args,σ with
 |[.e (.one (.c (.str a))),.e (.one (.c (.str [47])))],[]=>aa (Pe (ju a) (mI a) (j3 a),[],[])
 |_,_=>af
def t179:dM X 179 SP:=by
 intro args σ res σ' obs h a;unfold SP at h
 grind [Mr]
def Vx:List (Nat×dk):=(179,SP)::Vw
def Qv:bD X Vx:=bD.cons t179 (Mq)
theorem SQ(s:Bs):Ev X 148 [dS s,dS [47]] [] (Pe (ju s) (mI s) (j3 s)) []:=by
 refine Ev.bQ Tryz.func148 rfl λa=>?_
 refine aC Qv [] 100 rfl av (AK.bn rfl ?_);simp[ag,ag.cat]
def SR:dk:=λargs σ=>match args,σ with
 |[.e (.one (.c (.str a))),.e (.one (.c (.str [47])))],[]=>aa (Pe (ju a) (mI a) (j3 a),[],[])
 |_,_=>af
def t148:dM X 148 SR:=by
 intro args σ res σ' obs h a;unfold SR at h
 grind [SQ]
def cw(s:Bs):Bool:=decide (s.length=1)&&decide (97<=cB s 0)&&decide (cB s 0<=101)
theorem uL(s:Bs):Ev X 149 [dS s] [] (dB (cw s)) []:=by
 refine Ev.bQ Tryz.func149 rfl λc=>?_
 by_cases a:s.length=1
 .by_cases b:97<=cB s 0
  .refine aX [(5,ab),(9,ab)] 100 rfl ?_ (AK.bn rfl ?_)
   .simp only[ag,ba];grind [cA]
   .show decide (cB s 0<=101)=cw s;simp[cw,a,b]
  .refine aX [(5,ab),(9,ae)] 100 rfl ?_ (AK.bn rfl ?_)
   .simp only[ag,bM];grind [cA]
   .simp[ag,cw,b]
 .refine aX [(5,ae)] 100 rfl ?_ (AK.bn rfl ?_)
  .simp[ag];omega
  .simp[ag,cw,a]
def SU:dk:=λargs σ=>match args,σ with
 |[.e (.one (.c (.str a)))],[]=>aa (dB (cw a),[],[])
 |_,_=>af
def t149:dM X 149 SU:=by
 intro args σ res σ' obs h a;unfold SU at h
 grind [uL]
def Vy:List (Nat×dk):=(148,SR)::(149,SU)::Vx
def GD:bD X Vy:=bD.cons t148 (bD.cons t149 (Qv))
def eW(s:Bs):Bool:=cw (ju s)&&(!j3 s||cw (mI s))
theorem Fh(s:Bs):Ev X 83 [dS s] [] (dB (eW s)) []:=by
 refine Ev.bQ Tryz.func83 rfl λc=>?_
 cases a:cw (ju s) with
 |false =>
  refine aC GD [(13,ae)] 100 rfl ?_ (AK.bn rfl ?_)
  .simp[ag,a]
  .simp[ag,eW,a]
 |true =>
  cases b:j3 s with
  |false =>
   refine aC GD [(13,ab),(15,ae)] 100 rfl ?_ (AK.bn rfl ?_)
   .simp[ag,a,b]
   .simp[ag,eW,a,b]
  |true =>
   refine aC GD [(13,ab),(15,ab)] 100 rfl ?_ (AK.bn rfl ?_)
   .simp[ag,a,b]
   .simp[ag,eW,a,b]
def Zb:dk:=λargs σ=>match args,σ with
 |[.e (.one (.c (.str a)))],[]=>aa (dB (eW a),[],[])
 |_,_=>af
def t83:dM X 83 Zb:=by
 intro args σ res σ' obs h a;unfold Zb at h
 grind [Fh]
theorem C9(s:Bs):Ev X 146 [dS s] [] (dB (b8 s)) []:=by
 refine Ev.bQ Tryz.func146 rfl λe=>?_
 have f:=e.str 0 rfl;refine bk rfl av ?_;refine AK.jP (λi=>i<=s.length/\∀ j,j<i->eG (s.getD j 0)=ab) (λi:Nat=>[(0,dS s),(5,dI s.length),(6,dI i)]) (λ_=>[]) (λi=>s.length-i) 0 rfl ?_ rfl av ⟨by omega,by omega⟩ ?_
 .simp[ag.cat,ag]
 rintro i ⟨hi,c⟩
 by_cases h:i<s.length
 .generalize a:s.getD i 0=b
  by_cases g:b.toNat<97
  .refine aX [(7,ab),(12,ab)] 100 rfl ?_ (AK.gK (b6.zero rfl ?_))
   .simp only[ag,ky,ba,a];omega
   .rw[ag,kG h (by rw[a];simp only[eG,ra,bM];omega)]
  .by_cases k:b.toNat>122
   .refine aX [(7,ab),(12,ae),(17,ab)] 100 rfl ?_ (AK.gK (b6.zero rfl ?_))
    .simp only[ag,ky,ba,bM,a];omega
    .rw[ag,kG h (by rw[a];simp only[eG,ra,bM];omega)]
   .refine aX [(7,ab),(12,ae),(17,ae)] 100 rfl ?_ (AK.fW (i+1) rfl ?_ rfl av ?_ ?_)
    .simp only[ag,ky,ba,bM,a,bx];omega
    .simp[ag.cat,ag]
    .refine⟨by omega,λj d=>?_⟩
     rcases sS.1 d with d|rfl
     .grind
     .rw[a];simp only[eG,bL,ba];omega
    .omega
 .refine aX [(7,ae)] 100 rfl (by simp[ag];omega) (AK.leave rfl rfl ?_)
  refine bk rfl av (AK.bn rfl ?_);rw[ag,sH (λj d=>c j (by omega))]
def SV:dk:=λargs σ=>match args,σ with
 |[.e (.one (.c (.str a)))],[]=>aa (dB (b8 a),[],[])
 |_,_=>af
def t146:dM X 146 SV:=by
 intro args σ res σ' obs h a;unfold SV at h
 grind [C9]
def Vz:List (Nat×dk):=(83,Zb)::(146,SV)::Vy
def Ms:bD X Vz:=bD.cons t83 (bD.cons t146 (GD))
theorem wH(s:Bs):Ev X 80 [dS s] [] (dB (dZ s)) []:=by
 refine Ev.bQ Tryz.func80 rfl λb=>?_
 by_cases a:s.length<=40
 .refine aC Ms [(5,ab)] 100 rfl ?_ (AK.bn rfl ?_)
  .simp[ag];omega
  .simp[ag,dZ,a]
 .refine aC Ms [(5,ae)] 100 rfl ?_ (AK.bn rfl ?_)
  .simp[ag];omega
  .simp[ag,dZ,a]
def Zc:dk:=λargs σ=>match args,σ with
 |[.e (.one (.c (.str a)))],[]=>aa (dB (dZ a),[],[])
 |_,_=>af
def t80:dM X 80 Zc:=by
 intro args σ res σ' obs h a;unfold Zc at h
 grind [wH]
def ll(s p:Bs):Bool:=decide (p.length<=s.length)&&(s.take p.length==p)
theorem Da(s p:Bs):Ev X 151 [dS s,dS p] [] (dB (ll s p)) []:=by
 refine Ev.bQ Tryz.func151 rfl λb=>?_
 by_cases a:p.length<=s.length
 .refine aX [(9,ab)] 100 rfl ?_ (AK.bn rfl ?_)
  .simp[ag,a]
  .simp[ag,ll,a,rT]
 .refine aX [(9,ae)] 100 rfl ?_ (AK.bn rfl ?_)
  .simp[ag];omega
  .simp[ag,ll,a]
def SW:dk:=λargs σ=>match args,σ with
 |[.e (.one (.c (.str a))),.e (.one (.c (.str b)))],[]=>aa (dB (ll a b),[],[])
 |_,_=>af
def t151:dM X 151 SW:=by
 intro args σ res σ' obs h a;unfold SW at h
 grind [Da]
def VA:List (Nat×dk):=(80,Zc)::(151,SW)::Vz
def Qw:bD X VA:=bD.cons t80 (bD.cons t151 (Ms))
theorem IA(s p:Bs):Ev X 86 [dS s,dS p] [] (dB (ll s p)) []:=by
 refine Ev.bQ Tryz.func86 rfl λa=>?_
 refine aC Qw [] 100 rfl av (AK.bn rfl ?_);simp[ag]
def Zd:dk:=λargs σ=>match args,σ with
 |[.e (.one (.c (.str a))),.e (.one (.c (.str b)))],[]=>aa (dB (ll a b),[],[])
 |_,_=>af
def t86:dM X 86 Zd:=by
 intro args σ res σ' obs h a;unfold Zd at h
 grind [IA]
def VB:List (Nat×dk):=(86,Zd)::VA
def Qx:bD X VB:=bD.cons t86 (Qw)
end R1
def hY.Mt{α:Type}(c:hY α)(l:List α)(k n:Nat)(h:k+n<=l.length):c.list n (jL k (c.fn l))=(l.drop k).take n:=by
 apply pI
 .simp[hY.list];omega
 .intro i h1 h2;have hi:i<n:=by grind
  simp[hY.list,jL,hY.fn,sQ,ai,br (by omega:k+i<l.length),c.inv]
def hY.Mv{α:Type}(c:hY α)(l:List α){k n:Nat}:c.fits n (jL k (c.fn l)):=λi _=>by simp[jL,hY.fn,sQ,c.inv]
abbrev dR(p x:Bs):D:=.e (.one (.c (.rp [.str p,.str x])))
namespace R1
open Go.Proofs
variable {X:Cx ah}
def under(p q:Bs):Bool:=ll p (q++[47])
def Mw(a:bC)(p x:Bs)(h:a.1.length<=4000000):Ev X 85 [dP a,dR p x] [] (dB (under p a.1)) []:=by
 refine Ev.bQ Tryz.func85 rfl λb=>?_
 refine aC Qx [] 100 rfl ?_ (AK.bn rfl ?_)
 .simp[ag];omega
 .simp[ag,under]
def Ze:dk:=λargs σ=>match args,σ with
 |[.e (.agg [.c (.str a0),.c (.str a1)]),.e (.one (.c (.rp [.str p,.str x])))],[]=>aa (dB (under p a0),[],[a0.length<=4000000/\a1=a1/\x=x])
 |_,_=>af
def t85:dM X 85 Ze:=by
 intro args σ res σ' obs h b;unfold Ze at h;split at h
 .rename_i c a p x
  cases h;exact Mw (c,a) p x b.1
 grind
def VC:List (Nat×dk):=(85,Ze)::VB
def zb:bD X VC:=bD.cons t85 (Qx)
abbrev Mx(p x:Bs):D:=.e (.one (.c (.fn (.func 85) [] [.rp [.str p,.str x]])))
def uM(t:List bC)(p:Bs):Int:=match t.findIdx? (λf=>under p f.1) with|some i=>i|none=>-1
def Pf{t:List bC}{p:Bs}{i:Nat}(hi:i<t.length)(h:under p (fz t i)=ab)(a:∀ j,j<i->under p (fz t j)=ae):uM t p=i:=by
 have:t.findIdx? (λf=>under p f.1)=aa i:=by
  grind [List.findIdx?_eq_some_iff_getElem,fileAt]
 rw[uM,this]
theorem zc{t:List bC}{p:Bs}(a:∀ j,j<t.length->under p (fz t j)=ae):uM t p=-1:=by
 have:t.findIdx? (λf=>under p f.1)=af:=by
  grind [List.getElem_of_mem,fileAt]
 rw[uM,this]
def Pg(t:List bC)(p x:Bs)(f:∀ j,j<t.length->(fz t j).length<=4000000):Ev X 150 [cF.sl t,Mx p x] [] (dI (uM t p)) []:=by
 refine Ev.bQ Tryz.func150 rfl λd=>?_
 have c:=d.sl 0 rfl;refine aC zb [] 100 rfl av ?_;refine AK.jP (λi=>i<=t.length/\∀ j,j<i->under p (fz t j)=ae) (λi:Nat=>[(0,cF.sl t),(1,Mx p x),(7,dI t.length),(8,dI i)]) (λ_=>[]) (λi=>t.length-i) 0 rfl ?_ rfl av ⟨by omega,by omega⟩ ?_
 .simp[ag.cat,ag,aP.same]
 rintro i ⟨hi,a⟩
 by_cases h:i<t.length
 .have e:=f i h;cases b:under p (fz t i) with
  |true =>
   refine aC zb [(9,ab),(16,ab)] 100 rfl ?_ (AK.gK (b6.zero rfl ?_))
   .simp[-ai,ag,h,gZ,b];omega
   .simp[ag,Pf h b a]
  |false =>
   refine aC zb [(9,ab),(16,ae)] 100 rfl ?_ (AK.fW (i+1) rfl ?_ rfl av ?_ ?_)
   .simp[-ai,ag,h,gZ,b,bx];omega
   .simp[ag.cat,ag,aP.same]
   .grind
   .omega
 .refine aC zb [(9,ae)] 100 rfl (by simp[ag];omega) (AK.leave rfl rfl ?_)
  refine aC zb [] 100 rfl av (AK.bn rfl ?_);simp[ag,zc (λj g=>a j (by omega))]
def A8(t:List bC):Prop:=∀ j,j<t.length->(fz t j).length<=4000000
def SX:dk:=λargs σ=>match args,σ with
 |[d,.e (.one (.c (.fn (.func 85) [] [.rp [.str p,.str x]])))],[]=>match kR 2 d with
  |none=>af
  |some (n,es)=>aa (dI (uM (cF.list n es) p),[],[cF.fits n es,A8 (cF.list n es),x=x])
 |_,_=>af
def t150:dM X 150 SX:=by
 intro args σ res σ' obs h a;unfold SX at h;split at h
 .rename_i d p x
  split at h
  .cases h
  rename_i n es hd
  cases h;exact(Pg _ p x a.2.1).args (λ_ vs=>cz.imp (λ_=>cF.jS hd a.1) (cz.imp (λ_ r=>r) (λ_ r=>r)) vs)
 grind
def VD:List (Nat×dk):=(150,SX)::VC
def Qy:bD X VD:=bD.cons t150 (zb)
def Ph(t:List bC)(p x:Bs)(a:A8 t):Ev X 84 [cF.sl t,Mx p x] [] (dB (decide (0<=uM t p))) []:=by
 refine Ev.bQ Tryz.func84 rfl λb=>?_
 refine aC Qy [] 100 rfl ?_ (AK.bn rfl ?_)
 .simp[ag,cF.aH,cF.list_fn,a]
 .simp[ag,cF.list_fn]
def Zf:dk:=λargs σ=>match args,σ with
 |[d,.e (.one (.c (.fn (.func 85) [] [.rp [.str p,.str x]])))],[]=>match kR 2 d with
  |none=>af
  |some (n,es)=>aa (dB (decide (0<=uM (cF.list n es) p)),[],[cF.fits n es,A8 (cF.list n es),x=x])
 |_,_=>af
def t84:dM X 84 Zf:=by
 intro args σ res σ' obs h a;unfold Zf at h;split at h
 .rename_i d p x
  split at h
  .cases h
  rename_i n es hd
  cases h;exact(Ph _ p x a.2.1).args (λ_ vs=>cz.imp (λ_=>cF.jS hd a.1) (cz.imp (λ_ r=>r) (λ_ r=>r)) vs)
 grind
def Zg:List (Nat×dk):=(84,Zf)::VD
def qt:bD X Zg:=bD.cons t84 (Qy)
def jf(t:List bC)(i:Nat):Bool :=
 eW (fz t i)&&dZ (AJ t i)&&(i==0||!(bl (fz t i) (fz t (i-1))||fz t i==fz t (i-1)))&&(bh i).all λj=>!under (fz t i) (fz t j)
def og(t:List bC):Bool:=(bh t.length).all (jf t)&&decide (t.length<=6)
def kH{t:List bC}{i:Nat}(hi:i<t.length)(h:jf t i=ae):og t=ae:=by
 cases a:og t with
 |false=>rfl
 |true =>
  simp only[og,bL] at a
  grind
theorem ug{s:Bs}(h:eW s=ab):s.length<=3:=by
 simp only[eW,cw,bL,mP,ba,jh] at h;obtain⟨⟨⟨d,_⟩,_⟩,a⟩:=h;have c:=lL s 47
 change iA s<s.length∨iA s=-1 at c
 by_cases b:0<=iA s
 .simp only[ju,b,cu,List.length_take] at d;rcases a with a|a
  .simp[j3,b] at a
  .have:=a.1.1;simp only[mI,b,cu,me] at this;omega
 .simp only[ju,b,cd] at d;omega
def Fi{t:List bC}{p:Bs}{i:Nat}(hi:i<=t.length):decide (0<=uM (t.take i) p)=!(bh i).all λj=>!under p (fz t j):=by
 have e:∀ j,j<i->fz (t.take i) j=fz t j:=by
  intro j d;simp[fz,ai,d]
 cases g:(bh i).all λj=>!under p (fz t j) with
 |true =>
  grind [zc]
 |false =>
  have b:∃ j,j<i/\under p (fz t j)=ab:=by
   grind
  have:∃ k:Nat,uM (t.take i) p=k:=by
   unfold uM;cases c:(t.take i).findIdx? (λf=>under p f.1) with
   |some k=>grind
   |none =>
    obtain⟨j,d,h⟩:=b;rw[qX] at c;have a:j<(t.take i).length:=by grind
    have:=c _ (nG a)
    grind [fileAt]
  grind
def EA(t:List bC):Ev X 45 [cF.sl t] [] (dB (og t)) []:=by
 refine Ev.bQ Tryz.func45 rfl λz=>?_
 have u:=z.sl 0 rfl;refine aC qt [] 100 rfl av ?_;refine AK.bP 0 (λi=>i<=t.length/\∀ j,j<i->jf t j=ab) (λi:Nat=>[(0,cF.sl t),(5,cF.sl t),(6,dI t.length),(7,dI i)]) (λ_=>[]) (λi=>t.length-i) 0 rfl ?_ rfl av rfl ⟨by omega,by omega⟩ ?_
 .simp[ag.cat,ag,aP.same]
 rintro i ⟨hi,k⟩
 by_cases h:i<t.length
 .cases d:eW (fz t i) with
  |false =>
   refine aC qt [(8,ab),(14,ae)] 200 rfl ?_ (AK.eh (b6.zero rfl ?_))
   .simp[-ai,ag,h,gZ,d]
   .simp[ag,kH h (by simp[jf,d])]
  |true =>
   cases f:dZ (AJ t i) with
   |false =>
    refine aC qt [(8,ab),(14,ab),(19,ae)] 200 rfl ?_ (AK.eh (b6.zero rfl ?_))
    .simp[-ai,ag,h,gZ,pz,d,f]
    .simp[ag,kH h (by simp[jf,f])]
   |true =>
    have x:A8 (t.take i):=by
     intro j y;simp only[List.length_take] at y;have e:fz (t.take i) j=fz t j:=by simp[fz,ai,(by omega:j<i)]
     rw[e];have:=k j (by omega)
     simp only[jf,bL] at this
     grind [ug]
    have w:cF.list ((i:Int).toNat-0) (jL 0 (cF.fn t))=t.take i:=by rw[cF.Mt t 0 _ (by grind)];simp
    cases s:(i==0||!(bl (fz t i) (fz t (i-1))||fz t i==fz t (i-1))) with
    |false =>
     have a:jf t i=ae:=by simp only[jf,s];simp
     have l:i≠0:=by grind
     have n:(bl (fz t i) (fz t (i-1))||fz t i==fz t (i-1))=ab:=by
      grind
     have b:bx .i64 ((i:Int)-1):=by simp only[bx];omega
     have o:((i:Int)-1).toNat=i-1:=by omega
     refine aC qt [(8,ab),(14,ab),(19,ab),(24,ab),(34,ab)] 200 rfl ?_ (AK.eh (b6.zero rfl ?_))
     .simp only[ag,gZ,pz,bA,o,n,d,f,ba,b];grind
     .simp[ag,kH h a]
    |true =>
     have a:jf t i=(bh i).all λj=>!under (fz t i) (fz t j):=by simp only[jf,s,d,f];simp
     apply AK.join [(0,cF.sl t),(3,dI i),(5,cF.sl t),(6,dI t.length),(7,dI i),(4,.e (.one (.ptr 0 0)))] [.cells 60 [.c (.str (fz t i)),.c (.str (AJ t i))]]
     .intro q
      by_cases l:i=0
      .refine aC qt [(8,ab),(14,ab),(19,ab),(24,ae),(1000006,ab)] 200 rfl ?_ (q _ _ rfl ?_)
       .simp only[ag,gZ,pz,bA,d,f,ba,bM];grind
       .simp[ag.cat,ag,aP.same]
      .have n:(bl (fz t i) (fz t (i-1))||fz t i==fz t (i-1))=ae:=by
        grind
       have b:bx .i64 ((i:Int)-1):=by simp only[bx];omega
       have o:((i:Int)-1).toNat=i-1:=by omega
       refine aC qt [(8,ab),(14,ab),(19,ab),(24,ab),(34,ae),(1000006,ab)] 200 rfl ?_ (q _ _ rfl ?_)
       .simp only[ag,gZ,pz,bA,o,n,d,f,ba,b];grind
       .simp[ag.cat,ag,aP.same]
     .refine AK.freeze 4 0 rfl rfl rfl ?_;have r:=Fi (t:=t) (p:=fz t i) (i:=i) hi;have g:cF.fits ((i:Int).toNat-0) (jL 0 (cF.fn t)):=cF.Mv t;cases v:(bh i).all λj=>!under (fz t i) (fz t j) with
      |false =>
       rw[v] at r a;refine aC qt [(41,ab)] 200 rfl ?_ (AK.eh (b6.zero rfl ?_))
       .simp only[ag,cv]
        grind
       .simp[ag,kH h a]
      |true =>
       rw[v] at r a;refine aC qt [(41,ae)] 200 rfl ?_ (AK.aQ (i+1) rfl ?_ ?_ ?_ ?_)
       .simp only[ag,cv];have m:decide (0<=uM (cF.list ((i:Int).toNat-0) (jL 0 (cF.fn t))) (fz t i))=ae:=by grind
        exact⟨by simp only[bx];omega,g,by grind,av,m,by omega,by omega⟩
       .simp[ag.cat,ag,aP.same]
       .trivial
       .grind
       .omega
 .have:i=t.length:=by omega
  subst this;refine aC qt [(8,ae)] 100 rfl (by simp[ag]) (AK.leaveD rfl rfl ?_)
  refine aC qt [] 100 rfl av (AK.bn rfl ?_);simp only[ag,og]
  grind
end R1
end Go.AM
namespace Go.AM.R1
section
open Go.Proofs
variable {X:Cx ah}
def lG(t:Bs):List Bs:=if dZ t then pieces t else []
def Qe(t:Bs)(f:Nat)(acc:List Bs):Prop:=∃ k,fg t t.length 0=acc++fg t k f/\t.length<=f+k/\acc.length<=f
def Ge:dM X 80 (jZ aS (λs=>dB (dZ s)) λ_=>[]):=.ox λs _=>wH s
def KT:dk:=λargs σ=>match args,σ with
 |[.e (.one (.c (.str t)))],[]=>aa (.e (.one (.c (Qd t))),[],[])
 |_,_=>af
def RS:dM X 147 KT:=by
 intro args σ res σ' obs h a;unfold KT at h;split at h
 .cases h;exact Oo _
 .cases h
def Hu(t:Bs):Ev X 82 [dS t] [] (cS.sl (lG t)) []:=by
 refine(cM.z9 (ι:=Unit) (σ':=λ_=>[]) (res:=λ_=>cS.sl (lG t)) Tryz.func82 rfl rfl rfl λu=>?_).uA
 have m:bD X [(80,jZ aS (λs=>dB (dZ s)) λ_=>[])]:=.cons Ge .nil
 refine nD.seq (AW.top (AK.of_code ?_));refine aC m [] 100 rfl av ?_;refine nD.seq (AW.top (AK.of_code ?_));cases h:dZ t with
 |false =>
  refine aC m [(8,ab)] 100 rfl ?_ (AK.ret ⟨(),b6.zero rfl ?_⟩)
  .simp[ag,h]
  .simp[ag,ag.cat,lG,h]
 |true =>
  have d:=h;simp only[dZ,bL,ba] at d;refine aC m [(8,ae)] 100 rfl ?_ ?_
  .simp[ag,h]
  refine nD.seq (AW.top (AK.of_code ?_));refine aC m [] 100 rfl av ?_;refine nD.seq (nD.seq (AW.top (AK.of_code (AK.gm 1 0 9 1 (cS.fn []) rfl rfl ?_))));refine aC (.cons RS .nil) [] 100 rfl av ?_;refine nD.block ?_;refine nD.rangeFunc (capD:=fY [.rp [.str t]]) (cx.callee rfl) (Ht (T:=List Bs) t d.2 (by omega) (λ_=>.cells 9 [.c (.str t)]) (λacc=>.cells 93 [.vec 2 1 acc.length (cS.fn acc)]) (λacc=>.vec 9 1 acc.length (cS.fn acc)) (Qe t) [] ?_ (λt=>⟨by simp,by simp,by simp⟩) ?_) (λi=>⟨rfl,by simp⟩) λi=>⟨.normal,rfl,?_⟩
  .exact⟨t.length,by simp,by omega,by simp⟩
  .rintro f acc hf hR;have g:=nq t f hf;refine Yields.intro (j:=af) rfl rfl rfl rfl (AK.of_code ?_);refine bk rfl av ?_;refine⟨rfl,rfl,AK.of_code ?_⟩;refine bk rfl ?_ ?_
   .obtain⟨k,_,_,o⟩:=hR;have q:=g.1;have r:=g.2.1;refine⟨rfl,rfl,?_,Int.natCast_nonneg _,Int.ofNat_le.2 (Nat.le_of_lt q),Int.ofNat_le.2 r⟩;show (acc.length+1)*16<=_;omega
   have n:Qe t (cutAt t f) (acc++[(t.drop f).take (cutAt t f-f)]):=by
    obtain⟨k,l,v,o⟩:=hR;obtain⟨k',rfl⟩:∃ k',k=k'+1:=⟨k-1,by omega⟩
    refine⟨k',?_,by omega,by grind⟩
    rw[l];simp only[fg];rw[bd hf];simp
   refine⟨rfl,rfl,⟨_,n⟩,lF rfl ?_⟩;have e:rT t (aa (f:Int)) (aa (cutAt t f:Int))=(t.drop f).take (cutAt t f-f):=by simp[rT,List.drop_take]
   have p:aP (acc.length+1) (cR acc.length (cS.fn acc) λi=>[[C.str (rT t (aa (f:Int)) (aa (cutAt t f:Int)))]].getD i []) (cS.fn (acc++[(t.drop f).take (cutAt t f-f)])):=by
    rw[e];exact hY.cq cS acc _
   have a:acc.length+1=(acc++[(t.drop f).take (cutAt t f-f)]).length:=by simp
   refine ag.cat.2 ⟨by simp[ag,ag.cat],ag.cat.2 ⟨ag.cat.2 ⟨⟨a,p⟩,av⟩,ag.cat.2 ⟨⟨a,p⟩,ag.cat.2 ⟨rfl,av⟩⟩⟩⟩
  .obtain⟨acc,k,l,v,o⟩:=i;have b:fg t k t.length=[]:=by cases k <;> simp[fg]
   rw[b,k7] at l;have e:lG t=acc:=by simp only[lG,h,cu,pieces,l]
   rw[e];show nD X _ _ _ _ _;refine AW.top (AK.of_code ?_);refine bk rfl av ?_;refine AK.ret ⟨(),b6.zero rfl ?_⟩;exact⟨rfl,aP.same⟩
def Oq:dM X 82 (jZ aS (λs=>cS.sl (lG s)) λ_=>[]):=.ox λs _=>Hu s
def UK:dM X 79 (p9 (aL cS) aS (λl _=>dS l.flatten) λl s=>[s=[],l.flatten.length<=140737488355328]):=.tm λl s h=>by
 obtain⟨rfl,h⟩:=h;exact Og l h
def Ot:dk:=p9 (aL cS) (aL cS) (λa b=>dB (a==b)) λ_ _=>[]
def X6:dM X 81 Ot:=.tm λa b _=>RJ a b
def Ey(l:List Bs)(h:l.flatten.length<=140737488355328):Ev X 44 [cS.sl l] [] (An (fQ l)) []:=by
 refine Ev.bQ Tryz.func44 rfl λd=>?_
 have c:bD X [(79,p9 (aL cS) aS (λl _=>dS l.flatten) λl s=>[s=[],l.flatten.length<=140737488355328]),(80,jZ aS (λs=>dB (dZ s)) λ_=>[]),(81,Ot),(82,jZ aS (λs=>cS.sl (lG s)) λ_=>[])]:=.cons UK (.cons Ge (.cons X6 (.cons Oq .nil)))
 have el:cS.list l.length (cS.fn l)=l:=cS.list_fn l;cases a:dZ l.flatten with
 |false =>
  refine aC c [(8,ae),(9,ab),(16,ab)] 100 rfl ?_ (AK.bn rfl ?_)
  .simp only[ag,el,a,cS.aH,eq_self,aF,aE];simp[h,-List.length_flatten]
  .simp[ag,ag.cat,fQ,a]
 |true =>
  cases b:(pieces l.flatten==l) with
  |false =>
   refine aC c [(8,ab),(9,ae),(14,ae),(16,ab)] 100 rfl ?_ (AK.bn rfl ?_)
   .simp only[ag,el,cS.list_fn,a,cS.aH];simp[h,lG,a,b,-List.length_flatten]
   .simp[ag,ag.cat,fQ,b]
  |true =>
   refine aC c [(8,ab),(9,ae),(14,ab),(16,ae)] 100 rfl ?_ (AK.bn rfl ?_)
   .simp only[ag,el,cS.list_fn,a,cS.aH];simp[h,lG,a,b,-List.length_flatten]
   .simp[ag,ag.cat,fQ,a,b,el]
end
section
open Go.Proofs Go.Conc Go.Conc.Lib Go.ConcR.Gen
open Go.ConcN (WgLive PayAt Has RW AtR0)
open Go.ConcN.Gen
open Go.ConcR (KK WgAt stA smA rd wr mk Payload DC0)
def KX:KU=#[{ dst:=af,op:=.defer { callee:=.value (.func 76),args:=#[.tmp 0],argTypes:=#[139] },type:=0,pos:= "l12_snap.go:81",after:=#[],guard:=af }]:=by kernel_rfl
def bW(a:ak):aR:={ baseD 75 with defers:=[dcall 76 #[a]] }
abbrev tW(v0 v1 v2 v3 v4 v5:ak):Array ak:=#[v0,v1,v2,v3,v4,v5,aj,aj,aj,aj,aj,aj,aj]
def RU(v0 v1 v2 v3 v4 v5:ak)(w:az):Goes ah ae (λ_ _=>True) DC0 (λg _=>g=G ((bW v0).aT ⟨tW v0 v1 v2 v3 v4 v5,[]⟩ [.code (.region 1 KV ab)]) [uG]) 8 (born ah (wI #[v0,v1,v2,v3,v4,v5])) w:=by
 have b:True:=av;have a:True->True->True:=λ_ _=>trivial
 refine Goes.step rfl (λw1 h1=>?_)
 rw[Hx];simp only[goes_go];refine⟨⟨rfl,rfl⟩,?_⟩;clear h1;rw[KX]
 u_c aD a b
 u_reg a b
 u_defer a b
 u_c aA a b
 exact Goes.stop λ_ _=>rfl
def X7(T:Array ak):QuitsD ah 2 0 (G { (baseD 75).at ⟨T,[]⟩ [] with mode:=.returning } [uG]):=by
 have a:Tryz.f75.results=#[]:=by kernel_rfl
 refine QuitsD.ctl (g':=G uG []) rfl (λw=>?_) ?_
 .simp[G,aK,unwind,doReturn,results,Frame.at,baseD,uG,Tryz.func75,a,seen,GStep.after,goexitEntry]
 refine QuitsD.ctl (g':={ G uG [] with status:=.finished }) rfl (λw=>?_) ⟨rfl,rfl⟩
 simp[G,aK,unwind,uG,goexitEntry,Frame.catches];rfl
section
variable {Y:Lay}{n:Nat}{val:Nat->Nat->ak}
def tailW(x:Nat)(d:Y.kc=2)(T:Array ak)(w:az)(a:WgLive 139 Y.Wg w/\Has Y.C (Y.kc*x+1-1) (val x 0) w) :
  ∃ m,Goes ah ae (RW 139 Y.Wg Y.C (2*n) 0 (Y.kc*x+1-1)) DC0 (AtR0 ah 139 Y.Wg Y.C (2*n) 0 (Y.kc*x+1) (val x 0)) m (G ((bW (.pointer (aa ⟨Y.Wg,0,af⟩))).aT ⟨T,[]⟩ [.inRegion uF.toArray []]) [uG]) w:=by
 refine⟨26,?_⟩;have e:(bW (.pointer (aa ⟨Y.Wg,0,af⟩))).aT ⟨T,[]⟩ [.inRegion uF.toArray []]=(baseD 75).at ⟨T,[dcall 76 #[.pointer (aa ⟨Y.Wg,0,af⟩)]]⟩ [.inRegion uF.toArray []]:=rfl;rw[e]
 u_c aA kn_rely a
 u_c stepG_end kn_rely a
 u_in kn_rely a
 rw[stepG_unwind_enter (c:=body_done Qg) rfl Cn.f_done (by kernel_rfl) (by kernel_rfl)]
 simp only[goes_go];refine⟨by u_nil,?_⟩
 have b:=UN (P:=ah) (L:=Qg) (Wg:=Y.Wg) (C:=Y.C) (n:=2*n) (Low:=0) (x:=Y.kc*x+1) (val:=val x 0) (c:={ (baseD 75).at ⟨T,[]⟩ [] with mode:=.returning }) (cs:=[uG]) Cn rfl (X7 T) _ a;exact b
def rd_str{M:Mem}{v:ak}{l:Bs}(h:Rd M v (.str l)):v=.string ⟨l.toArray⟩:=by
 cases h with
 |str h1 h2=>rw[<-h1]
def rd_bool{M:Mem}{v:ak}{b:Bool}(h:Rd M v (.bool b)):v=.bool b:=by cases h;rfl
def Tq:aw:=oW af (.store 142 (.tmp 12) (.tmp 11)) 0 #[⟨6,.data⟩,⟨5,.data⟩,⟨5,.chain⟩,⟨0,.phase⟩,⟨1,.phase⟩,⟨2,.phase⟩,⟨3,.phase⟩,⟨4,.phase⟩,⟨5,.phase⟩]
def UO{x:Nat}(hx:x<n)(A:Y.kc=2){k:Int}{ps:List bw}{K:Int}(E:val x 0=.string ⟨((cU k ps K).getD []).toArray⟩)(F:val x 1=.bool (cU k ps K).isSome){s:St}{T:Array ak}
  (p:dc [] s (T.getD 12 aj) (xW k ps K n x Y.C 6)) (m:dc [] s (T.getD 11 aj) (Wk (cU k ps K))) :
  JS ah 139 Y (2*n) val x (G ((bW (.pointer (aa ⟨Y.Wg,0,af⟩))).aT ⟨T,[]⟩ [.inRegion uF.toArray [7]]) [uG]) s:=by
 have p:T.getD 12 aj=.pointer (aa ⟨Y.C,x*2,af⟩):=Rd.fZ p;have m:T.getD 11 aj=.agg #[val x 0,val x 1]:=by
  obtain⟨vs,Z,d⟩:=m
  match vs,d with
  |[],d=>exact d.elim
  |[_],d=>exact d.2.elim
  |_::_::_::_,d=>exact d.2.2.elim
  |[u0,u1],d =>
   rw[Z,rd_str d.1,rd_bool d.2.1,E,F]
 refine⟨rfl,λw1 hr J0 KY=>?_⟩
 obtain⟨cs,c,Ds⟩:=J0;have M:Y.kc*x=x*2:=by grind
 have B:∀ v∈[val x 0,val x 1],v.oneCell'=ab:=by
  intro v Q;simp only[fb,rl,or_false] at Q;rcases Q with rfl|rfl
  .rw[E];rfl
  .rw[F];rfl
 have q:x*2+0+[val x 0,val x 1].length<=cs.size:=by grind
 have l:=run_storeCells_at ah Y.C (x*2) 142 [val x 0,val x 1] 0 cs w1 c q B;simp only[iO,fa,ib,bt] at l;generalize r:(cs.toList.take (x*2)++[val x 0,val x 1]++cs.toList.drop (x*2+2)).toArray=new at l;have W:new.size=cs.size:=by
  grind
 have w:=setRow_heap w1 Y.C cs new 142 (0,0) c;have u:∀ o,(w1.setRow Y.C new).cell? ⟨Y.C,o,af⟩=new[o]?:=λo=>cell_setRow_same w1 Y.C o cs new 142 (0,0) c
 have J:∀ o,w1.cell? ⟨Y.C,o,af⟩=cs[o]?:=λo=>by simp[a9,c]
 have R:∀ i,i<2->new[x*2+i]?=aa (val x i):=by
  intro i hi;rw[<-r];have L:(cs.toList.take (x*2)).length=x*2:=by grind
  rw[j8];simp only[iJ];rw[gk (by omega),L]
  match i,hi with
  |0,_=>simp
  |1,_=>simp
 have N:∀ o,(o<x*2∨x*2+2<=o)->new[o]?=cs[o]?:=by
  intro o I;rw[<-r];have L:(cs.toList.take (x*2)).length=x*2:=by grind
  rw[j8];simp only[iJ];rcases I with I|I
  .grind
  .rw[gk (by omega),L,gk (by grind)]
   simp only[fa,ib,nH];rw[show x*2+2+(o-x*2-(0+1+1))=o by omega]
   simp
 have z:(Value.agg #[val x 0,val x 1]).cells=#[val x 0,val x 1]:=rfl;have H:(ay (⟨T,[]⟩:Act).eval Tq).run ah w1=.ok .skip (w1.setRow Y.C new):=by
  have t:(⟨T,[]⟩:Act).eval (.tmp 12)=.pointer (aa ⟨Y.C,x*2,af⟩):=p;have y:(⟨T,[]⟩:Act).eval (.tmp 11)=.agg #[val x 0,val x 1]:=m;simp[ay,Tq,oW,t,y,Instr.storeAt,Instr.sureAddr,storeVar,(tok 142 i142 rfl).run_sizeOf,i142,z,l]
 have f:∀ e∈(ay (⟨T,[]⟩:Act).eval Tq).events ah w1 #[],∃ j,j<2/\e=GU Y.C (x*2+j):=by
  intro O f;have t:(⟨T,[]⟩:Act).eval (.tmp 12)=.pointer (aa ⟨Y.C,x*2,af⟩):=p;have y:(⟨T,[]⟩:Act).eval (.tmp 11)=.agg #[val x 0,val x 1]:=m;have e:ay (⟨T,[]⟩:Act).eval Tq=(do storeVar 142 ⟨Y.C,x*2,af⟩ (.agg #[val x 0,val x 1]);pure .skip):=by simp[ay,Tq,oW,t,y,Instr.storeAt,Instr.sureAddr]
  rw[e] at f;have D:O∈(storeCells ⟨Y.C,x*2,af⟩ [val x 0,val x 1]).events ah w1 #[]:=by
   simp only[storeVar,aO,(tok 142 i142 rfl).run_sizeOf,i142,z,aU,events_sizeOf,cW,cd,bY,b9,Sem.events_pure] at f;simpa[l] using f
  rcases eE [val x 0,val x 1] 0 cs w1 #[] c q B O D with S|⟨j,_,X,rfl⟩
  .grind
  grind
 have g:WgLive 139 Y.Wg (w1.setRow Y.C new):=by
  obtain⟨st,P,h⟩:=KY;refine⟨st,P,?_⟩;show (w1.setRow Y.C new).heap[Y.Wg]?=_;rw[setRow_other w1 Y.C Y.Wg new ?_]
  .exact h
  .intro e;have d:w1.heap[Y.Wg]?=aa (Go.ConcR.wgBlock 139 st P):=h;rw[e,c] at d;simp[Go.ConcR.wgBlock] at d;exact absurd d.2 (by decide)
 refine⟨_,w1.setRow Y.C new,_,Fz (b:=bW (.pointer (aa ⟨Y.Wg,0,af⟩))) (a:=⟨T,[]⟩) (k:=[]) (ops:=uF.toArray) (i:=7) (rest:=[]) (o:=Tq) rfl rfl (by simp[bW,baseD]) H,?_,?_,?_⟩
 .refine⟨rfl,rfl,rfl,by simp,λb U=>setRow_other w1 Y.C b new U,⟨new,w,by grind⟩,λo I=>?_,λi hi=>?_⟩
  .grind
  .rw[A] at hi;rw[u,M]
   grind
 .intro e V;obtain⟨j,X,rfl⟩:=f e (Go.Conc.mem_seen V);exact⟨x*2+j,rfl,by omega,by omega⟩
 .exact tailW x A T _ ⟨g,by show (w1.setRow Y.C new).cell? _=_;grind⟩
def worker{k:Int}(j:dM (Cx.work ah) 77 (l6 k)){x:Nat}(v:x<n)(f:Y.kc=2){ps:List bw}{d:Int}(i:val x 0=.string ⟨((cU k ps d).getD []).toArray⟩)(l:val x 1=.bool (cU k ps d).isSome)
  {s:St} (B:aJ [] s) (F:s.β=[]) {v1 v2 v3 v4 v5:ak} (u:Rd s.M v1 (.rp [.int .i64 k])) (r:Rd s.M v2 (.rp [.sl ae 2 ps.length (cP.fn ps)])) (q:Rd s.M v3 (.rp [.int .i64 d]))
  (o:Rd s.M v4 (.rp [.val (.slice (aa ⟨Y.C,0,af⟩) n n)])) (m:Rd s.M v5 (.rp [.int .i64 x])) :
  ek (Cx.work ah) E0 (JS ah 139 Y (2*n) val x) (born ah (wI #[.pointer (aa ⟨Y.Wg,0,af⟩),v1,v2,v3,v4,v5])) s:=by
 refine ek.goes (X:=Cx.work ah) (R:=λ_ _=>True) (D:=DC0) (Stop:=λg _=>g=G ((bW (.pointer (aa ⟨Y.Wg,0,af⟩))).aT ⟨tW (.pointer (aa ⟨Y.Wg,0,af⟩)) v1 v2 v3 v4 v5,[]⟩ [.code (.region 1 KV ab)]) [uG])
  (λb=>aJ [] b/\b.M=s.M) (λb s2 h p=>⟨h.1.rely p,p.M.trans h.2⟩) (λ_ _ _ _=>trivial) ?_ (λb h=>cj.vY h.1.mem) ?_ 8 _ s ⟨B,rfl⟩ (RU _ _ _ _ _ _ _)
 .rintro b es h w' ⟨rfl,rfl⟩;exact⟨rfl,.inl (.quiet h.1)⟩
 .rintro g b ⟨e,z⟩ rfl;rw[Ow];refine ft.toE (λ_ _ _ h=>h) ?_
  refine(UM j ps d n x Y.C v (.pointer (aa ⟨Y.Wg,0,af⟩))).region (by kernel_rfl) (by simp[bW,baseD]) ⟨by simp[tW],⟨[],av⟩,λt=>?_⟩ rfl e λs2 a E c w A st=>.stop ?_
  .rw[<-z] at u r q o m
   match t with
   |0=>exact Rd.val rfl
   |1=>exact u
   |2=>exact r
   |3=>exact q
   |4=>exact o
   |5=>exact m
   |t+6=>trivial
  .obtain⟨T,y⟩:=a;obtain rfl:y=[]:=w;exact UO v f i l (c 12) (c 11)
end
end
section
open Go.Proofs Go.Conc Go.Conc.Lib
open Go.ConcN (WgLive PayAt Has RW AtR0)
open Go.ConcR (KK WgAt stA smA rd wr mk Payload DC0)
def wJ:Code->Code|.seq a _=>a|c=>c
def kS:Code->Code|.seq _ a=>a|c=>c
def UP:Code->Code|.block _ a=>a|c=>c
def X8:Code->Code|.loop a=>a|c=>c
def RV:Code->Array aw|.region _ o _=>o|_=>#[]
noncomputable def EC:Code:=(Tryz.f43.body).getD .skip
noncomputable def ix:Code:=X8 (UP (kS (wJ (kS (kS (kS EC))))))
noncomputable def cR4:Code:=wJ ix
noncomputable def RX:Code:=UP (wJ (kS (kS ix)))
noncomputable def cR5:Code:=wJ RX
noncomputable def As:Array aw:=RV (wJ (kS RX))
noncomputable def xS:Array aw:=RV (kS (kS RX))
noncomputable def Nc:Code:=kS (kS (kS ix))
noncomputable def nt:Code:=kS (kS (kS (kS EC)))
noncomputable def xT:Array aw:=RV (wJ nt)
noncomputable def qq:Code:=kS nt
def Co:ix=.seq cR4 (.seq (.cond (.tmp 21) .skip (.exit 0)) (.seq (.block 1 (.seq cR5 (.seq (.region 6 As ae) (.region 7 xS ae)))) Nc)):=by kernel_rfl
def KZ:nt=.seq (.region 9 xT ae) qq:=by kernel_rfl
def NQ(j:Fr)(σ1:List aV):Post:=λe φ σ=>e=.normal/\o8 φ j/\σ=σ1
structure At (σ0:List aV)(s0:St)(φ:Fr)(σ:List aV)(a:Act)(s:St):Prop where
 fr:cx 45 σ s φ a
 hh:aJ σ s
 st:cD σ0 s0 σ s
section
variable {σ0:List aV}{s0:St}{φ j:Fr}{σ σ1:List aV}{a:Act}{s:St}
def At.rely(h:At σ0 s0 φ σ a s){d:St}(c:cj s d):At σ0 s0 φ σ a d:=⟨h.fr.rely c h.hh,h.hh.rely c,h.st.trans c.stepW⟩
structure Nd (b:Nat)(s:St):Prop where
 own:¬s.own b
 β:∀ L∈s.β,b∉L.bs
 M:∀ o,s.M b o=af
 lt:b<s.w.heap.size
def Nd.step{b:Nat}(h:Nd b s0)(st:cD σ0 s0 σ s):Nd b s :=
 ⟨by rw[st.own];exact h.own,λL e hb=>by
  rcases st.xC L e b hb with h1|⟨c,d,h1⟩
  .have:=h.lt;omega
  .exact h.β c d h1,λo=>by rw[st.jz b h.lt h.β];exact h.M o,cG h.lt st.size⟩
def At.apart{Wg:Nat}(d:Nd Wg s0):Apart Wg (At σ0 s0 φ σ a) :=
 ⟨λ_ _ h e=>h.rely e,λ_ h=>⟨σ,h.hh⟩,λ_ h=>let c:=d.step h.st;⟨c.own,c.β,c.M⟩⟩
variable {X:Cx ah}{S:au->St->Prop}{b:aR}{k:List Item}{cs:List aR}
def At.ctl(h:At σ0 s0 φ σ a s){g g':au}(d:g.status=.running)(e:∀ w,aK ah X.main g w=.go g' w #[])(kk:∀ c,At σ0 s0 φ σ a c->ft X S g' c):ft X S g s :=
 .ctl h.hh d e λc h1=>kk c (h.rely h1)
def At.code(h:At σ0 s0 φ σ a s)(hb:b.kind≠.early){c:Code}(l:AW X 45 c (NQ j σ1) φ σ)(kk:∀ a1 s1,At σ0 s0 j σ1 a1 s1->ft X S (G (b.aT a1 k) cs) s1):ft X S (G (b.aT a (.code c::k)) cs) s:=by
 refine l s a h.fr h.hh b k cs S hb ?_;rintro e f σ' s' a' ⟨rfl,hl,rfl⟩ i g d;exact kk a' s' ⟨i.le hl,g,h.st.trans d⟩
end
def ft.live{Wg:Nat}{E:St->St->Array Event->Prop}{S:au->St->Prop}{g:au}{s:St}(h:ft (Cx.lead ah 139 Wg) S g s)(f:Clear (λb=>b=Wg) s)(hl:WgLive 139 Wg s.w) :
  ek (Cx.lead ah 139 Wg) E (λg s=>S g s/\WgLive 139 Wg s.w) g s:=by
 induction h with
 |stop h=>exact⟨.leaf,h,hl⟩
 |@step g s q ns ne hr h1 h2 _ n =>
  refine .step hr λe c=>?_
  have l:=c.2 hl;have d:Clear (λb=>b=Wg) e:=⟨λb hb=>by rw[c.1.own];exact f.own b hb,λb hb=>by rw[c.1.β];exact f.β b hb,λb hb o=>by rw[c.1.M];exact f.M b hb o,λb hb=>cG (f.lt b hb) c.1.size⟩
  obtain⟨⟨σ,σ',hh,m,st⟩,i⟩:=h2 e c;refine⟨_,_,_,h1 e c,.inl ⟨⟨σ,σ',hh,m,st⟩,i⟩,n e c (d.step st) ?_⟩;obtain⟨x,y,p⟩:=l;exact⟨x,y,by show (ns e).w.heap[Wg]?=_;rw[st.eN Wg (d.lt Wg rfl) (d.β Wg rfl)];exact p⟩
 |ghost hg _ n=>exact .ghost hg (n (f.ghost hg) (by rw[hg.w];exact hl))
 |forget hx _ _ _=>exact hx.elim
 |xF hj _ _=>exact hj.elim
def Nd.clear{Wg:Nat}{s:St}(h:Nd Wg s):Clear (λb=>b=Wg) s:=⟨λb e=>e▸h.own,λb e=>e▸h.β,λb e=>e▸h.M,λb e=>e▸h.lt⟩
section
variable (k:Int)(ps:List bw)(ns:List Int)(C Wg:Nat)
def mW(i:Nat):Fr:=[(3,.e (.one (.c (.rp [.int .i64 k])))),(4,.e (.one (.c (.rp [.sl ae 2 ps.length (cP.fn ps)])))),(8,.e (.one (.c (.rp [.val (.slice (aa ⟨C,0,af⟩) ns.length ns.length)])))),(9,.e (.one (.v (.pointer (aa ⟨Wg,0,af⟩))))),
 (18,cI.sl ns),(19,dI ns.length),(20,dI i)]
variable {k ps ns C Wg}{X:Cx ah}{σ:List aV}
def pR4{i:Nat}(hi:i<=ns.length):AW X 45 cR4 (NQ ((21,dB (decide (i<ns.length)))::mW k ps ns C Wg i) σ) (mW k ps ns C Wg i) σ:=by
 refine AK.of_code ?_
 by_cases h:i<ns.length
 .refine aX [(21,ab)] 100 rfl ?_ ⟨rfl,dh rfl ?_,rfl⟩
  .simp[ag];omega
  .simp[ag.cat,ag,h,aP.same]
 .refine aX [(21,ae)] 100 rfl ?_ ⟨rfl,dh rfl ?_,rfl⟩
  .simp[ag];omega
  .simp[ag.cat,ag,h,aP.same]
abbrev d5:List aV:=[.dead,.dead,.dead,.dead,.dead]
def pR5{i:Nat}(hi:i<ns.length):AW X 45 cR5 (NQ ((10,.e (.one (.ptr 5 0)))::(11,.e (.one (.ptr 6 0)))::mW k ps ns C Wg i) [.dead,.dead,.dead,.dead,.dead,.cells 3 [.c (.int .i64 i)],.cells 3 [.c (.int .i64 (ns.getD i 0))]]) (mW k ps ns C Wg i) d5:=by
 refine AK.of_code ?_;refine bk rfl ?_ ⟨rfl,dh rfl ?_,?_⟩
 .simp[ag];omega
 .simp[ag.cat,ag,aP.same]
 grind
def pR8{i:Nat}(hi:i<ns.length)(c:ns.length<=4000000):AW X 45 Nc (NQ (mW k ps ns C Wg (i+1)) d5) (mW k ps ns C Wg i) d5:=by
 refine AK.of_code ?_;refine bk rfl ?_ ⟨rfl,dh rfl ?_,rfl⟩
 .simp[ag,bx];omega
 .simp[ag.cat,ag,aP.same]
variable {σ0:List aV}{s0:St}{S:au->St->Prop}{b:aR}{kk:List Item}{cs:List aR}
abbrev d7:List aV:=[.dead,.dead,.dead,.dead,.dead,.dead,.dead]
variable (k ps ns C Wg) in
abbrev qL(i:Nat):Fr:=(11,.e (.one (.c (.rp [.int .i64 (ns.getD i 0)]))))::(10,.e (.one (.c (.rp [.int .i64 i]))))::mW k ps ns C Wg i
noncomputable abbrev tr(kk:List Item):List Item:=.code (.region 7 xS ae)::.inBlock 1::.code Nc::.inLoop ix::.inBlock 0::kk
def vh{P:aq}{main:Bool}{b:aR}{a:Act}{k:List Item}{cs:List aR}{w:az}{c x y:Code}(h:c=.seq x y):aK P main (G (b.aT a (.code c::k)) cs) w=.go (G (b.aT a (.code x::.code y::k)) cs) w:=by
 grind [nR]
def toAdd{i:Nat}(hi:i<ns.length)(n:b.kind≠.early){a:Act}{s:St}(h:At σ0 s0 (mW k ps ns C Wg i) d5 a s)
  (K:∀ m l,At σ0 s0 (qL k ps ns C Wg i) d7 m l->ft X S (G (b.aT m (.inRegion As [0]::tr kk)) cs) l) :
  ft X S (G (b.aT a (.code ix::.inLoop ix::.inBlock 0::kk)) cs) s:=by
 refine h.ctl rfl (λw=>vh Co) λs h=>?_
 refine h.code n (pR4 (Nat.le_of_lt hi)) λa s h=>?_
 refine h.ctl rfl (λw=>nR) λs h=>?_
 have q:a.eval (.tmp 21)=.bool ab:=by
  have:=h.fr.slot 21;simp only[hi,ig] at this;exact rd_bool (fy this)
 refine h.ctl rfl (λw=>u4 q) λs h=>?_
 refine h.ctl rfl (λw=>Fx) λs h=>?_
 refine h.ctl rfl (λw=>nR) λs h=>?_
 refine h.ctl rfl (λw=>rB) λs h=>?_
 refine h.ctl rfl (λw=>nR) λs h=>?_
 have h:At σ0 s0 (mW k ps ns C Wg i) d5 a s:=⟨h.fr.le (dh rfl (by simp[ag.cat,ag,aP.same])),h.hh,h.st⟩
 refine h.code n (pR5 hi) λa s h=>?_
 obtain⟨l,w1,o,d,g⟩:=cx.freeze 10 5 (E:=3) (cs:=[.c (.int .i64 i)]) (cc:=[.int .i64 i]) rfl rfl rfl h.fr h.hh;refine .ghost (.of h.hh d w1 (g.oG h.hh)) ?_;obtain⟨s2,w2,p,f,e⟩:=cx.freeze 11 6 (E:=3) (cs:=[.c (.int .i64 (ns.getD i 0))]) (cc:=[.int .i64 (ns.getD i 0)]) rfl rfl rfl o d;refine .ghost (.of d f w2 (e.oG d)) ?_;have h:At σ0 s0 (qL k ps ns C Wg i) d7 a s2:=⟨p.le (dh rfl (by simp[ag.cat,ag,aP.same])),f,h.st.trans ((g.oG h.hh).trans (e.oG d))⟩
 refine h.ctl rfl (λw=>nR) λs h=>?_
 refine h.ctl rfl (λw=>pQ) λs h=>?_
 exact K a s h
def o6:aw:={ dst:=aa 25,op:=.call { callee:=.value (.func 74),args:=#[.tmp 9,.const (.int .i64 1)],argTypes:=#[139,3] },type:=0,pos:= "l12_snap.go:79",after:=#[],guard:=af }
theorem Gh:As=#[o6]:=by kernel_rfl
def K1{i:Nat}(l:b.kind≠.early){a:Act}{s:St}(h:At σ0 s0 (qL k ps ns C Wg i) d7 a s)
  (K:∀ c,At σ0 s0 (qL k ps ns C Wg i) d7 a c->ft X S (G (Frame.enter ah 74 #[.pointer (aa ⟨Wg,0,af⟩),.int .i64 1] .normal) (b.aT a (.inRegion As [0]::tr kk)::cs)) c) :
  ft X S (G (b.aT a (.inRegion As [0]::tr kk)) cs) s:=by
 refine .next rfl λc d=>?_
 have e:=h.rely (X.ik d);have m:a.eval (.tmp 9)=.pointer (aa ⟨Wg,0,af⟩):=Rd.fZ (e.fr.slot 9);have g:(ay a.eval o6).run ah c.w=.ok (.enter 74 #[.pointer (aa ⟨Wg,0,af⟩),.int .i64 1]) c.w:=by
  have:=run_call_body (P:=ah) (a:=a) (w:=c.w) (o:=o6) (f:=74) (fn:=Tryz.f74) rfl Tryz.func74 (by kernel_rfl) (by kernel_rfl)
  rw[this,<-m];simp only[List.map_toArray,ru,List.map_nil];rfl
 have n:(ay a.eval o6).events ah c.w #[]=#[]:=events_call_body (P:=ah) (a:=a) (w:=c.w) (o:=o6) (f:=74) (fn:=Tryz.f74) rfl Tryz.func74 (by kernel_rfl) (by kernel_rfl) #[]
 have p:listed ah b.fn a o6 c.w=#[]:=by unfold listed;grind [seen_none]
 refine⟨_,c,#[],?_,.quiet e.hh,K c e⟩;have:=oS (P:=ah) (main:=X.main) (b:=b) (a:=a) (k:=tr kk) (cs:=cs) (w:=c.w) (ops:=As) (i:=0) (rest:=[]) (o:=o6) (by grind [Gh]) rfl l g
 grind
def UQ:aw:={ dst:=aa 26,op:=.makeFunc (.func 75) #[] #[.tmp 9,.tmp 3,.tmp 4,.tmp 11,.tmp 8,.tmp 10],type:=1,pos:= "l12_snap.go:80",after:=#[],guard:=af }
def Oy:aw:={ dst:=af,op:=.go { callee:=.value (.tmp 26),args:=#[],argTypes:=#[] },type:=0,pos:= "l12_snap.go:80",after:=#[⟨0,.data⟩],guard:=af }
theorem Gi:xS=[UQ,Oy].toArray:=by kernel_rfl
variable (k ps ns C Wg) in
abbrev ED(i:Nat):AM.C:=.fn (.func 75) [] [.val (.pointer (aa ⟨Wg,0,af⟩)),.rp [.int .i64 k],.rp [.sl ae 2 ps.length (cP.fn ps)],.rp [.int .i64 (ns.getD i 0)],.rp [.val (.slice (aa ⟨C,0,af⟩) ns.length ns.length)],.rp [.int .i64 i]]
def UR{i:Nat}:OA X 45 [UQ,Oy] UQ ((25,.any)::qL k ps ns C Wg i) d7 (.e (.one (.c (ED k ps ns C Wg i)))) d7:=by
 have h:FK tt [] [] [UQ,Oy] ((25,.any)::qL k ps ns C Wg i) d7 UQ=aa (.e (.one (.c (ED k ps ns C Wg i))),af,[]):=rfl;exact en tok bD.nil h av
def X9{i:Nat}(p:b.kind≠.early){a:Act}{s:St}(h:At σ0 s0 (qL k ps ns C Wg i) d7 a s)
  (K:∀ v l c,At σ0 s0 (qL k ps ns C Wg i) d7 l c->Rd c.M v (ED k ps ns C Wg i)->l.tmps.getD 26 aj=v->ft X S (G (b.aT l (.inRegion xS [1]::.inBlock 1::.code Nc::.inLoop ix::.inBlock 0::kk)) cs) c) :
  ft X S (G (b.aT (a.put (aa 25) (.tuple #[])) (.inRegion As []::tr kk)) cs) s:=by
 have n:At σ0 s0 ((25,.any)::qL k ps ns C Wg i) d7 (a.put (aa 25) (.tuple #[])) s:=⟨h.fr.put (by decide) av,h.hh,h.st⟩
 refine n.ctl rfl (λw=>iW) λs h=>?_
 refine h.ctl rfl (λw=>pQ) λs h=>?_
 rw[Gi];refine UR s _ h.fr h.hh b _ cs S 0 [1] p rfl λv c g f e=>?_
 have g:Rd c.M v (ED k ps ns C Wg i):=fy g;have o:=((h.fr.mono e h.hh.len).put (d:=26) (v:=v) (x:=.any) (by decide) av)
 have m:26<(a.put (aa 25) (.tuple #[])).tmps.size:=by rw[h.fr.size];decide
 refine K v _ c ⟨o.le (dh rfl ?_),f,h.st.trans e⟩ g (J4 m);simp[ag.cat,ag,aP.same]
def RY{i:Nat}(hi:i<ns.length)(n:ns.length<=4000000)(e:b.kind≠.early)(d:σ0.length<=5){a:Act}{s:St}(h:At σ0 s0 (qL k ps ns C Wg i) d7 a s)
  (K:∀ m l,At σ0 s0 (mW k ps ns C Wg (i+1)) d5 m l->ft X S (G (b.aT m (.code ix::.inLoop ix::.inBlock 0::kk)) cs) l) :
  ft X S (G (b.aT a (.inRegion xS []::.inBlock 1::.code Nc::.inLoop ix::.inBlock 0::kk)) cs) s:=by
 have f:cx 45 (d5++[.dead,.dead]) s (mW k ps ns C Wg i) a:=h.fr.le (dh rfl (by simp[ag.cat,ag,aP.same]))
 have c:aJ (d5++[.dead,.dead]) s:=h.hh;have g:cD σ0 s0 (d5++[.dead,.dead]) s:=h.st;have o:eR s (s.cut d5.length):=⟨rfl,λ_ _ _ h=>h,λ_ _ _=>rfl,c.mem,λb e=>e.imp id λ⟨L,q,e⟩=>⟨L,iK q,e⟩⟩
 refine .ghost o ?_;have h:At σ0 s0 (mW k ps ns C Wg i) d5 a (s.cut d5.length):=⟨⟨f.size,f.defers.imp λ_ p=>p.drop rfl,λt=>(f.slot t).drop (pY rfl)⟩,c.drop rfl,g.drop d⟩
 refine h.ctl rfl (λw=>iW) λs h=>?_
 refine h.ctl rfl (λw=>qy) λs h=>?_
 refine h.code e (pR8 hi n) λa s h=>?_
 exact h.ctl rfl (λw=>yh) λs h=>K a s h
end
theorem wK{b:aR}(c:b.roundOf=af)(a:Act)(t:List Item):b.aT a t=b.at ⟨a.tmps,a.defers++b.defers⟩ t:=by
 cases b;simp only at c;subst c;rfl
section
variable {k:Int}{ps:List bw}{ns:List Int}{Y:Lay}{val:Nat->Nat->ak}{σ0:List aV}{s0:St}{b:aR}{kk:List Item}{cs:List aR}
def Qi{a:Act}{w:az}{c c1 c2 c3 c4 c5:ak}(d:a.tmps.getD 26 aj=.func (.func 75) #[] #[c,c1,c2,c3,c4,c5]):(ay a.eval Oy).run ah w=.ok (.spawn (wI #[c,c1,c2,c3,c4,c5])) w/\(ay a.eval Oy).events ah w #[]=#[]:=by
 have e:a.eval (.tmp 26)=.func (.func 75) #[] #[c,c1,c2,c3,c4,c5]:=d
 constructor
 .simp[ay,Oy,resolve,Deferred.ofValue,e,wI]
 .simp[ay,Oy,resolve,Deferred.ofValue,e]
def US(q:dM (Cx.work ah) 77 (l6 k))(n:Y.kc=2)(f:b.roundOf=af)(y:b.kind≠.early){i:Nat}(hi:i<ns.length)
  (p:val i 0=.string ⟨((cU k ps (ns.getD i 0)).getD []).toArray⟩) (r:val i 1=.bool (cU k ps (ns.getD i 0)).isSome) {v:ak} {a:Act} {s:St} (h:At σ0 s0 (qL k ps ns Y.C Y.Wg i) d7 a s) (A:WgLive 139 Y.Wg s.w)
  (z:Rd s.M v (ED k ps ns Y.C Y.Wg i)) (x:a.tmps.getD 26 aj=v) {Next:au->St->Prop}
  (K:∀ c,At σ0 s0 (qL k ps ns Y.C Y.Wg i) d7 a c->WgLive 139 Y.Wg c.w->Next (G (b.aT a (.inRegion xS []::.inBlock 1::.code Nc::.inLoop ix::.inBlock 0::kk)) cs) c) :
  AtGo ah 139 Y (2*ns.length) val i Next (G (b.aT a (.inRegion xS [1]::.inBlock 1::.code Nc::.inLoop ix::.inBlock 0::kk)) cs) s:=by
 refine⟨rfl,λc d=>?_⟩
 have u:=h.rely d.1;have l:Rd c.M v (ED k ps ns Y.C Y.Wg i):=by rw[d.1.M];exact z
 cases l with
 |fn fs cc Un Wf f1 f2 g1 g2 r1 r2 =>
 have g:fs=[]:=hZ Un;subst g;have m:cc=[f2 0,f2 1,f2 2,f2 3,f2 4,f2 5]:=by
  apply iM
  intro j;have Wf:cc.length=6:=Wf
  match j with
  |0=>grind
  |1=>grind
  |2=>grind
  |3=>grind
  |4=>grind
  |5=>grind
  |j+6=>grind
 subst m;have D:f2 0=.pointer (aa ⟨Y.Wg,0,af⟩):=Rd.fZ (r2 0 _ rfl);obtain⟨B,E⟩:=Qi (a:=a) (w:=c.w) x;have e:Go.Conc.listed ah b.fn ⟨a.tmps,a.defers++b.defers⟩ Oy c.w=#[]:=by
  unfold Go.Conc.listed;have:=(Qi (a:=⟨a.tmps,a.defers++b.defers⟩) (w:=c.w) x).2
  grind [seen_none]
 have t:=stepG_spawn (P:=ah) (main:=ab) (b:=b) (a:=⟨a.tmps,a.defers++b.defers⟩) (k:=.inBlock 1::.code Nc::.inLoop ix::.inBlock 0::kk) (cs:=cs) (w:=c.w) (ops:=xS) (i:=1) (rest:=[]) (o:=Oy) (by grind [Gi]) rfl y B rfl
 refine⟨G (b.aT a (.inRegion xS []::.inBlock 1::.code Nc::.inLoop ix::.inBlock 0::kk)) cs,born ah (wI #[f2 0,f2 1,f2 2,f2 3,f2 4,f2 5]),?_,rfl,?_,K c u (d.2 A)⟩
 .rw[wK f,wK f,t,e];rfl
 .rw[D];exact worker q hi n p r (s:=c.child) ⟨u.hh.mem,rfl,by simp,by simp[St.child],by simp[St.child],by simp[St.child]⟩ rfl (r2 1 _ rfl) (r2 2 _ rfl) (r2 3 _ rfl) (r2 4 _ rfl) (r2 5 _ rfl)
def o9:aw:={ dst:=aa 28,op:=.call { callee:=.value (.func 78),args:=#[.tmp 9],argTypes:=#[139] },type:=0,pos:= "l12_snap.go:85",after:=#[],guard:=af }
theorem Gj:xT=#[o9]:=by kernel_rfl
variable {X:Cx ah}{S:au->St->Prop}
def RZ(j:b.kind≠.early){C Wg:Nat}{a:Act}{s:St}(h:At σ0 s0 (mW k ps ns C Wg ns.length) d5 a s)
  (K:∀ g c,At σ0 s0 (mW k ps ns C Wg ns.length) d5 g c->ft X S (G (Frame.enter ah 78 #[.pointer (aa ⟨Wg,0,af⟩)] .normal) (b.aT g (.inRegion xT [0]::.code qq::kk)::cs)) c) :
  ft X S (G (b.aT a (.code ix::.inLoop ix::.inBlock 0::.code nt::kk)) cs) s:=by
 refine h.ctl rfl (λw=>vh Co) λs h=>?_
 refine h.code j (pR4 (bg _)) λa s h=>?_
 refine h.ctl rfl (λw=>nR) λs h=>?_
 have m:a.eval (.tmp 21)=.bool ae:=by
  have:=h.fr.slot 21;simp only[Nat.lt_irrefl,kA] at this;exact rd_bool (fy this)
 refine h.ctl rfl (λw=>u4 m) λs h=>?_
 refine h.ctl rfl (λw=>zx (k':=.code nt::kk) rfl) λs h=>?_
 refine h.ctl rfl (λw=>vh KZ) λs h=>?_
 refine h.ctl rfl (λw=>pQ) λs h=>?_
 have h:At σ0 s0 (mW k ps ns C Wg ns.length) d5 a s:=⟨h.fr.le (dh rfl (by simp[ag.cat,ag,aP.same])),h.hh,h.st⟩
 refine .next rfl λc d=>?_
 have e:=h.rely (X.ik d);have q:a.eval (.tmp 9)=.pointer (aa ⟨Wg,0,af⟩):=Rd.fZ (e.fr.slot 9);have l:(ay a.eval o9).run ah c.w=.ok (.enter 78 #[.pointer (aa ⟨Wg,0,af⟩)]) c.w:=by
  have:=run_call_body (P:=ah) (a:=a) (w:=c.w) (o:=o9) (f:=78) (fn:=Tryz.f78) rfl Tryz.func78 (by kernel_rfl) (by kernel_rfl)
  grind
 have p:(ay a.eval o9).events ah c.w #[]=#[]:=events_call_body (P:=ah) (a:=a) (w:=c.w) (o:=o9) (f:=78) (fn:=Tryz.f78) rfl Tryz.func78 (by kernel_rfl) (by kernel_rfl) #[]
 have n:Go.Conc.listed ah b.fn a o9 c.w=#[]:=by unfold Go.Conc.listed;grind [seen_none]
 refine⟨_,c,#[],?_,.quiet e.hh,K a c e⟩;have:=oS (P:=ah) (main:=X.main) (b:=b) (a:=a) (k:=.code qq::kk) (cs:=cs) (w:=c.w) (ops:=xT) (i:=0) (rest:=[]) (o:=o9) (by grind [Gj]) rfl j l
 rw[n] at this;exact this
section
variable (k ps ns Y σ0 s0 b kk cs)
def Wl(g:au)(s:St):Prop:=∃ a,F9 ah Qg Y (At σ0 s0 (mW k ps ns Y.C Y.Wg ns.length) d5 a) (b.aT a (.inRegion xT [0]::.code qq::kk)) cs g s
def TF(g:au)(s:St):Prop:=∃ a,TW ah Qg Y (At σ0 s0 (mW k ps ns Y.C Y.Wg ns.length) d5 a) (G (b.aT (a.put (aa 28) (.tuple #[])) (.inRegion xT []::.code qq::kk)) cs) g s
end
def anF(e:Nd Y.Wg s0)(c:b.roundOf=af){g:au}{s:St}(h:Wl k ps ns Y σ0 s0 b kk cs g s) :
  ek (Cx.lead ah 139 Y.Wg) (Es Y.Wg) (AtW1 ah 139 Y (TF k ps ns Y σ0 s0 b kk cs) (Wl k ps ns Y σ0 s0 b kk cs)) g s:=by
 obtain⟨a,h⟩:=h;have f:(xT[0]?).bind (·.dst)=aa 28:=by rw[Gj];rfl
 rw[wK c] at h;refine Uy (P:=ah) (L:=Qg) (b₀:=b) (a₀:=⟨a.tmps,a.defers++b.defers⟩) (ops₀:=xT) (i₀:=0) (rest₀:=[]) (k₀:=.code qq::kk) (cs:=cs) Cn (At.apart e) (λg s d=>⟨a,?_⟩) (λg s i=>⟨a,?_⟩) h
 .rw[wK c];rw[f] at d;exact d
 grind [wK]
def Hy{P:aq}{ty:ar}{N n:Nat}{a:au->St->Prop}:∀ (r:Nat){g:au}{s:St},ek (Cx.lead P ty Y.Wg) (Es Y.Wg) (λg s=>Spawns P ty Y N val n a r g s) g s->Spawns P ty Y N val n a r g s
 |0,_,_,h=>ek.bind h λ_ _ x=>x
 |_+1,_,_,h=>ek.bind h λ_ _ x=>x
def Oz(y:dM (Cx.work ah) 77 (l6 k))(u:Y.kc=2)(m:Nd Y.Wg s0)(e:b.roundOf=af)(l:b.kind≠.early)(n:σ0.length<=5)(B:ns.length<=4000000)
  (x:∀ i,i<ns.length->val i 0=.string ⟨((cU k ps (ns.getD i 0)).getD []).toArray⟩) (z:∀ i,i<ns.length->val i 1=.bool (cU k ps (ns.getD i 0)).isSome) :
  ∀ (r:Nat),r<=ns.length->∀ (a:Act) (s:St),At σ0 s0 (mW k ps ns Y.C Y.Wg (ns.length-r)) d5 a s->WgLive 139 Y.Wg s.w ->
   Spawns ah 139 Y (2*ns.length) val ns.length (Wl k ps ns Y σ0 s0 b kk cs) r (G (b.aT a (.code ix::.inLoop ix::.inBlock 0::.code nt::kk)) cs) s:=by
 intro r
 induction r with
 |zero =>
  intro _ a s h c;rw[mh] at h;have:=ft.live (E:=Es Y.Wg) (RZ (X:=Cx.lead ah 139 Y.Wg) (kk:=kk) (cs:=cs) (S:=λg s=>∃ a,g=G (Frame.enter ah 78 #[.pointer (aa ⟨Y.Wg,0,af⟩)] .normal) (b.aT a (.inRegion xT [0]::.code qq::kk)::cs)/\At σ0 s0 (mW k ps ns Y.C Y.Wg ns.length) d5 a s) l h λj o d=>.stop ⟨j,rfl,d⟩) (m.step h.st).clear c
  refine ek.bind this ?_;rintro g s ⟨⟨a,rfl,h⟩,c⟩;exact UA (P:=ah) (L:=Qg) (Y:=Y) Cn (At.apart m) (λg s D=>⟨a,D⟩) ⟨h,c⟩
 |succ r I =>
  intro J a s h c;have hi:ns.length-(r+1)<ns.length:=by omega
  generalize p:ns.length-(r+1)=i at h hi;have:=ft.live (E:=Es Y.Wg) (toAdd (X:=Cx.lead ah 139 Y.Wg) (kk:=.code nt::kk) (cs:=cs) (S:=λg s=>∃ a,g=G (Frame.enter ah 74 #[.pointer (aa ⟨Y.Wg,0,af⟩),.int .i64 1] .normal) (b.aT a (.inRegion As [0]::tr (.code nt::kk))::cs)/\At σ0 s0 (qL k ps ns Y.C Y.Wg i) d7 a s) hi l h λj o d=>K1 l d λs2 h2=>.stop ⟨j,rfl,h2⟩) (m.step h.st).clear c
  refine ek.bind this ?_;rintro g s ⟨⟨a,rfl,h⟩,c⟩;have H:(As[0]?).bind (·.dst)=aa 25:=by rw[Gh];rfl
  rw[wK e];refine XY (P:=ah) (L:=Qg) (Y:=Y) (F:=At σ0 s0 (qL k ps ns Y.C Y.Wg i) d7 a) Cn (At.apart m) (λs q=>?_) ⟨h,c⟩
  rw[H];have:=ft.live (E:=Es Y.Wg) (X9 (X:=Cx.lead ah 139 Y.Wg) (kk:=.code nt::kk) (cs:=cs) (S:=λg s=>∃ v a,g=G (b.aT a (.inRegion xS [1]::.inBlock 1::.code Nc::.inLoop ix::.inBlock 0::.code nt::kk)) cs/\At σ0 s0 (qL k ps ns Y.C Y.Wg i) d7 a s/\Rd s.M v (ED k ps ns Y.C Y.Wg i)/\a.tmps.getD 26 aj=v) l q.1 λv j o d A f=>.stop ⟨v,j,rfl,d,A,f⟩) (m.step q.1.st).clear q.2
  rw[wK e] at this;refine ek.bind this ?_;rintro g s ⟨⟨v,a,rfl,h,A,f⟩,c⟩;rw[p];refine⟨.leaf,US y u e l hi (x i hi) (z i hi) h c A f λo d t=>?_⟩
  refine Hy r ?_;have:=ft.live (E:=Es Y.Wg) (RY (X:=Cx.lead ah 139 Y.Wg) (kk:=.code nt::kk) (cs:=cs) (S:=λg s=>∃ a,g=G (b.aT a (.code ix::.inLoop ix::.inBlock 0::.code nt::kk)) cs/\At σ0 s0 (mW k ps ns Y.C Y.Wg (i+1)) d5 a s) hi B l n d λj o d=>.stop ⟨j,rfl,d⟩) (m.step d.st).clear t
  refine ek.bind this ?_;rintro g s ⟨⟨a,rfl,h⟩,c⟩;refine⟨.leaf,I (by omega) a s ?_ c⟩
  grind
end
end
end Go.AM.R1
namespace Go.AM
section
open Go.Conc
def aJ.UT{σ:List aV}{s:St}(hh:aJ σ s){l:Nat}{B:aV}{L:Loc}(k:σ[l]?=aa B)(m:s.β[l]?=aa L)(q:(∃ E cs,B=.cells E cs)∨∃ H,B=.dD H) :
  aJ (σ.set l .dead) { s with β:=s.β.set l ⟨L.v,[]⟩ }/\Step σ s (σ.set l .dead) { s with β:=s.β.set l ⟨L.v,[]⟩ }:=by
 have i:l<σ.length:=(cr.1 k).1;have f:l<s.β.length:=(cr.1 m).1;have a:∀ l',(s.β.set l ⟨L.v,[]⟩)[l']?=if l=l' then aa ⟨L.v,[]⟩ else s.β[l']?:=by
  intro l'
  by_cases e:l=l'
  .subst e;rw[bd rfl,fI f]
  .rw[aY e,iL e]
 have c:∀ L'∈s.β.set l ⟨L.v,[]⟩,∀ b∈L'.bs,L'∈s.β:=by
  intro L' gw b hb;obtain⟨l',d⟩:=List.mem_iff_getElem?.1 gw;rw[a] at d;split at d
  .cases d;simp at hb
  .exact bU d
 have st:Step σ s (σ.set l .dead) { s with β:=s.β.set l ⟨L.v,[]⟩ }:=by
  refine⟨bg _,λ_ _ _=>rfl,λ_ _ _ h=>h,λ_ _ _ _=>rfl,λL' gw b hb=>.inr ⟨L',c L' gw b hb,hb⟩,?_,rfl,rfl,rfl,rfl⟩
  intro l' B' L' ot gw
  by_cases e:l=l'
  .subst e;rw[k] at ot;cases ot;rw[m] at gw;cases gw;refine⟨.dead,⟨L.v,[]⟩,by rw[fI i],by rw[a,bd rfl],?_⟩
   rcases q with⟨E,cs,rfl⟩|⟨H,rfl⟩ <;> rfl
  .exact⟨B',L',by rw[iL e];exact ot,by rw[a,aY e];exact gw,.refl _ _⟩
 refine⟨⟨hh.mem,by simp[hh.len],?_,?_,λL' gw b hb=>hh.lt L' (c L' gw b hb) b hb,λb hb=>⟨(hh.own b hb).1,λL' gw oO=>(hh.own b hb).2 L' (c L' gw b oO) oO⟩⟩,st⟩
 .intro l' B' L' ot gw
  by_cases e:l=l'
  .subst e;rw[fI i] at ot;cases ot;trivial
  .rw[iL e] at ot;rw[a,aY e] at gw;exact(hh.box l' B' L' ot gw).carry st.ext hh.len λb hb=>⟨rfl,λo=>rfl⟩
 .intro p n L1 L2 h1 h2 b g j;rw[a] at h1 h2;split at h1
  .cases h1;simp at g
  .split at h2
   .cases h2;simp at j
   .exact hh.gg p n L1 L2 h1 h2 b g j
def dc.closed{σ σ':List aV}{s s':St}(e:s'.M=s.M){v:ak}{d:D}(h:dc σ s v d)(a:u7 0 d=ab):dc σ' s' v d:=by
 have h1:=dc.drop (σ1:=[]) (rest:=σ) h a;refine dc.mono (σ:=[]) (s:=s.cut 0) ⟨λb o v f=>by rw[e];exact f,λl B L c _=>by simp at c⟩ (by simp[St.cut]) h1
end
end Go.AM
namespace Go.AM.R1
section
open Go.Proofs Go.Conc Go.Conc.Lib
open Go.ConcN (WgLive PayAt Has RW AtR0)
open Go.ConcR (KK WgAt stA smA rd wr mk Payload DC0)
noncomputable def UU:Code:=wJ (kS (kS (kS EC)))
noncomputable def cR3:Code:=wJ UU
noncomputable def Ya:Code:=kS (kS (kS EC))
def R0:Ya=.seq (.seq cR3 (.block 0 (.loop ix))) nt:=by kernel_rfl
section
variable {σ0:List aV}{s0:St}{φ:Fr}{σ:List aV}{a:Act}{s:St}{S:au->St->Prop}
def At.goes{Wg:Nat}{j:au}:∀ (m:Nat)(g:au)(s:St),At σ0 s0 φ σ a s->WgLive 139 Wg s.w->Goes ah ab (fj 139 Wg) DC0 (λg _=>g=j) m g s.w ->
  (∀ b,At σ0 s0 φ σ a b->ft (Cx.beside ah) S j b)->ft (Cx.beside ah) S g s
 |0,g,s,h,_,e,K=>by
  obtain rfl:g=j:=e s.w (.refl _)
  grind
 |m+1,g,s,h,hl,e,K=>by
  rcases e with e|⟨o,e⟩
  .obtain rfl:g=j:=e s.w (.refl _)
   grind
  .refine .next o λb c=>?_
   have h1:=h.rely c.1;obtain⟨d,l⟩:=c.2;have i:WgLive 139 Wg b.w:=by rw[l];exact hl
   have h2:=e b.w (λ_=>i)
   cases f:aK ah ab g b.w with
   |go g' w' es =>
    rw[f,goes_go] at h2;obtain⟨⟨rfl,rfl⟩,n⟩:=h2;exact⟨g',b,#[],f,.quiet h1.hh,At.goes m g' b h1 i n K⟩
   |_=>rw[f] at h2;exact h2.elim
def lE{σ:List aV}{s:St}(b:∀ B∈σ,B=.dead){ds:List Deferred}{ls:List Nat}(h:oI σ s ds ls):ds=[]:=by
 cases ds with
 |nil=>rfl
 |cons d ds =>
  cases ls with
  |nil=>exact h.elim
  |cons l ls =>
   have:=b _ (bU h.1.1);cases this
end
section
variable {k:Int}{ps:List bw}{ns:List Int}{C:Nat}{xs:List ak}
variable (k ps ns C) in
def OB:Fr:=[(2,cI.sl ns),(3,.e (.one (.ptr 0 0))),(4,.e (.one (.ptr 1 0))),(8,.e (.one (.ptr 3 0))),(9,.e (.one (.ptr 4 0)))]
variable (k ps ns C xs) in
def Au:List aV:=[.cells 3 [.c (.int .i64 k)],.cells 23 [.c (.sl ae 2 ps.length (cP.fn ps))],.dD (hU 142 2 (.row C ns.length) ns.length xs),.cells 129 [.c (.val (.slice (aa ⟨C,0,af⟩) ns.length ns.length))],.cells 139 [.c (.int .u64 0),.c (.int .u32 0)]]
variable (k ps ns) in
def Nx(x i:Nat):ak:=if i=0 then .string ⟨((cU k ps (ns.getD x 0)).getD []).toArray⟩ else .bool (cU k ps (ns.getD x 0)).isSome
variable (k ps ns) in
def l7:List ak:=ns.flatMap λn=>[.string ⟨((cU k ps n).getD []).toArray⟩,.bool (cU k ps n).isSome]
variable (k ps ns C) in
def EE:List aV:=[.dead,.dead,.dD (hU 142 2 (.row C ns.length) ns.length (l7 k ps ns)),.dead,.dead]
def pR3{X:Cx ah}:AW X 45 cR3 (NQ ((18,cI.sl ns)::(19,dI ns.length)::(20,dI 0)::OB ns) (Au k ps ns C xs)) (OB ns) (Au k ps ns C xs):=by
 refine AK.of_code ?_;refine bk rfl av ⟨rfl,dh rfl ?_,rfl⟩;simp[ag.cat,ag,aP.same]
theorem Cp:(l7 k ps ns).length=ns.length*2:=by
 unfold l7
 induction ns with
 |nil=>rfl
 |cons n r b=>grind
def Av:∀ {ns:List Int}{x i:Nat},x<ns.length->i<2->(l7 k ps ns)[2*x+i]?=aa (Nx k ps ns x i)
 |[],x,i,h,_=>by grind
 |n::r,0,i,_,hi=>by
  match i,hi with
  |0,_=>rfl
  |1,_=>rfl
 |n::r,x+1,i,h,hi=>by
  have:=Av (ns:=r) (x:=x) (i:=i) (by grind) hi
  unfold l7 at this ⊢;rw[List.flatMap_cons,gk (by grind)]
  rw[show 2*(x+1)+i - [Value.string ⟨((cU k ps n).getD []).toArray⟩,Value.bool (cU k ps n).isSome].length=2*x+i by grind]
  rw[this];simp[Nx]
def _root_.Go.AM.cx.seen{N b:Nat}{d:D}{σ:List aV}{s:St}{φ:Fr}{a:Act}(f:cx N σ s φ a)(h:dc σ s (a.tmps.getD b aj) d):cx N σ s ((b,d)::φ) a:=by
 refine⟨f.size,f.defers,λt=>?_⟩
 simp only[look];cases hb:aG b t with
 |false=>exact f.slot t
 |true=>grind [Nat.eq_of_beq_eq_true]
abbrev K2(n C:Nat):Fr:=[(8,.e (.one (.c (.rp [.val (.slice (aa ⟨C,0,af⟩) n n)]))))]
variable (k ps ns C) in
abbrev UW:Fr:=(8,.e (.one (.c (.rp [.val (.slice (aa ⟨C,0,af⟩) ns.length ns.length)]))))::(4,.e (.one (.c (.rp [.sl ae 2 ps.length (cP.fn ps)]))))::(3,.e (.one (.c (.rp [.int .i64 k]))))::(18,cI.sl ns)::(19,dI ns.length)::(20,dI 0)::[(9,.e (.one (.ptr 4 0)))]
def UX(hfe:dM (Cx.work ah) 77 (l6 k)){Q:Post}(hn:ns.length<=4000000)(Z:nD (Cx.beside ah) 45 qq Q (K2 ns.length C) (EE k ps ns C)):nD (Cx.beside ah) 45 Ya Q (OB ns) (Au k ps ns C xs):=by
 intro so ao hf hho b kk cs S hb Na hQ;have h:At (Au k ps ns C xs) so (OB ns) (Au k ps ns C xs) ao so:=⟨hf,hho,.refl _ _⟩;refine h.ctl rfl (λw=>vh R0) λs h=>?_
 refine h.ctl rfl (λw=>nR) λs h=>?_
 refine h.code hb pR3 λa s h=>?_
 obtain⟨s1,w1,f1,A,QZ⟩:=cx.freeze 3 0 (E:=3) (cs:=[.c (.int .i64 k)]) (cc:=[.int .i64 k]) rfl rfl rfl h.fr h.hh;refine .ghost (.of h.hh A w1 (QZ.oG h.hh)) ?_;obtain⟨s2,w2,f2,D,oB⟩:=cx.freeze 4 1 (E:=23) (cs:=[.c (.sl ae 2 ps.length (cP.fn ps))]) (cc:=[.sl ae 2 ps.length (cP.fn ps)]) rfl rfl rfl f1 A;refine .ghost (.of A D w2 (oB.oG A)) ?_;obtain⟨s3,w3,f3,P3,Ux⟩:=cx.freeze 8 3 (E:=129) (cs:=[.c (.val (.slice (aa ⟨C,0,af⟩) ns.length ns.length))]) (cc:=[.val (.slice (aa ⟨C,0,af⟩) ns.length ns.length)]) rfl rfl rfl f2 D;refine .ghost (.of D P3 w3 (Ux.oG D)) ?_;have h:At (Au k ps ns C xs) so (UW k ps ns C)
   [.dead,.dead,.dD (hU 142 2 (.row C ns.length) ns.length xs),.dead,.cells 139 [.c (.int .u64 0),.c (.int .u32 0)]] a s3 :=
  ⟨f3.le (dh rfl (by simp[ag.cat,ag,aP.same])),P3,h.st.trans ((QZ.oG h.hh).trans ((oB.oG A).trans (Ux.oG D)))⟩
 clear QZ oB Ux f1 f2 f3 A D P3;refine h.ctl rfl (λw=>rB) λs h=>?_
 refine h.ctl rfl (λw=>Fy) λs h=>?_
 have hlen:=h.hh.len;simp only[fa,ib] at hlen;obtain⟨F,y⟩:∃ L,s.β[2]?=aa L:=⟨_,br (by omega)⟩
 obtain⟨W,J⟩:∃ L,s.β[4]?=aa L:=⟨_,br (by omega)⟩
 obtain⟨ch,hH,UY,TG,XV⟩:=h.hh.box 2 _ F rfl y;obtain⟨zs,WR,QS,TZ⟩:=hU.lookup hH;obtain⟨hv2,_,hxl,_,_,_⟩:=hH;have R:C∈F.bs:=(TG C).2 (by grind)
 have UZ:=UY C _ QS;obtain⟨Wg,vs,adl,K,IZ,hM4⟩:=h.hh.box 4 _ W rfl J;have Yb:vs=[.int .u64 0,.int .u32 0]:=by
  match vs,IZ with
  |[],r=>exact r.elim
  |[_],r=>exact r.2.elim
  |_::_::_::_,r=>exact r.2.2.elim
  |[u0,u1],r =>
   have r0:Rd s.M u0 (.int .u64 0):=r.1;have r1:Rd s.M u1 (.int .u32 0):=r.2.1;cases r0;cases r1;rfl
 subst Yb;have Bq:C≠Wg:=by
  grind
 have hv9:a.tmps.getD 9 aj=.pointer (aa ⟨Wg,0,af⟩):=by
  obtain⟨_,L,bb,q1,q2,q3⟩:=h.fr.slot 9
  grind
 obtain⟨g1,t1⟩:=h.hh.UT (l:=2) rfl y (.inr ⟨_,rfl⟩);have Yc:(s.β.set 2 ⟨F.v,[]⟩)[4]?=aa W:=by grind
 obtain⟨g2,t2⟩:=g1.UT (l:=4) (B:=.cells 139 [.c (.int .u64 0),.c (.int .u32 0)]) rfl Yc (.inl ⟨_,_,rfl⟩);generalize hsB:({ s with β:=(s.β.set 2 ⟨F.v,[]⟩).set 4 ⟨W.v,[]⟩ }:St)=sB at g2 t2;have eβ:sB.β=(s.β.set 2 ⟨F.v,[]⟩).set 4 ⟨W.v,[]⟩:=by grind
 have eM:sB.M=s.M:=by grind
 have ew:sB.w=s.w:=by grind
 have eo:sB.own=s.own:=by grind
 have hhB:aJ d5 sB:=g2;have Nf:=(t1.oG h.hh).trans (t2.oG g1);have Yd:sB.β[2]?=aa ⟨F.v,[]⟩:=by grind
 have p:∀ L∈sB.β,∀ x∈L.bs,∃ l,l≠2/\l≠4/\s.β[l]?=aa L:=by
  grind [List.mem_iff_getElem?]
 have Dv:C<s.w.heap.size:=h.hh.lt F (bU y) C R;have Bn:Wg<s.w.heap.size:=h.hh.lt W (bU J) Wg (by grind)
 have Ye:Nd C sB:=⟨by rw[eo];exactλho=>(h.hh.own C ho).2 F (bU y) R,λL d f=>by
  obtain⟨l,n2,n4,hl⟩:=p L d C f;exact n2 (h.hh.gg l 2 L F hl y C f R),λo=>by rw[eM];grind,by grind⟩
 have O:Nd Wg sB:=⟨by rw[eo];exactλho=>(h.hh.own Wg ho).2 W (bU J) (by grind),λL d f=>by
  obtain⟨l,n2,n4,hl⟩:=p L d Wg f;exact n4 (h.hh.gg l 4 L W hl J Wg f (by grind)),λo=>by rw[eM];grind,by grind⟩
 have fB:cx 45 d5 sB (mW k ps ns C Wg 0) a:=by
  have q:=h.fr.mono Nf h.hh.len;have q9:cx 45 d5 sB ((9,.e (.one (.v (.pointer (aa ⟨Wg,0,af⟩)))))::UW k ps ns C) a:=q.seen (by rw[hv9];exact Rd.val rfl)
  exact q9.le (dh rfl (by simp[ag.cat,ag,aP.same]))
 have V:(xs++zs).toArray.size=2*ns.length:=by grind
 have NY:∀ x,(s.own x∨∃ L∈s.β,x∈L.bs)->x<s.w.heap.size:=λx f=>f.elim (λq=>(h.hh.own x q).1) λ⟨L,d,q⟩=>h.hh.lt L d x q
 refine .xF (T:=λg' s'=>∃ a4 m,At (Au k ps ns C xs) so (K2 ns.length C) (EE k ps ns C) a4 s'/\WgLive 139 Wg s'.w/\Goes ah ab (fj 139 Wg) DC0 (λg _=>g=G (b.aT (a4.put (aa 28) (.tuple #[])) (.inRegion xT []::.code qq::kk)) cs) m g' s'.w)
  (TH.fork (n:=ns.length) (ty:=139) (val:=Nx k ps ns) (N:=2*ns.length) (s0:=sB) 2 (by omega) Wg C (by omega) Bq (.of h.hh hhB ew Nf) rfl ⟨F,bU y,R⟩ ⟨W,bU J,by grind⟩ NY ?_ K ⟨_,UZ,V⟩ ?_) ?_
 .rintro x (rfl|rfl)
  .exact⟨Ye.own,Ye.β,Ye.M⟩
  .exact⟨O.own,O.β,O.M⟩
 .intro Y hYW hYC hYk;subst hYW hYC;refine⟨TF k ps ns Y d5 sB b kk cs,Wl k ps ns Y d5 sB b kk cs,λg s f=>anF O Na f,?_,?_⟩
  .refine Oz hfe hYk O Na hb (by decide) hn (λi hi=>rfl) (λi hi=>rfl) ns.length (bg _) a sB ⟨by grind,hhB,.refl _ _⟩ ⟨_,_,by rw[ew];exact K⟩
  .rintro g' s' ⟨a4,⟨j,KY⟩,m,hgo⟩ hm' U0 R2 adq yi;obtain⟨o1,o2,o3⟩:=yi Y.C (.inl rfl);obtain⟨mc,H,adr⟩:=U0;have Wc:mc=(l7 k ps ns).toArray:=by
    apply Array.ext_getElem?
    intro o;have eo':(l7 k ps ns).toArray[o]?=(l7 k ps ns)[o]?:=by simp
    rw[eo'];rcases cJ o (2*ns.length) with ho|ho
    .have q1:=R2 (o / 2) (by omega) (o % 2) (by omega)
     have q2:=Av (k:=k) (ps:=ps) (ns:=ns) (x:=o / 2) (i:=o % 2) (by omega) (by omega)
     rw[show 2*(o / 2)+o % 2=o by omega] at q1 q2
     rw[q2];simpa[a9,H] using q1
    grind [Cp]
   subst Wc;have Bl:s'.β.length=5:=j.hh.len;obtain⟨B2',L2',p1,p2,p3⟩:=j.st.box 2 .dead ⟨F.v,[]⟩ rfl Yd;have adt:L2'.v=.nilFunc:=by
    cases p1;exact(show L2'.v=F.v from p3).trans hv2
   have I:∀ (l:Nat) (B:aV),d5[l]?=aa B->B=.dead:=by
    intro l B u
    match l,u with
    |0,u|1,u|2,u|3,u|4,u=>cases u;rfl
   have X:∀ l,(s'.β.set 2 ⟨.nilFunc,[Y.C]⟩)[l]?=if l=2 then aa ⟨.nilFunc,[Y.C]⟩ else s'.β[l]?:=by
    grind
   have z:∀ L∈s'.β.set 2 ⟨.nilFunc,[Y.C]⟩,L=⟨.nilFunc,[Y.C]⟩∨L∈s'.β:=λL d=>by
    grind
   have We:aJ (EE k ps ns Y.C) { s' with β:=s'.β.set 2 ⟨.nilFunc,[Y.C]⟩ }:=by
    refine⟨j.hh.mem,by simp[Bl,EE],?_,?_,?_,λx f=>⟨(j.hh.own x f).1,λL d P=>?_⟩⟩
    .intro l B L u d;rw[X] at d
     by_cases e:l=2
     .subst e;rw[bd rfl] at d;cases d;cases u;refine⟨λb'=>if b'=Y.C then aa (.cells (l7 k ps ns++[]).toArray 142 (0,0)) else af,⟨rfl,?_,Cp,bg _,by omega,[],by grind,rfl⟩,λb' ob oO=>?_,λb'=>?_,λb' oO o=>?_⟩
      .intro x f;simp only[l7,pH] at f;obtain⟨_,_,f⟩:=f;simp only[fb,rl,or_false] at f;rcases f with rfl|rfl <;> rfl
      .by_cases e:b'=Y.C
       .subst e;simp only[cu] at oO;cases oO;rw[k7];exact H
       grind
      .by_cases e:b'=Y.C <;> simp[e]
      grind
     .match l,u,e with
      |0,u,_|1,u,_|3,u,_|4,u,_=>cases u;trivial
      |2,_,e=>grind
    .intro l l' L L' d gw x f Rh;rw[X] at d gw
     by_cases e:l=2
     .grind
     .rw[aY e] at d
      by_cases e':l'=2
      .grind
      .rw[aY e'] at gw;exact j.hh.gg l l' L L' d gw x f Rh
    .intro L d x f;rcases z L d with rfl|d
     .grind
     .exact j.hh.lt L d x f
    .rcases z L d with rfl|d
     .grind
     .exact(j.hh.own x f).2 L d P
   have Yf:cD [.dead,.dead,.dD (hU 142 2 (.row Y.C ns.length) ns.length xs),.dead,.cells 139 [.c (.int .u64 0),.c (.int .u32 0)]] s (EE k ps ns Y.C) { s' with β:=s'.β.set 2 ⟨.nilFunc,[Y.C]⟩ }:=by
    have q:=j.st;refine⟨by have:=q.size;grind,λx f=>by have:=q.eN x (by grind);grind,λx o v f=>q.mem x o v (by grind),λx f hnx o=>?_,λL d x f=>?_,?_,by rw[q.os,ew],by rw[q.tape,ew],by rw[q.output,ew],by rw[q.own,eo]⟩
    .rw[q.jz x (by grind) (λL d P=>by
      obtain⟨l,_,_,hl⟩:=p L d x P
      grind) o,eM]
    .rcases z L d with rfl|d
     .grind
     .rcases q.xC L d x f with r1|⟨L0,r1,r2⟩
      .grind
      .obtain⟨l,_,_,hl⟩:=p L0 r1 x r2
       grind
    .intro l B L u d;obtain⟨B1,L1,r1,r2,r3⟩:=Nf.box l B L u d;obtain⟨B3,L3,u1,u2,u3⟩:=q.box l B1 L1 r1 r2;have eB1:=I l B1 r1;have eB3:=I l B3 u1;subst eB1 eB3
     by_cases e:l=2
     .subst e;cases u;rw[y] at d;cases d;exact⟨_,⟨.nilFunc,[Y.C]⟩,rfl,by grind,hv2.symm⟩
     .refine⟨.dead,L3,?_,by grind,r3.trans u3⟩
      match l,u1,e with
      |0,_,_|1,_,_|3,_,_|4,_,_=>rfl
      |2,_,e=>grind
   refine⟨{ s' with β:=s'.β.set 2 ⟨.nilFunc,[Y.C]⟩ },⟨a4,m,⟨⟨j.fr.size,⟨[],?_⟩,λt=>?_⟩,We,h.st.trans Yf⟩,KY,hgo⟩,rfl,hm',λSh U hnC=>⟨U.own,λx f L d P=>?_,U.M,U.lt⟩⟩
   .obtain⟨ls,Rn⟩:=j.fr.defers;rw[lE (λB u=>by grind) Rn]
    trivial
   .have fq:cx 45 d5 s' (K2 ns.length Y.C) a4:=j.fr.le (dh rfl (by simp[ag.cat,ag]))
    exact dc.closed (s:=s') (s':={ s' with β:=s'.β.set 2 ⟨.nilFunc,[Y.C]⟩ }) rfl (fq.slot t) (pY rfl)
   .rcases z L d with rfl|d
    .grind
    .exact U.β x f L d P
 .rintro g' s' ⟨a4,m,h4,hl4,hgo⟩;refine At.goes m g' s' h4 hl4 hgo λs1 h1=>?_
  have h2:At (Au k ps ns C xs) so ((28,.any)::K2 ns.length C) (EE k ps ns C) (a4.put (aa 28) (.tuple #[])) s1:=⟨h1.fr.put (by decide) av,h1.hh,h1.st⟩
  refine h2.ctl rfl (λw=>iW) λs2 h3=>?_
  refine Z s2 _ (h3.fr.le (dh rfl (by simp[ag.cat,ag]))) h3.hh b kk cs S hb Na λe φ' σ' s' a' q f' h' qj=>hQ e φ' σ' s' a' q f' h' (h3.st.trans qj)
end
end
section
open Go.Proofs
abbrev Yg(a:List Bs)(b:Bool):D:=.eK [.one (.c (.sl ae 1 a.length (cS.fn a))),.one (.c (.bool b))]
def dF(k:Int)(ps:List bw)(ns:List Int):Option (List Bs):=if ns.all (λn=>(cU k ps n).isSome) then aa (ns.map λn=>(cU k ps n).getD []) else af
noncomputable def cR0:Code:=wJ EC
noncomputable def cR1:Code:=wJ (kS EC)
noncomputable def cR2:Code:=wJ (kS (kS EC))
def OC:Tryz.f43.body=aa (.seq cR0 (.seq cR1 (.seq cR2 Ya))):=by kernel_rfl
def R3(k:Int)(ps:List bw)(ns:List Int)(i:Nat):List AM.C:=[.str ((cU k ps (ns.getD i 0)).getD []),.bool (cU k ps (ns.getD i 0)).isSome]
def uH(k:Int)(ps:List bw)(ns:List Int):List Bs:=ns.map λn=>(cU k ps n).getD []
def Cq{b p:Bs}(h:eU b=aa p):p.length<=8:=by
 unfold eU at h;split at h
 .rename_i a
  cases h;simp only[bL,bG,ba] at a;omega
 .cases h
def Hz{k:Int}{x:cC}{p:Bs}(h:chunk k x=aa p):p.length<=8:=by
 unfold chunk at h;split at h
 .rename_i q a
  split at h
  .cases h;exact Cq a
  .cases h
 .cases h
theorem yC{k:Int}{ps:List bw}{n:Int}:((cU k ps n).getD []).length<=8:=by
 cases h:cU k ps n with
 |none=>simp
 |some p =>
  obtain⟨q,_,a⟩:=List.exists_of_findSome?_eq_some h;unfold dA at a;split at a
  .simpa using Hz a
  .cases a
def R4{k:Int}{ps:List bw}{ns:List Int}{i:Nat}(hi:i<ns.length){M:Mem}{j:Nat}{c:AM.C}{x:ak}(a:(R3 k ps ns i)[j]?=aa c)(d:(l7 k ps ns)[i*2+j]?=aa x):Rd M x c:=by
 have b:j<2:=(cr.1 a).1;have:=Av (k:=k) (ps:=ps) hi b;rw[nN,this] at d;cases d
 match j,b with
 |0,_ =>
  cases a;have:=yC (k:=k) (ps:=ps) (n:=ns.getD i 0);exact .str rfl (by omega)
 |1,_=>cases a;exact .bool
def _root_.Go.AM.nD.le{P:aq}{X:Cx P}{N:Nat}{Q:Post}{φ b:Fr}{σ:List aV}{c:Code}(h:nD X N c Q b σ)(hl:o8 φ b):nD X N c Q φ σ:=λs a f hh=>h s a (f.le hl) hh
def Cm{k:Int}(g:dM (Cx.work ah) 77 (l6 k))(ps:List bw)(ns:List Int)(t:ns.length<=4000000) :
  Ev (Cx.beside ah) 43 [dI k,cP.sl ps,cI.sl ns] [] (Yg ((dF k ps ns).getD []) (dF k ps ns).isSome) []:=by
 refine cM.uA (cM.z9 (ι:=Unit) Tryz.func43 rfl OC rfl λv=>?_)
 show nD _ 45 _ _ _ _;refine nD.seq (AW.top (AK.of_code ?_));refine bk rfl av ?_;show nD _ 45 _ _ _ _;refine nD.seq (AW.top (AK.of_code ?_));refine bk rfl av ?_;refine AK.Jq (E:=142) (n:=ns.length) tok rfl rfl rfl rfl rfl rfl (by show _*24<=_;omega) (by omega) rfl rfl λC xs=>?_
 refine bk rfl av ?_;show nD _ 45 _ _ _ _;refine nD.seq (AW.top (AK.of_code ?_));refine bk rfl av ?_;show nD _ 45 _ _ _ _;have a:nD (Cx.beside ah) 45 qq (λe φ σ1=>∃ _:Unit,b6 Tryz.f43 0 (Yg ((dF k ps ns).getD []) (dF k ps ns).isSome) [] e φ σ1) (K2 ns.length C) (EE k ps ns C):=by
  refine AW.top (AW.mono (Q:=b6 Tryz.f43 0 (Yg ((dF k ps ns).getD []) (dF k ps ns).isSome) []) (AK.of_code ?_) λ_ _ _ q=>⟨(),q⟩)
  refine bk rfl (show _<=_ by omega) ?_
  refine AK.DR 29 2 (bf:=.row C ns.length) (n:=ns.length) (k:=2) (R3 k ps ns) rfl rfl (λi hi=>⟨rfl,λM j c x u s=>?_⟩) ?_
  .exact R4 hi u s
  refine AK.iu 12 9 1 rfl rfl ?_;refine AK.bP 6 (λi=>i<=ns.length/\∀ j,j<i->(cU k ps (ns.getD j 0)).isSome=ab) (λi:Nat=>[(29,.e (.one (.c (.sl ae 2 ns.length (R3 k ps ns))))),(30,dI ns.length),(31,dI i),(12,.e (.one (.vec 5 1 (uH k ps (ns.take i)).length (cS.fn (uH k ps (ns.take i))))))]) (λi=>[.dead,.dead,.dead,.dead,.dead,.vec 9 1 (uH k ps (ns.take i)).length (cS.fn (uH k ps (ns.take i)))]) (λi=>ns.length-i) 0 rfl ?_ rfl ?_ rfl ⟨by omega,by omega⟩ ?_
  .simp[ag.cat,ag,aP,aP.same,uH]
  .simp[ag.cat,ag,aP,uH]
  rintro i ⟨hi,p⟩
  by_cases h:i<ns.length
  .cases o:(cU k ps (ns.getD i 0)).isSome with
   |true =>
    have d:uH k ps (ns.take (i+1))=uH k ps (ns.take i)++[(cU k ps (ns.getD i 0)).getD []]:=by
     unfold uH;rw[j7,br h,rm]
     grind
    have r:(uH k ps (ns.take i)).length<=4000000:=by simp[uH];omega
    refine aX [(32,ab),(37,ae)] 200 rfl ?_ (AK.aQ (i+1) rfl ?_ ?_ ?_ ?_)
    .simp[-ai,ag,h,R3,o,bx];have:i9.bytes=16:=rfl;rw[this];omega
    .rw[d];simp[-ai,ag.cat,ag,aP.same,R3];exact cS.cq _ _
    .rw[d];simp[-ai,ag.cat,ag,aP.same,R3];exact cS.cq _ _
    .grind
    .omega
   |false =>
    refine aX [(32,ab),(37,ab)] 200 rfl ?_ (AK.eh (b6.zero rfl ?_))
    .simp[-ai,ag,h,R3,o]
    .have l:dF k ps ns=af:=by
      unfold dF;rw[aY]
      grind
     simp[ag.cat,ag,l]
  .have f:i=ns.length:=by omega
   subst f;refine aX [(32,ae)] 200 rfl (by simp[ag]) (AK.leaveD rfl rfl ?_)
   refine dY rfl av (AK.bn rfl ?_);have b:dF k ps ns=aa (uH k ps ns):=by
    unfold dF;rw[bd]
    .rfl
    .rw[bu];intro n m;obtain⟨j,w,rfl⟩:=lO.1 m
     grind
   simp[ag.cat,ag,b,aP.same]
 exact nD.le (σ:=Au k ps ns C xs) (UX (xs:=xs) g t a) (dh rfl (by simp[ag.cat,ag,aP.same]))
end
end Go.AM.R1
namespace Go.AM.R1
def jV(a:UInt8)(s:Bs):iA (a::s)=if a=47 then 0 else if iA s=-1 then -1 else iA s+1:=by
 unfold iA
 grind [Lib.indexByte.eq_def]
def vi:iA []=-1:=by unfold iA;rw[Lib.indexByte.eq_def]
def H4(s:Bs):eW s=dw s:=by
 by_cases i:s.length<=3
 .match s,i with
  |[],_=>simp[eW,dw,cw,ju,vi]
  |[a],_ =>
   by_cases d:a=47
   .subst d;simp[eW,dw,cw,ju,mI,j3,jV,l8,cB]
   .simp[eW,dw,cw,ju,j3,jV,vi,d,l8,cB]
  |[a,b],_ =>
   by_cases d:a=47
   .subst d;simp[eW,dw,cw,ju,mI,j3,jV]
   .by_cases e:b=47
    .subst e;simp[eW,dw,cw,ju,mI,j3,jV,d]
    .simp[eW,dw,cw,ju,j3,jV,vi,d,e]
  |[a,b,c],_ =>
   by_cases d:a=47
   .subst d;simp[eW,dw,cw,ju,mI,j3,jV,l8,cB]
   .by_cases e:b=47
    .subst e;simp[eW,dw,cw,ju,mI,j3,jV,d,l8,cB]
    .have f:¬(b.toNat:Int)=47:=by
      intro h;apply e;apply nK.1;grind
     by_cases g:c=47
     .subst g;simp[eW,dw,cw,ju,mI,j3,jV,d,e,l8,cB]
     .simp[eW,dw,cw,ju,j3,jV,vi,d,e,g,f,l8,cB]
  |_::_::_::_::_,h=>grind
 .have j:dw s=ae:=by unfold dw;grind
  grind [ug]
end Go.AM.R1
namespace Go.AM
theorem sv(a:Bs):bl a []=ae:=by rw[Op.bytesLess.eq_def]
def w5(b:UInt8)(l:Bs):bl [] (b::l)=ab:=by rw[Op.bytesLess.eq_def]
theorem sx(a b:UInt8)(x y:Bs):bl (a::x) (b::y)=(decide (a<b)||a==b&&bl x y):=by rw[Op.bytesLess.eq_def]
theorem qc:∀ a:Bs,bl a a=ae
 |[]=>sv []
 |a::l=>by rw[sx,qc l];simp
def CC:∀ a b:Bs,bl a b=ab∨a=b∨bl b a=ab
 |[],[]=>.inr (.inl rfl)
 |[],b::y=>.inl (w5 b y)
 |a::x,[]=>.inr (.inr (w5 a x))
 |a::x,b::y=>by
  rw[sx,sx];rcases CC x y with h|h|h
  .grind
  .grind
  grind
theorem w6:∀ {a b c:Bs},bl a b=ab->bl b c=ab->bl a c=ab
 |a,b,[],_,e=>by grind [sv]
 |a,[],c::z,d,_=>by grind [sv]
 |[],b::y,c::z,_,_=>w5 c z
 |a::x,b::y,c::z,d,e=>by
  rw[sx,mP,bL,ba,fS] at d e ⊢;rcases d with d|⟨rfl,d⟩
  .grind
  .rcases e with e|⟨rfl,e⟩
   .grind
   .exact .inr ⟨rfl,w6 d e⟩
theorem CE{a b:Bs}(h:bl a b=ab):bl b a=ae:=by
 grind [w6,qc]
def Sx{a b:Bs}:(!(bl b a||b==a))=bl a b:=by
 rcases CC a b with h|h|h
 .have c:(b==a)=ae:=by
   simp only[dt,cW]
   grind [qc]
  grind [CE]
 .grind [qc]
 grind [CE]
namespace R1
def Vm{t:List bC}{i:Nat}(h:∀ k,0<k->k<=i->bl (fz t (k-1)) (fz t k)=ab):∀ j,j<i->bl (fz t j) (fz t i)=ab:=by
 intro j f
 induction i with
 |zero=>omega
 |succ i d =>
  have c:=h (i+1) (by omega) (bg _)
  simp only[pF] at c
  by_cases e:j=i
  .grind
  .exact w6 (d (λk a b=>h k a (by omega)) (by omega)) c
def uh{s:Bs}(h:dw s=ab):(∃ a,s=[a])∨∃ a b,s=[a,47,b]:=by
 unfold dw at h;split at h
 .rename_i d
  match s,d with
  |[a],_=>grind
 .split at h
  .rename_i d
   match s,d with
   |[a,b,c],_ =>
    right
    simp[l8,cB] at h;have e:b=47:=by apply nK.1;grind
    grind
  grind
theorem CF{p q:Bs}(g:dw p=ab)(i:dw q=ab)(f:bl p q=ab):clash p q=under q p:=by
 rcases uh g with⟨a,rfl⟩|⟨a,b,rfl⟩ <;> rcases uh i with⟨c,rfl⟩|⟨c,d,rfl⟩
 .simp[clash,under,ll]
 .by_cases e:a=c
  .subst e;simp[clash,under,ll,cB]
  .have:¬(a.toNat:Int)=c.toNat:=λh=>e (nK.1 (by omega))
   have j:((a.toNat:Int)==(c.toNat:Int))=ae:=by grind
   have k:(c==a)=ae:=by grind
   simp[clash,under,ll,cB]
   grind
 .have:¬(a.toNat:Int)=c.toNat:=by
   grind [UInt8.toNat_inj,sx,sv]
  simp[clash,under,ll,cB,this]
 .simp[clash,under,ll]
theorem yU{t:List bC}{i:Nat}(a:∀ j,j<i->gu t j=ab):jf t i=gu t i:=by
 unfold jf gu;rw[H4,Sx];cases l:dw (fz t i) with
 |false=>simp
 |true =>
  cases n:dZ (AJ t i) with
  |false=>simp
  |true =>
   cases f:(i==0||bl (fz t (i-1)) (fz t i)) with
   |false=>simp
   |true =>
    simp only[dN];have h:∀ j,j<i->bl (fz t j) (fz t i)=ab:=by
     apply Vm
     intro k m b
     by_cases e:k=i
     .grind
     .have:=a k (by omega)
      simp only[gu,bL,mP,fS] at this
      grind
    rw[mg,cf,cf];have g:∀ j,j<i->clash (fz t j) (fz t i)=under (fz t i) (fz t j):=by
     intro j c;have d:dw (fz t j)=ab:=by
      have:=a j c;simp only[gu,bL] at this;exact this.1.1.1
     grind [CF]
    grind
def Hv(t:List bC):og t=dq t:=by
 unfold og dq
 congr 1
 rw[mg,cf,cf]
 constructor
 .intro h i
  induction i using Nat.strongRecOn with
  |_ i a=>grind [yU]
 grind [yU]
end R1
end Go.AM
namespace Go.AM.R1
section
open Go.Proofs
variable {X:Cx ah}
def Oi(a:Int)(b:C) (n:Int):Ev X 23 [.e (.agg [.c (.int .i64 a),.c b]),.e (.one (.c (.rp [.int .i64 n])))] [] (dB (a==n)) []:=by
 refine Ev.bQ Tryz.func23 rfl λd=>?_
 refine bk rfl av (AK.bn rfl ?_);simp[ag]
def X3:dk:=λargs σ=>match args,σ with
 |[.e (.agg [.c (.int .i64 a0),.c b]),.e (.one (.c (.rp [.int .i64 n])))],[]=>aa (dB (a0==n),[],[])
 |_,_=>af
def t23:dM X 23 X3:=by
 intro args σ res σ' obs h a;unfold X3 at h;split at h
 .cases h;exact Oi _ _ _
 .cases h
abbrev Qb(n:Int):D:=.e (.one (.c (.fn (.func 23) [] [.rp [.int .i64 n]])))
def qp(l:List cy) (n:Int):Int:=match l.findIdx? (λx=>x.1==n) with|some i=>i|none=>-1
def KH{t:List cy}{n:Int}{i:Nat}(hi:i<t.length)(h:(t.getD i (0,[])).1=n)(a:∀ j,j<i->(t.getD j (0,[])).1≠n):qp t n=i:=by
 have:t.findIdx? (λf=>f.1==n)=aa i:=by
  rw[qu];refine⟨hi,?_,λj c=>?_⟩
  .simpa[ai,br hi] using h
  .have b:j<t.length:=by omega
   simpa[ai,br b] using a j c
 rw[qp,this]
def Eo{t:List cy}{n:Int}(a:∀ j,j<t.length->(t.getD j (0,[])).1≠n):qp t n=-1:=by
 have:t.findIdx? (λf=>f.1==n)=af:=by
  rw[qX];intro f c;obtain⟨j,b,rfl⟩:=dH c;simpa[ai,br b] using a j b
 rw[qp,this]
def KI(t:List cy) (n:Int):Ev X 22 [cp.sl t,Qb n] [] (dI (qp t n)) []:=by
 refine Ev.bQ Tryz.func22 rfl λf=>?_
 have e:=f.sl 0 rfl;have b:bD X [(23,X3)]:=.cons t23 .nil;refine aC b [] 100 rfl av ?_;refine AK.jP (λi=>i<=t.length/\∀ j,j<i->(t.getD j (0,[])).1≠n) (λi:Nat=>[(0,cp.sl t),(1,Qb n),(7,dI t.length),(8,dI i)]) (λ_=>[]) (λi=>t.length-i) 0 rfl ?_ rfl av ⟨by omega,by omega⟩ ?_
 .simp[ag.cat,ag,aP.same]
 rintro i ⟨hi,a⟩
 by_cases h:i<t.length
 .by_cases c:(t.getD i (0,[])).1=n
  .refine aC b [(9,ab),(16,ab)] 100 rfl ?_ (AK.gK (b6.zero rfl ?_))
   .simp only[ag,bA];exact⟨fS.2 c,by omega,by omega,cn (by omega)⟩
   .simp[ag,KH h c a]
  .refine aC b [(9,ab),(16,ae)] 100 rfl ?_ (AK.fW (i+1) rfl ?_ rfl av ?_ ?_)
   .simp only[ag,bA];exact⟨by simp only[bx];omega,dt.2 c,by omega,by omega,cn (by omega)⟩
   .simp[ag.cat,ag,aP.same]
   .refine⟨by omega,λj d=>?_⟩
    rcases sS.1 d with d|rfl
    .exact a j d
    .exact c
   .omega
 .refine aC b [(9,ae)] 100 rfl (by simp[ag];omega) (AK.leave rfl rfl ?_)
  refine aC b [] 100 rfl av (AK.bn rfl ?_);simp[ag,Eo (λj d=>a j (by omega))]
def X4:dk:=λargs σ=>match args,σ with
 |[d,.e (.one (.c (.fn (.func 23) [] [.rp [.int .i64 n]])))],[]=>match kR 2 d with
  |none=>af
  |some (m,es)=>aa (dI (qp (cp.list m es) n),[],[cp.fits m es])
 |_,_=>af
def t22:dM X 22 X4:=by
 intro args σ res σ' obs h a;unfold X4 at h;split at h
 .rename_i d n
  split at h
  .cases h
  rename_i m es hd
  cases h;exact(KI _ n).args (λ_ vs=>cz.imp (λ_=>cp.jS hd a) (cz.imp (λ_ r=>r) (λ_ r=>r)) vs)
 .cases h
def Ci(t:List cy) (n:Int):(qp t n=-1/\t.find? (λx=>x.1==n)=af)∨∃ i:Nat,i<t.length/\qp t n=i/\t.find? (λx=>x.1==n)=aa (t.getD i (0,[])):=by
 unfold qp;cases h:t.findIdx? (λx=>x.1==n) with
 |none =>
  refine .inl ⟨rfl,?_⟩;rw[qX] at h;exact rh.2 λx d=>by simp[h x d]
 |some i =>
  rw[qu] at h;obtain⟨hi,c,b⟩:=h;refine .inr ⟨i,hi,rfl,?_⟩;rw[vo];refine⟨?_,i,hi,?_,λj a=>?_⟩
  .simpa[ai,br hi] using c
  .simp[ai,br hi]
  .have:=b j a;simpa using this
def fileOf(k:Int)(ps:List bw)(x:gj):Option bC:=match dF k ps x.2 with
 |none=>af
 |some l=>match fQ l with
  |none=>af
  |some t=>aa (x.1,t)
def cT(k:Int)(ps:List bw)(l:List gj):List bC:=l.map λx=>(fileOf k ps x).getD ([],[])
def cm(k:Int)(s:cy)(ps:List bw):Option (List bC) :=
 if ck k&&s.2.all (λx=>(fileOf k ps x).isSome)&&dq (cT k ps s.2) then aa (cT k ps s.2) else af
abbrev Gf(a:List bC)(b:Bool):D:=.eK [.one (.c (.sl ae 2 a.length (cF.fn a))),.one (.c (.bool b))]
abbrev Ez(s:cy):D:=.e (.agg [.c (.int .i64 s.1),.c (.sl ae 2 s.2.length (cL.fn s.2))])
theorem pn{k:Int}{ps:List bw}{l:List gj}{i:Nat}(h:i<l.length):cT k ps (l.take (i+1))=cT k ps (l.take i)++[(fileOf k ps (l.getD i ([],[]))).getD ([],[])]:=by
 unfold cT
 grind [List.take_add_one]
def po{k:Int}{ps:List bw}{s:cy}{i:Nat}(h:i<s.2.length)(a:fileOf k ps (s.2.getD i ([],[]))=af):cm k s ps=af:=by
 unfold cm;rw[aY]
 grind
def xR{k:Int}{ps:List bw}{ns:List Int}{l:List Bs}(h:dF k ps ns=aa l)(b:ns.length<=4000000):l.flatten.length<=140737488355328/\l.length<=4000000:=by
 unfold dF at h;split at h
 .rename_i a
  cases h;refine⟨?_,by grind⟩
  have key:∀ ns:List Int,(ns.all λn=>(cU k ps n).isSome)=ab->(ns.map λn=>(cU k ps n).getD []).flatten.length<=8*ns.length:=by
   intro ns
   induction ns with
   |nil=>grind
   |cons n ns ih =>
    intro h;simp only[List.all_cons,bL] at h
    grind [yC]
  grind
 grind
def Cl(k:Int)(s:cy)(ps:List bw)(J:s.2.length<=4000000)(F:∀ x∈s.2,x.2.length<=4000000) :
  Ev (Cx.beside ah) 24 [dI k,Ez s,cP.sl ps] [] (Gf ((cm k s ps).getD []) (cm k s ps).isSome) []:=by
 refine Ev.bQ Tryz.func24 rfl λH=>?_
 have z:=H.sl 2 rfl;have b:bD (Cx.beside ah) [(41,jZ aI (λk=>dB (ck k)) λ_=>[])]:=.cons t41 .nil
 cases g:ck k with
 |false =>
  refine aC b [(15,ae),(16,ab)] 100 rfl ?_ (AK.bn rfl ?_)
  .simp[ag,g]
  .simp[ag,ag.cat,cm,g]
 |true =>
  have r:dM (Cx.work ah) 77 (l6 k):=RP UD g;refine aC b [(15,ab),(16,ae),(1000004,ab)] 100 rfl ?_ ?_
  .simp[ag,g]
  refine AK.iu 8 60 2 rfl rfl ?_;refine aC b [] 100 rfl av ?_;refine AK.bP 2 (λi=>i<=s.2.length/\∀ j,j<i->(fileOf k ps (s.2.getD j ([],[]))).isSome=ab) (λi:Nat=>[(0,dI k),(2,cP.sl ps),(4,.e (.one (.ptr 0 0))),(8,.e (.one (.vec 1 2 (cT k ps (s.2.take i)).length (cF.fn (cT k ps (s.2.take i)))))),(18,cL.sl s.2),(19,dI s.2.length),(20,dI i)]) (λi=>[.cells 64 [.c (.int .i64 s.1),.c (.sl ae 2 s.2.length (cL.fn s.2))],.vec 60 2 (cT k ps (s.2.take i)).length (cF.fn (cT k ps (s.2.take i)))]) (λi=>s.2.length-i) 0 rfl ?_ rfl ?_ rfl ⟨by omega,by omega⟩ ?_
  .simp[ag.cat,ag,aP.same,aP.nil,cT]
  .simp[ag.cat,ag,aP.same,aP.nil,cT]
  rintro i ⟨hi,y⟩
  by_cases h:i<s.2.length
  .have u:s.2.getD i ([],[])∈s.2:=by grind
   generalize d:s.2.getD i ([],[])=x at u;have n:=F x u;have f:=Cm r ps x.2 n;cases a:dF k ps x.2 with
   |none =>
    rw[a] at f;refine aC b [(21,ab)] 100 rfl ?_ ?_
    .exact⟨by omega,by omega,cn (by omega)⟩
    refine AK.cQ (d▸f) [] rfl ?_;refine aC b [(33,ab)] 100 rfl ?_ (AK.eh (b6.zero rfl ?_))
    .simp[ag]
    .have e:fileOf k ps x=af:=by simp[fileOf,a]
     rw[po h (by grind)]
     simp[ag,ag.cat]
   |some l =>
    obtain⟨p,E⟩:=xR a n;rw[a] at f;have q:=Ey (X:=Cx.beside ah) l p;refine aC b [(21,ab)] 100 rfl ?_ ?_
    .exact⟨by omega,by omega,cn (by omega)⟩
    refine AK.cQ (d▸f) [] rfl ?_;refine aC b [(33,ae)] 100 rfl ?_ ?_
    .simp[ag]
    refine AK.cQ q [] rfl ?_;cases A:fQ l with
    |none =>
     refine aC b [(40,ab)] 100 rfl ?_ (AK.eh (b6.zero rfl ?_))
     .simp[ag]
     .have e:fileOf k ps x=af:=by simp[fileOf,a,A]
      rw[po h (by grind)]
      simp[ag,ag.cat]
    |some t =>
     have e:fileOf k ps x=aa (x.1,t):=by simp[fileOf,a,A]
     have D:s.2.getD (i:Int).toNat cL.bE=x:=d;have I:(cT k ps (s.2.take i)).length<=4000000:=by simp[cT];omega
     have v:aP ((cT k ps (s.2.take i)).length+1) (cR (cT k ps (s.2.take i)).length (cF.fn (cT k ps (s.2.take i))) λo=>[[C.str (s.2.getD (i:Int).toNat cL.bE).1,C.str ((aa t).getD [])]].getD o []) (cF.fn (cT k ps (s.2.take (i+1)))):=by
      rw[pn h,d,e,D];exact cF.cq (cT k ps (s.2.take i)) (x.1,t)
     have w:(cT k ps (s.2.take i)).length+1=(cT k ps (s.2.take (i+1))).length:=by grind [pn]
     refine aC b [(40,ae)] 100 rfl ?_ (AK.aQ (i+1) rfl ?_ ?_ ?_ ?_)
     .refine⟨by simp only[bx];omega,rfl,rfl,?_,rfl⟩
      show _*32<=_;omega
     .refine ag.cat.2 ⟨rfl,ag.cat.2 ⟨⟨rfl,aP.same⟩,ag.cat.2 ⟨av,ag.cat.2 ⟨⟨w,v⟩,ag.cat.2 ⟨⟨rfl,aP.same⟩,ag.cat.2 ⟨rfl,ag.cat.2 ⟨?_,av⟩⟩⟩⟩⟩⟩⟩;simp[ag]
     .exact ag.cat.2 ⟨ag.cat.2 ⟨rfl,ag.cat.2 ⟨⟨rfl,aP.same⟩,av⟩⟩,ag.cat.2 ⟨⟨w,v⟩,av⟩⟩
     .grind
     .omega
  .have e:i=s.2.length:=by omega
   subst e;refine aC b [(21,ae)] 100 rfl (by simp[ag]) (AK.leaveD rfl rfl ?_)
   rw[b7];have m:=EA (X:=Cx.beside ah) (cT k ps s.2);rw[Hv] at m;refine aC b [] 100 rfl av ?_;refine AK.cQ m [] rfl ?_;have G:s.2.all (λx=>(fileOf k ps x).isSome)=ab:=bu.2 λx u=>by
    grind [List.mem_iff_getElem]
   cases B:dq (cT k ps s.2) with
   |false =>
    refine aC b [(51,ab)] 100 rfl ?_ (AK.bn rfl ?_)
    .simp[ag]
    .simp[ag,ag.cat,cm,B]
   |true =>
    refine aC b [(51,ae)] 100 rfl ?_ (AK.bn rfl ?_)
    .simp[ag]
    .simp[ag,ag.cat,cm,B,g,G,aP.same]
abbrev aZ:=List bw×List cy×List (Int×Int)
def iT(s:aZ):Prop:=∀ x∈s.2.1,x.2.length<=4000000/\∀ y∈x.2,y.2.length<=4000000
abbrev eH(s:aZ):D:=.e (.agg [.c (.sl ae 2 s.1.length (cP.fn s.1)),.c (.sl ae 2 s.2.1.length (cp.fn s.2.1)),.c (.sl ae 2 s.2.2.length (cH.fn s.2.2))])
def c9(k:Int)(s:aZ) (no:Int):Option (List bC):=match s.2.1.find? (λx=>x.1==no) with
 |none=>af
 |some x=>cm k x s.1
def tp:dk:=Dw aI (Ho cL) (aL cP) (λk s ps=>Gf ((cm k s ps).getD []) (cm k s ps).isSome) λ_ s _=>[s.2.length<=4000000,∀ x∈s.2,x.2.length<=4000000]
def yD:dM (Cx.beside ah) 24 tp:=.I8 λk s ps h=>Cl k s ps h.1 h.2
def si(k:Int)(s:aZ) (no:Int)(l:iT s) :
  Ev (Cx.beside ah) 9 [dI k,eH s,dI no] [] (Gf ((c9 k s no).getD []) (c9 k s no).isSome) []:=by
 refine Ev.bQ Tryz.func9 rfl λm=>?_
 have b:bD (Cx.beside ah) [(22,X4),(24,tp)]:=.cons t22 (.cons yD .nil);have f:cp.list s.2.1.length (cp.fn s.2.1)=s.2.1:=cp.list_fn _;refine aC b [(1000001,ab)] 100 rfl av ?_;refine AK.freeze 5 1 rfl rfl rfl ?_;rcases Ci s.2.1 no with⟨a,c⟩|⟨i,hi,a,c⟩
 .refine aC b [(14,ab)] 100 rfl ?_ (AK.bn rfl ?_)
  .simp only[ag,f,a];exact⟨rfl,cp.aH _⟩
  .simp[ag.cat,ag,c9,c]
 .have g:s.2.1.getD i (0,[])∈s.2.1:=by grind
  obtain⟨h,j⟩:=l _ g;have e:c9 k s no=cm k (s.2.1.getD i (0,[])) s.1:=by simp only[c9,c]
  have d:s.2.1.getD (qp (cp.list s.2.1.length (cp.fn s.2.1)) no).toNat cp.bE=s.2.1.getD i (0,[]):=by grind
  refine aC b [(14,ae)] 100 rfl ?_ (AK.bn rfl ?_)
  .simp only[ag,d,cL.list_fn,f,a];exact⟨cL.aH _,cP.aH _,h,j,by omega,by omega,eC (by omega),cp.aH _⟩
  .simp only[d,cL.list_fn,cP.list_fn,e];exact ag.cat.2 ⟨⟨av,aP.same⟩,ag.cat.2 ⟨av,av⟩⟩
def Ou:Arg aZ:=⟨eH,λd=>match d with
 |.e (.agg [.c a,.c b,.c c])=>match kR 2 (.e (.one (.c a))) with
  |some (g,k)=>match kR 2 (.e (.one (.c b))) with
   |some (m,i)=>match kR 2 (.e (.one (.c c))) with
    |some (l,n)=>aa ((cP.list g k,cp.list m i,cH.list l n),[cP.fits g k,cp.fits m i,cH.fits l n])
    |none=>af
   |none=>af
  |none=>af
 |_=>af,λ{d a o} h j σ s v r=>by
 split at h
 .split at h
  .rename_i g k t
   split at h
   .rename_i m i x
    split at h
    .rename_i l n p
     cases h;obtain⟨vs,u,f⟩:=r
     match vs,f with
     |[],f=>exact f.elim
     |[_],f=>exact f.2.elim
     |[_,_],f=>exact f.2.2.elim
     |_::_::_::_::_,f=>exact f.2.2.2.elim
     |[q,y,w],f =>
      exact⟨_,u,cP.jS (σ:=[]) (s:=s) (v:=q) t j.1 f.1,cp.jS (σ:=[]) (s:=s) (v:=y) x j.2.1 f.2.1,cH.jS (σ:=[]) (s:=s) (v:=w) p j.2.2 f.2.2.1,av⟩
    grind
   grind
  grind
 grind⟩
abbrev fX(p:bw)(i:Nat):cC:=p.2.getD i (0,[])
def iH(k:Int)(p:bw)(i:Nat):Bool:=right k (fX p i)&&(i==0||decide ((fX p (i-1)).1<(fX p i).1))
theorem tq(k:Int)(p:bw):jm k p=((bh p.2.length).all (iH k p)&&(ck k&&decide (1<=p.1)&&decide (p.1<=99)&&decide (1<=p.2.length)&&decide (p.2.length<=4))):=by
 have e:(p.2.all (right k)&&Ar (p.2.map (·.1)))=(bh p.2.length).all (iH k p):=by
  rw[mg,bL,bu,bu];unfold Ar;rw[bu];have c:∀ i,i<p.2.length->(p.2.map (·.1)).getD i 0=(fX p i).1:=λi hi=>by grind
  constructor
  .rintro⟨b,a⟩ i hi;have hi:=rq.1 hi;have q:=a i (by grind)
   rw[c i hi] at q;unfold iH;rw[b (fX p i) (by grind),dN]
   rcases oQ i with rfl|f
   .rfl
   grind
  .intro h;refine⟨λx d=>?_,λi hi=>?_⟩
   .obtain⟨i,hi,rfl⟩:=lO.1 d;have:=h i (rq.2 hi);simp only[iH,bL] at this
    grind
   .have hi:i<p.2.length:=by grind
    have:=h i (rq.2 hi);simp only[iH,bL] at this
    grind
 rw[<-e];unfold jm;cases ck k <;> cases decide (1<=p.1) <;> cases decide (p.1<=99) <;> cases decide (1<=p.2.length) <;> cases decide (p.2.length<=4) <;> simp
def yE{k:Int}{p:bw}{i:Nat}(hi:i<p.2.length)(h:iH k p i=ae):jm k p=ae:=by
 grind [tq]
theorem qK{k:Int}{x:cC}(a:ck k=ab):(chunk k x).isSome=right k x:=by
 unfold chunk right
 grind
def Hw(k:Int)(p:bw)(d:ck k=ab)(v:p.2.length<=4000000):Ev X 161 [dI k,xQ p] [] (dB (jm k p)) []:=by
 refine Ev.bQ Tryz.func161 rfl λy=>?_
 have a:bD X [(41,jZ aI (λk=>dB (ck k)) λ_=>[]),(173,p9 To aI (λx k=>An (chunk k x)) λ_ k=>[ck k=ab])]:=.cons t41 (.cons (KM UD) .nil)
 refine aC a [] 100 rfl av ?_;refine AK.bP 1 (λi=>i<=p.2.length/\∀ j,j<i->iH k p j=ab) (λi:Nat=>[(0,dI k),(3,.e (.one (.ptr 0 0))),(10,dK.sl p.2),(11,dI p.2.length),(12,dI i)]) (λ_=>[.cells 85 [.c (.int .i64 p.1),.c (sP p)]]) (λi=>p.2.length-i) 0 rfl ?_ rfl ?_ rfl ⟨by omega,by omega⟩ ?_
 .simp[ag.cat,ag,aP.same]
 .simp[ag.cat,ag,aP.same]
 rintro i ⟨hi,l⟩
 by_cases h:i<p.2.length
 .cases m:right k (fX p i) with
  |false =>
   have o:(chunk k (fX p i)).isSome=ae:=by grind [qK]
   refine aC a [(13,ab),(24,ab),(40,ab)] 100 rfl ?_ (AK.eh (b6.zero rfl ?_))
   .refine⟨rfl,?_,d,by omega,by omega,cn (by omega)⟩
    grind
   .rw[yE h (by simp only[iH,m,pK])]
    simp[ag]
  |true =>
   have o:(!(chunk k (fX p i)).isSome)=ae:=by grind [qK]
   by_cases w:i=0
   .subst w;refine aC a [(13,ab),(24,ae),(27,ae),(40,ae)] 100 rfl ?_ (AK.aQ 1 rfl ?_ ?_ ⟨by omega,λj g=>?_⟩ (by omega))
    .simp only[ag,bx]
     grind
    .simp[ag.cat,ag,aP.same]
    .simp[ag.cat,ag,aP.same]
    .have:j=0:=by omega
     subst this;simp only[iH,m,dN];rfl
   .have s:((i:Int)-1).toNat=i-1:=by omega
    cases t:decide ((fX p (i-1)).1<(fX p i).1) with
    |false =>
     refine aC a [(13,ab),(24,ae),(27,ab),(38,ab),(40,ab)] 100 rfl ?_ (AK.eh (b6.zero rfl ?_))
     .have q:(p.2.getD ((i:Int)-1).toNat dK.bE).1=(fX p (i-1)).1:=by rw[s];rfl
      refine⟨rfl,cn ?_,by omega,by omega,by simp only[bx];omega,cn (by omega),o,d,by omega,by omega,cn (by omega)⟩
      rw[q];show (fX p i).1<=_
      grind
     .rw[yE h (by simp only[iH,m,t,dN,Bool.or_false];grind)]
      simp[ag]
    |true =>
     refine aC a [(13,ab),(24,ae),(27,ab),(38,ae),(40,ae)] 100 rfl ?_ (AK.aQ (i+1) rfl ?_ ?_ ⟨by omega,λj g=>?_⟩ (by omega))
     .have q:(p.2.getD ((i:Int)-1).toNat dK.bE).1=(fX p (i-1)).1:=by rw[s];rfl
      refine⟨by simp only[bx];omega,rfl,eC ?_,by omega,by omega,by simp only[bx];omega,cn (by omega),o,d,by omega,by omega,cn (by omega)⟩
      rw[q];show ¬(fX p i).1<=_
      grind
     .simp[ag.cat,ag,aP.same]
     .simp[ag.cat,ag,aP.same]
     .rcases sS.1 g with g|rfl
      .grind
      .simp only[iH,m,t,dN,Bool.or_true]
 .have e:i=p.2.length:=by omega
  subst e;refine aC a [(13,ae)] 100 rfl (by simp[ag]) (AK.leaveD rfl rfl ?_)
  have u:(bh p.2.length).all (iH k p)=ab:=bu.2 λj g=>l j (rq.1 g)
  rw[tq,u,d]
  by_cases b:1<=p.1
  .by_cases f:p.1<=99
   .by_cases n:1<=p.2.length
    .by_cases r:p.2.length<=4
     .refine aC a [(43,ab),(47,ab),(52,ab),(58,ab),(64,ab)] 100 rfl ?_ (AK.bn rfl ?_)
      .exact⟨cn (by omega),cn (by omega),cn f,cn b,d⟩
      .simp[ag,b,f,n,r]
     .refine aC a [(43,ab),(47,ab),(52,ab),(58,ab),(64,ae)] 100 rfl ?_ (AK.bn rfl ?_)
      .exact⟨eC (by omega),cn (by omega),cn f,cn b,d⟩
      .simp[ag,b,f,n,r]
    .refine aC a [(43,ab),(47,ab),(52,ab),(58,ae)] 100 rfl ?_ (AK.bn rfl ?_)
     .exact⟨eC (by omega),cn f,cn b,d⟩
     .simp[ag,b,f,n]
   .refine aC a [(43,ab),(47,ab),(52,ae)] 100 rfl ?_ (AK.bn rfl ?_)
    .exact⟨eC f,cn b,d⟩
    .simp[ag,b,f]
  .refine aC a [(43,ab),(47,ae)] 100 rfl ?_ (AK.bn rfl ?_)
   .exact⟨eC b,d⟩
   .simp[ag,b]
def Gg:dk:=p9 aI (Ho dK) (λk p=>dB (jm k p)) λk p=>[ck k=ab,p.2.length<=4000000]
def Ov:dM X 161 Gg:=.tm λk p h=>Hw k p h.1 h.2
def HB(l:List (Int×Int))(f:l.length<=4000000):Ev X 113 [cH.sl l] [] (.e (.one (.bp 0 (.sl l.length 2 0 l.length)))) [.buf 90 2 l.length (cH.fn l)]:=by
 refine Ev.bQ Tryz.func113 rfl λd=>?_
 refine bk rfl av ?_;refine AK.B4 tok rfl rfl rfl rfl rfl rfl λb c=>?_
 cases b with
 |true =>
  obtain rfl:=hZ (c rfl);refine bk rfl av ?_;refine AK.RE 2 90 2 (cH.fn []) rfl ?_;refine AK.dJ [0] rfl ?_ rfl rfl rfl (λj a=>absurd a (by simp))
  simp[ag]
 |false =>
  refine aX [] 7 rfl av ?_;refine AK.wm 5 90 2 (cH.fn []) rfl ?_;refine bk rfl ⟨rfl,rfl,show (0+l.length)*16<=_ by omega⟩ ?_
  refine AK.norm [.buf 90 2 l.length (cH.fn l)] rfl ?_ ?_
  .simp[ag.cat,ag,aP,cR]
  refine AK.dJ [0] rfl ?_ rfl rfl rfl (λj a=>absurd a (by simp))
  simp[ag];rfl
def wL(l:List (Int×Int))(d:l.length<=4000000):Ev X 113 [cH.sl l] [] (cH.sl l) []:=by
 refine Ev.bQ Tryz.func113 rfl λc=>?_
 refine bk rfl av ?_;refine AK.B4 tok rfl rfl rfl rfl rfl rfl λb a=>?_
 cases b with
 |true =>
  obtain rfl:=hZ (a rfl);refine bk rfl av ?_;refine AK.bn rfl ?_;simp[ag,ag.cat,aP]
 |false =>
  refine bk rfl ⟨show (0+l.length)*16<=_ by omega,.inl rfl⟩ ?_
  refine AK.bn rfl ?_;simp[ag,ag.cat,aP,cR]
def EF(l:List cC)(d:l.length<=4000000):Ev X 165 [dK.sl l] [] (dK.sl l) []:=by
 refine Ev.bQ Tryz.func165 rfl λc=>?_
 refine bk rfl av ?_;refine AK.B4 tok rfl rfl rfl rfl rfl rfl λb a=>?_
 cases b with
 |true =>
  obtain rfl:=hZ (a rfl);refine bk rfl av ?_;refine AK.bn rfl ?_;simp[ag,ag.cat,aP]
 |false =>
  refine bk rfl ⟨show (0+l.length)*24<=_ by omega,.inl rfl⟩ ?_
  refine AK.bn rfl ?_;simp[ag,ag.cat,aP,cR]
def EG(l:List Int)(d:l.length<=4000000):Ev X 166 [cI.sl l] [] (cI.sl l) []:=by
 refine Ev.bQ Tryz.func166 rfl λc=>?_
 refine bk rfl av ?_;refine AK.B4 tok rfl rfl rfl rfl rfl rfl λb a=>?_
 cases b with
 |true =>
  obtain rfl:=hZ (a rfl);refine bk rfl av ?_;refine AK.bn rfl ?_;simp[ag,ag.cat,aP]
 |false =>
  refine bk rfl ⟨show (0+l.length)*8<=_ by omega,.inl rfl⟩ ?_
  refine AK.bn rfl ?_;simp[ag,ag.cat,aP,cR]
end
end Go.AM.R1
namespace Go.AM
section
open Go.Conc (G)
section
variable {P:aq}{X:Cx P}{N:Nat}{K:List It}{φ:Fr}{σ:List aV}
def AK.dE{ι:Type}{T:List (Nat×TI)}{fn:Func}{h:Nat}{res:ι->D}{σ':ι->List aV}(i:ι)(ks:List Nat){l:Nat}{E:ar}{cs:List A}{t:Tmp}{ty:ar}{b:TI}{ps:List Prop}
  (m:fn.results.toList=[.cell t ty]) (hi:bF T ty=aa b) (k:b.agg=ab) (q:look φ t=.e (.one (.ptr l 0))) (hl:fw l σ=aa (.cells E cs)) (a:aG cs.length b.size=ab) (g:fK l ks=ae)
  (c:Dt (.e (.agg cs)) (jA ks (res i))=aa ps) (o:ag ps) (f:u7 ks.length (res i)=ab) (p:kL ks σ=aa (σ' i)) (d:lg (σ' i)=ab) (hn:eg ks=ab) (n:∀ j,j<h->ks[j]?=aa j) :
  AK X N (λe φ σ1=>∃ j,Kq T fn h (res j) (σ' j) e φ σ1) (.code .ret::K) .normal φ σ :=
 AK.ret ⟨i,.inl rfl,ks,l,E,cs,t,ty,b,ps,af,nofun,m,hi,k,bX a,q,dz hl,B8 g,c,o,f,p,d,hn,n⟩
def AK.l3{ι:Type}{T:List (Nat×TI)}{fn:Func}{k:Nat}{res:ι->D}{σ':ι->List aV}(i:ι)(ks:List Nat){l:Nat}{E:ar}{cs:List A}{t u:Tmp}{ty:ar}{b:TI}{x:E1}{ps:List Prop}
  (n:fn.results.toList=[.cell t ty,.tmp u]) (hi:bF T ty=aa b) (m:b.agg=ab) (s:look φ t=.e (.one (.ptr l 0))) (r:look φ u=.e x) (hl:fw l σ=aa (.cells E cs)) (a:aG cs.length b.size=ab) (g:fK l ks=ae)
  (c:Dt (.eK [.agg cs,x]) (jA ks (res i))=aa ps) (q:ag ps) (f:u7 ks.length (res i)=ab) (o:kL ks σ=aa (σ' i)) (d:lg (σ' i)=ab) (hn:eg ks=ab) (p:∀ j,j<k->ks[j]?=aa j) :
  AK X N (λe φ σ1=>∃ j,Kq T fn k (res j) (σ' j) e φ σ1) (.code .ret::K) .normal φ σ :=
 AK.ret ⟨i,.inl rfl,ks,l,E,cs,t,ty,b,ps,aa (u,x),λ_ h=>by cases h;exact r,n,hi,m,bX a,s,dz hl,B8 g,c,q,f,o,d,hn,p⟩
def Ev.iv{T:List (Nat×TI)}(d:dg P T){f:aW}{fn:Func}{c:Code}{args:List D}{σ σ':List aV}{res:D}(g:P.funcs[f]?=aa fn)(a:(fn.name== "runtime.NumGoroutine")=ae)(hb:fn.body=aa c)(b:bo args.length fn.ntmps=ab)
  (h:Fits args σ->AK X fn.ntmps (λe φ σ1=>∃ _:Unit,Kq T fn σ.length res σ' e φ σ1) [.code c] .normal (js 0 args) σ):Ev X f args σ res σ' :=
 (cM.ga (ι:=Unit) (σ':=λ_=>σ') (res:=λ_=>res) d g a hb b h).uA
end
end
end Go.AM
namespace Go.AM.R1
section
open Go.Proofs
variable {X:Cx ah}
def _root_.Go.AM.hY.gF{α:Type}(c:hY α)(l:List α){i:Nat}(h:i<l.length)(d:α):aP (i+1) (cR i (c.fn (l.take i)) (λq=>[c.enc (l.getD i d)].getD q [])) (c.fn (l.take (i+1))):=by
 have e:l.take (i+1)=l.take i++[l.getD i d]:=by rw[j7];simp[ai,br h]
 have:=c.cq (l.take i) (l.getD i d);rw[<-e,show (l.take i).length=i by simp;omega] at this
 exact this
abbrev U1:dk:=jZ (aL dK) (λl=>dK.sl l) λl=>[l.length<=4000000]
def Yj:dM X 165 U1:=.ox λl h=>EF l h
abbrev U2:dk:=jZ (aL cI) (λl=>cI.sl l) λl=>[l.length<=4000000]
def Yk:dM X 166 U2:=.ox λl h=>EG l h
def Az(p:bw)(b:p.2.length<=4000000):Ev X 111 [xQ p] [] (xQ p) []:=by
 refine Ev.iv tok Tryz.func111 rfl rfl rfl λd=>?_
 have a:bD X [(165,U1)]:=.cons Yj .nil;refine aC a [] 100 rfl ?_ ?_
 .simp only[ag,dK.list_fn];exact⟨dK.aH _,b⟩
 refine AK.dE () [] rfl rfl rfl rfl rfl rfl rfl rfl ?_ rfl rfl rfl rfl (λj c=>absurd c (by simp))
 simp[ag,ag.cat,aP.same,dK.list_fn]
abbrev Gk:dk:=jZ (Ho dK) (λp=>xQ p) λp=>[p.2.length<=4000000]
def K5:dM X 111 Gk:=.ox λp h=>Az p h
def AA(x:cy)(l:x.2.length<=4000000)(d:∀ y∈x.2,y.2.length<=4000000):Ev X 112 [Ez x] [] (Ez x) []:=by
 refine Ev.iv tok Tryz.func112 rfl rfl rfl λk=>?_
 have a:bD X [(166,U2)]:=.cons Yk .nil;refine aC a [(1000002,ab)] 100 rfl av ?_;refine AK.gm 2 1 92 2 (cL.fn []) rfl rfl ?_;refine aC a [] 100 rfl av ?_;refine AK.bP 4 (λi=>i<=x.2.length) (λi:Nat=>[(2,.e (.one (.ptr 1 0))),(3,.e (.one (.ptr 2 0))),(10,cL.sl x.2),(11,dI x.2.length),(12,dI i)])
  (λi=>[.cells 64 [.c (.int .i64 x.1),.c (.sl ae 2 x.2.length (cL.fn x.2))],.cells 64 [.c (.int .i64 0),.c (.sl ab 0 0 λ_=>[])],.cells 64 [.c (.int .i64 x.1),.vec 3 2 i (cL.fn (x.2.take i))],.vec 92 2 i (cL.fn (x.2.take i))]) (λi=>x.2.length-i) 0 rfl ?_ rfl ?_ rfl (by omega) ?_
 .simp[ag.cat,ag,aP.same]
 .simp[ag.cat,ag,aP]
 intro i hi
 by_cases h:i<x.2.length
 .have g:x.2.getD i ([],[])∈x.2:=by rw[ai,br h];exact nG h
  refine aC a [(13,ab)] 100 rfl ?_ (AK.aQ (i+1) rfl ?_ ?_ ?_ ?_)
  .have q:=d _ g;have b:x.2.getD (i:Int).toNat cL.bE=x.2.getD i ([],[]):=by rw[bA];rfl
   simp only[ag,b,cI.list_fn,bx];exact⟨by omega,av,av,show (i+1)*40<=_ by omega,cI.aH _,q,by omega,by omega,cn (by omega)⟩
  .simp[ag.cat,ag,aP.same]
  .have b:x.2.getD (i:Int).toNat cL.bE=x.2.getD i ([],[]):=by rw[bA];rfl
   have e:=cL.gF x.2 h ([],[]);simp only[ag.cat,ag,b,cI.list_fn,aE,aF];exact⟨aP.same,aP.same,e,e⟩
  .show i+1<=_;omega
  .omega
 .obtain rfl:i=x.2.length:=by omega
  refine aC a [(13,ae)] 100 rfl (by simp[ag]) (AK.leaveD rfl rfl ?_)
  refine aC a [] 100 rfl av ?_;refine AK.dE () [] rfl rfl rfl rfl rfl rfl rfl rfl ?_ rfl rfl rfl rfl (λj f=>absurd f (by simp))
  simp[ag,ag.cat,aP.same,aP]
abbrev Gl:dk:=jZ (Ho cL) (λx=>Ez x) λx=>[x.2.length<=4000000,∀ y∈x.2,y.2.length<=4000000]
def K6:dM X 112 Gl:=.ox λx h=>AA x h.1 h.2
abbrev dr:A:=.c (.sl ab 0 0 λ_=>[])
def iy(s:aZ)(n:s.1.length<=4000000)(g:∀ p∈s.1,p.2.length<=4000000)(o:s.2.1.length<=4000000)(f:iT s)(k:s.2.2.length<=4000000) :
  Ev X 72 [eH s] [] (.e (.agg [.bp 0 (.sl s.1.length 2 0 s.1.length),.bp 1 (.sl s.2.1.length 2 0 s.2.1.length),.c (.sl ae 2 s.2.2.length (cH.fn s.2.2))])) [.buf 85 2 s.1.length (cP.fn s.1),.buf 64 2 s.2.1.length (cp.fn s.2.1)]:=by
 refine Ev.iv tok Tryz.func72 rfl rfl rfl λm=>?_
 have a:bD X [(111,Gk),(112,Gl)]:=.cons K5 (.cons K6 .nil);refine aC a [(1000002,ab)] 100 rfl av ?_;refine AK.nn 2 0 85 2 (cP.fn []) rfl rfl ?_;refine AK.nn 2 1 64 2 (cp.fn []) rfl rfl ?_;refine aC a [] 100 rfl av ?_;refine AK.bP 5 (λi=>i<=s.1.length) (λi:Nat=>[(1,.e (.one (.ptr 0 0))),(2,.e (.one (.ptr 1 0))),(3,.e (.one (.ptr 2 0))),(9,cP.sl s.1),(10,dI s.1.length),(11,dI i)])
  (λi=>[.cells 27 [.c (.sl ae 2 s.1.length (cP.fn s.1)),.c (.sl ae 2 s.2.1.length (cp.fn s.2.1)),.c (.sl ae 2 s.2.2.length (cH.fn s.2.2))],.cells 27 [dr,dr,dr],.cells 27 [.bp 3 (.sl i 2 0 i),.bp 4 (.sl 0 2 0 0),dr],.buf 85 2 i (cP.fn (s.1.take i)),.buf 64 2 0 (cp.fn [])]) (λi=>s.1.length-i) 0 rfl ?_ rfl ?_ rfl (by omega) ?_
 .simp[ag.cat,ag,aP.same]
 .simp[ag.cat,ag,aP]
 intro i hi
 by_cases h:i<s.1.length
 .have d:s.1.getD i (0,[])∈s.1:=by grind
  have b:s.1.getD (i:Int).toNat cP.bE=s.1.getD i (0,[]):=by grind
  refine aC a [(12,ab)] 100 rfl ?_ (AK.aQ (i+1) rfl ?_ ?_ ?_ ?_)
  .have q:=g _ d;simp only[ag,b,dK.list_fn,bx];exact⟨by omega,av,av,show (i+1)*32<=_ by omega,dK.aH _,q,by omega,by omega,cn (by omega)⟩
  .simp[ag.cat,ag,aP.same]
  .have e:=cP.gF s.1 h (0,[]);simp only[ag.cat,ag,b,dK.list_fn,aE,aF];exact⟨⟨aP.same,aP.same,aP.same⟩,⟨aP.same,aP.same,aP.same⟩,⟨rfl,aP.same⟩,e,aP.same⟩
  .grind
  .omega
 obtain rfl:i=s.1.length:=by omega
 rw[b7];refine aC a [(12,ae)] 100 rfl (by simp[ag]) (AK.leaveD rfl rfl ?_)
 refine aC a [] 100 rfl av ?_;refine AK.bP 5 (λi=>i<=s.2.1.length) (λi:Nat=>[(1,.e (.one (.ptr 0 0))),(2,.e (.one (.ptr 1 0))),(3,.e (.one (.ptr 2 0))),(24,cp.sl s.2.1),(25,dI s.2.1.length),(26,dI i)])
  (λi=>[.cells 27 [.c (.sl ae 2 s.1.length (cP.fn s.1)),.c (.sl ae 2 s.2.1.length (cp.fn s.2.1)),.c (.sl ae 2 s.2.2.length (cH.fn s.2.2))],.cells 27 [dr,dr,dr],.cells 27 [.bp 3 (.sl s.1.length 2 0 s.1.length),.bp 4 (.sl i 2 0 i),dr],.buf 85 2 s.1.length (cP.fn s.1),.buf 64 2 i (cp.fn (s.2.1.take i))]) (λi=>s.2.1.length-i) 0 rfl ?_ rfl ?_ rfl (by omega) ?_
 .simp[ag.cat,ag,aP.same]
 .simp[ag.cat,ag,aP.same,aP]
 intro i hi
 by_cases h:i<s.2.1.length
 .have d:s.2.1.getD i (0,[])∈s.2.1:=by grind
  have b:s.2.1.getD (i:Int).toNat cp.bE=s.2.1.getD i (0,[]):=by grind
  refine aC a [(27,ab)] 100 rfl ?_ (AK.aQ (i+1) rfl ?_ ?_ ?_ ?_)
  .have q:=f _ d;simp only[ag,b,cL.list_fn,bx];exact⟨by omega,av,av,show (i+1)*32<=_ by omega,cL.aH _,q.1,q.2,by omega,by omega,cn (by omega)⟩
  .simp[ag.cat,ag,aP.same]
  .have e:=cp.gF s.2.1 h (0,[]);simp only[ag.cat,ag,b,cL.list_fn,aE,aF];exact⟨⟨aP.same,aP.same,aP.same⟩,⟨aP.same,aP.same,aP.same⟩,⟨rfl,aP.same⟩,aP.same,e⟩
  .grind
  .omega
 obtain rfl:i=s.2.1.length:=by omega
 rw[b7];refine aC a [(27,ae)] 100 rfl (by simp[ag]) (AK.leaveD rfl rfl ?_)
 refine aC a [] 100 rfl av ?_;refine AK.cQ (wL s.2.2 k) [] rfl ?_;refine aC a [] 100 rfl av ?_;refine AK.dE () [3,4] rfl rfl rfl rfl rfl rfl rfl rfl ?_ rfl rfl rfl rfl (λj l=>absurd l (by simp))
 .simp[ag.cat,ag,aP.same]
def wM(s:aZ)(n:s.1.length<=4000000)(g:∀ p∈s.1,p.2.length<=4000000)(o:s.2.1.length<=4000000)(f:iT s)(k:s.2.2.length<=4000000) :
  Ev X 72 [eH s] [] (.e (.agg [.bp 0 (.sl s.1.length 2 0 s.1.length),.bp 1 (.sl s.2.1.length 2 0 s.2.1.length),.bp 2 (.sl s.2.2.length 2 0 s.2.2.length)])) [.buf 85 2 s.1.length (cP.fn s.1),.buf 64 2 s.2.1.length (cp.fn s.2.1),.buf 90 2 s.2.2.length (cH.fn s.2.2)]:=by
 refine Ev.iv tok Tryz.func72 rfl rfl rfl λm=>?_
 have a:bD X [(111,Gk),(112,Gl)]:=.cons K5 (.cons K6 .nil);refine aC a [(1000002,ab)] 100 rfl av ?_;refine AK.nn 2 0 85 2 (cP.fn []) rfl rfl ?_;refine AK.nn 2 1 64 2 (cp.fn []) rfl rfl ?_;refine aC a [] 100 rfl av ?_;refine AK.bP 5 (λi=>i<=s.1.length) (λi:Nat=>[(1,.e (.one (.ptr 0 0))),(2,.e (.one (.ptr 1 0))),(3,.e (.one (.ptr 2 0))),(9,cP.sl s.1),(10,dI s.1.length),(11,dI i)])
  (λi=>[.cells 27 [.c (.sl ae 2 s.1.length (cP.fn s.1)),.c (.sl ae 2 s.2.1.length (cp.fn s.2.1)),.c (.sl ae 2 s.2.2.length (cH.fn s.2.2))],.cells 27 [dr,dr,dr],.cells 27 [.bp 3 (.sl i 2 0 i),.bp 4 (.sl 0 2 0 0),dr],.buf 85 2 i (cP.fn (s.1.take i)),.buf 64 2 0 (cp.fn [])]) (λi=>s.1.length-i) 0 rfl ?_ rfl ?_ rfl (by omega) ?_
 .simp[ag.cat,ag,aP.same]
 .simp[ag.cat,ag,aP]
 intro i hi
 by_cases h:i<s.1.length
 .have d:s.1.getD i (0,[])∈s.1:=by grind
  have b:s.1.getD (i:Int).toNat cP.bE=s.1.getD i (0,[]):=by grind
  refine aC a [(12,ab)] 100 rfl ?_ (AK.aQ (i+1) rfl ?_ ?_ ?_ ?_)
  .have q:=g _ d;simp only[ag,b,dK.list_fn,bx];exact⟨by omega,av,av,show (i+1)*32<=_ by omega,dK.aH _,q,by omega,by omega,cn (by omega)⟩
  .simp[ag.cat,ag,aP.same]
  .have e:=cP.gF s.1 h (0,[]);simp only[ag.cat,ag,b,dK.list_fn,aE,aF];exact⟨⟨aP.same,aP.same,aP.same⟩,⟨aP.same,aP.same,aP.same⟩,⟨rfl,aP.same⟩,e,aP.same⟩
  .grind
  .omega
 obtain rfl:i=s.1.length:=by omega
 rw[b7];refine aC a [(12,ae)] 100 rfl (by simp[ag]) (AK.leaveD rfl rfl ?_)
 refine aC a [] 100 rfl av ?_;refine AK.bP 5 (λi=>i<=s.2.1.length) (λi:Nat=>[(1,.e (.one (.ptr 0 0))),(2,.e (.one (.ptr 1 0))),(3,.e (.one (.ptr 2 0))),(24,cp.sl s.2.1),(25,dI s.2.1.length),(26,dI i)])
  (λi=>[.cells 27 [.c (.sl ae 2 s.1.length (cP.fn s.1)),.c (.sl ae 2 s.2.1.length (cp.fn s.2.1)),.c (.sl ae 2 s.2.2.length (cH.fn s.2.2))],.cells 27 [dr,dr,dr],.cells 27 [.bp 3 (.sl s.1.length 2 0 s.1.length),.bp 4 (.sl i 2 0 i),dr],.buf 85 2 s.1.length (cP.fn s.1),.buf 64 2 i (cp.fn (s.2.1.take i))]) (λi=>s.2.1.length-i) 0 rfl ?_ rfl ?_ rfl (by omega) ?_
 .simp[ag.cat,ag,aP.same]
 .simp[ag.cat,ag,aP.same,aP]
 intro i hi
 by_cases h:i<s.2.1.length
 .have d:s.2.1.getD i (0,[])∈s.2.1:=by grind
  have b:s.2.1.getD (i:Int).toNat cp.bE=s.2.1.getD i (0,[]):=by grind
  refine aC a [(27,ab)] 100 rfl ?_ (AK.aQ (i+1) rfl ?_ ?_ ?_ ?_)
  .have q:=f _ d;simp only[ag,b,cL.list_fn,bx];exact⟨by omega,av,av,show (i+1)*32<=_ by omega,cL.aH _,q.1,q.2,by omega,by omega,cn (by omega)⟩
  .simp[ag.cat,ag,aP.same]
  .have e:=cp.gF s.2.1 h (0,[]);simp only[ag.cat,ag,b,cL.list_fn,aE,aF];exact⟨⟨aP.same,aP.same,aP.same⟩,⟨aP.same,aP.same,aP.same⟩,⟨rfl,aP.same⟩,aP.same,e⟩
  .grind
  .omega
 obtain rfl:i=s.2.1.length:=by omega
 rw[b7];refine aC a [(27,ae)] 100 rfl (by simp[ag]) (AK.leaveD rfl rfl ?_)
 refine aC a [] 100 rfl av ?_;refine AK.cQ (HB s.2.2 k) [] rfl ?_;refine aC a [] 100 rfl av ?_;refine AK.dE () [3,4,5] rfl rfl rfl rfl rfl rfl rfl rfl ?_ rfl rfl rfl rfl (λj l=>absurd l (by simp))
 .simp[ag.cat,ag,aP.same]
def oM{α:Type}(q:α->Bool)(l:List α):Int:=match l.findIdx? q with|some i=>i|none=>-1
def qa{α:Type}{q:α->Bool}{t:List α}{i:Nat}{d:α}(hi:i<t.length)(h:q (t.getD i d)=ab)(a:∀ j,j<i->q (t.getD j d)=ae):oM q t=i:=by
 have:t.findIdx? q=aa i:=by
  rw[qu]
  grind
 rw[oM,this]
def lN{α:Type}{q:α->Bool}{t:List α}{d:α}(a:∀ j,j<t.length->q (t.getD j d)=ae):oM q t=-1:=by
 have:t.findIdx? q=af:=by
  rw[qX];intro f b;obtain⟨j,c,rfl⟩:=dH b
  grind
 rw[oM,this]
def OD(l:List bw)(o:l.length<=4000000)(b:Nat)(cs:List C)(q:bw->Bool)(k:∀ x,x∈l->Ev X b [xQ x,.e (.one (.c (.rp cs)))] [] (dB (q x)) []) :
  Ev X 110 [.e (.one (.bp 0 (.sl l.length 2 0 l.length))),.e (.one (.c (.fn (.func b) [] [.rp cs])))] [.buf 85 2 l.length (cP.fn l)] (dI (oM q l)) [.buf 85 2 l.length (cP.fn l)]:=by
 refine Ev.bQ Tryz.func110 rfl λm=>?_
 refine bk rfl av ?_;refine AK.bP 1 (λi=>i<=l.length/\∀ j,j<i->q (l.getD j (0,[]))=ae) (λi:Nat=>[(0,.e (.one (.bp 0 (.sl l.length 2 0 l.length)))),(1,.e (.one (.c (.fn (.func b) [] [.rp cs])))),(7,dI l.length),(8,dI i)]) (λ_=>[.buf 85 2 l.length (cP.fn l)]) (λi=>l.length-i) 0 rfl ?_ rfl ?_ rfl ⟨by omega,by omega⟩ ?_
 .simp[ag.cat,ag,aP.same]
 .simp[ag.cat,ag,aP.same]
 rintro i ⟨hi,a⟩
 by_cases h:i<l.length
 .have g:l.getD i (0,[])∈l:=by grind
  have d:l.getD ((0+(i:Int).toNat:Nat)) cP.bE=l.getD i (0,[]):=by simp;rfl
  refine aX [(9,ab)] 100 rfl ?_ ?_
  .simp only[ag]
   grind
  rw[d];refine AK.cQ (k _ g) [] rfl ?_;cases f:q (l.getD i (0,[])) with
  |true =>
   refine aX [(16,ab)] 100 rfl ?_ (AK.eh (b6.mk [0] rfl ?_ rfl rfl rfl l5))
   .simp[ag]
   .simp[ag,qa h f a]
  |false =>
   refine aX [(16,ae)] 100 rfl ?_ (AK.aQ (i+1) rfl ?_ ?_ ?_ ?_)
   .simp[ag,bx];omega
   .simp[ag.cat,ag,aP.same]
   .simp[ag.cat,ag,aP.same]
   .grind
   .omega
 .refine aX [(9,ae)] 100 rfl (by simp[ag];omega) (AK.leaveD rfl rfl ?_)
  refine bk rfl av (AK.dJ [0] rfl ?_ rfl rfl rfl l5);simp[ag,lN (λj n=>a j (by omega))]
def OE(l:List cy)(o:l.length<=4000000)(b:Nat)(cs:List C)(q:cy->Bool)(k:∀ x,x∈l->Ev X b [Ez x,.e (.one (.c (.rp cs)))] [] (dB (q x)) []) :
  Ev X 22 [.e (.one (.bp 0 (.sl l.length 2 0 l.length))),.e (.one (.c (.fn (.func b) [] [.rp cs])))] [.buf 64 2 l.length (cp.fn l)] (dI (oM q l)) [.buf 64 2 l.length (cp.fn l)]:=by
 refine Ev.bQ Tryz.func22 rfl λm=>?_
 refine bk rfl av ?_;refine AK.bP 1 (λi=>i<=l.length/\∀ j,j<i->q (l.getD j (0,[]))=ae) (λi:Nat=>[(0,.e (.one (.bp 0 (.sl l.length 2 0 l.length)))),(1,.e (.one (.c (.fn (.func b) [] [.rp cs])))),(7,dI l.length),(8,dI i)]) (λ_=>[.buf 64 2 l.length (cp.fn l)]) (λi=>l.length-i) 0 rfl ?_ rfl ?_ rfl ⟨by omega,by omega⟩ ?_
 .simp[ag.cat,ag,aP.same]
 .simp[ag.cat,ag,aP.same]
 rintro i ⟨hi,a⟩
 by_cases h:i<l.length
 .have g:l.getD i (0,[])∈l:=by grind
  have d:l.getD ((0+(i:Int).toNat:Nat)) cp.bE=l.getD i (0,[]):=by simp;rfl
  refine aX [(9,ab)] 100 rfl ?_ ?_
  .simp only[ag]
   grind
  rw[d];refine AK.cQ (k _ g) [] rfl ?_;cases f:q (l.getD i (0,[])) with
  |true =>
   refine aX [(16,ab)] 100 rfl ?_ (AK.eh (b6.mk [0] rfl ?_ rfl rfl rfl l5))
   .simp[ag]
   .simp[ag,qa h f a]
  |false =>
   refine aX [(16,ae)] 100 rfl ?_ (AK.aQ (i+1) rfl ?_ ?_ ?_ ?_)
   .simp[ag,bx];omega
   .simp[ag.cat,ag,aP.same]
   .simp[ag.cat,ag,aP.same]
   .grind
   .omega
 .refine aX [(9,ae)] 100 rfl (by simp[ag];omega) (AK.leaveD rfl rfl ?_)
  refine bk rfl av (AK.dJ [0] rfl ?_ rfl rfl rfl l5);simp[ag,lN (λj n=>a j (by omega))]
def OF(l:List (Int×Int))(o:l.length<=4000000)(b:Nat)(cs:List C)(q:(Int×Int)->Bool)(k:∀ x,x∈l->Ev X b [.e (.agg [.c (.int .i64 x.1),.c (.int .i64 x.2)]),.e (.one (.c (.rp cs)))] [] (dB (q x)) []) :
  Ev X 91 [cH.sl l,.e (.one (.c (.fn (.func b) [] [.rp cs])))] [] (dI (oM q l)) []:=by
 refine Ev.bQ Tryz.func91 rfl λm=>?_
 refine bk rfl av ?_;refine AK.bP 0 (λi=>i<=l.length/\∀ j,j<i->q (l.getD j (0,0))=ae) (λi:Nat=>[(0,cH.sl l),(1,.e (.one (.c (.fn (.func b) [] [.rp cs])))),(7,dI l.length),(8,dI i)]) (λ_=>[]) (λi=>l.length-i) 0 rfl ?_ rfl ?_ rfl ⟨by omega,by omega⟩ ?_
 .simp[ag.cat,ag,aP.same]
 .simp[ag.cat,ag,aP.same]
 rintro i ⟨hi,a⟩
 by_cases h:i<l.length
 .have g:l.getD i (0,0)∈l:=by grind
  have d:l.getD (((i:Int).toNat)) cH.bE=l.getD i (0,0):=by simp;rfl
  refine aX [(9,ab)] 100 rfl ?_ ?_
  .simp only[ag]
   grind
  rw[d];refine AK.cQ (k _ g) [] rfl ?_;cases f:q (l.getD i (0,0)) with
  |true =>
   refine aX [(16,ab)] 100 rfl ?_ (AK.eh (b6.mk [] rfl ?_ rfl rfl rfl fO))
   .simp[ag]
   .simp[ag,qa h f a]
  |false =>
   refine aX [(16,ae)] 100 rfl ?_ (AK.aQ (i+1) rfl ?_ ?_ ?_ ?_)
   .simp[ag,bx];omega
   .simp[ag.cat,ag,aP.same]
   .simp[ag.cat,ag,aP.same]
   .grind
   .omega
 .refine aX [(9,ae)] 100 rfl (by simp[ag];omega) (AK.leaveD rfl rfl ?_)
  refine bk rfl av (AK.dJ [] rfl ?_ rfl rfl rfl fO);simp[ag,lN (λj n=>a j (by omega))]
def Sm(b:Nat->Int):Nat->List C:=λi=>[.int .u8 (b i)]
def Bytes(b:Nat->Int):Prop:=∀ i,0<=b i/\b i<=255
abbrev lx(m:Nat)(b:Nat->Int) (k:Int):aV:=.cells 74 [.c (.sl ae 1 m (Sm b)),.c (.int .i64 k)]
def cM.oy{ι:Type}{f:aW}{fn:Func}{c:Code}{args:List D}{σ:List aV}{σ':ι->List aV}{res:ι->D}(g:Tryz.prog.funcs[f]?=aa fn)(a:(fn.name== "runtime.NumGoroutine")=ae)(hb:fn.body=aa c)(b:bo args.length fn.ntmps=ab)
  (h:Fits args σ->AK X fn.ntmps (λe φ σ1=>∃ j,b6 fn σ.length (res j) (σ' j) e φ σ1) [.code c] .normal (js 0 args) σ):cM X f args σ res σ' :=
 cM.z9 g a hb b λd=>AW.top (AK.of_code (h d))
def AK.lh{ι:Type}{fn:Func}{a:Nat}{res:ι->D}{σ':ι->List aV}{N:Nat}{φ:Fr}{σ:List aV}{K:List It}(i:ι)(k:AK X N (b6 fn a (res i) (σ' i)) K .normal φ σ):AK X N (λe φ σ1=>∃ j,b6 fn a (res j) (σ' j) e φ σ1) K .normal φ σ :=
 AK.iF (λ_ _ _ q=>⟨i,q⟩) k
def oz(m:Nat)(b:Nat->Int)(k:Nat) (n:Int):Int :=
 if m=0 then 0 else if k<m then b k % n else
  ((b ((k:Int) % m).toNat*131+b (((k:Int)*7+3) % m).toNat*1117+k*29+(k:Int) / m*53).toNat ^^^ ((b ((k:Int) % m).toNat*131+b (((k:Int)*7+3) % m).toNat*1117+k*29+(k:Int) / m*53) / 64).toNat:Nat) % n
set_option maxRecDepth 20000 in
def pq(m:Nat)(b:Nat->Int)(f:Bytes b)(k:Nat) (n:Int)(q:k<=4000000)(x:m<=1048576)(y:1<=n/\n<=4000000) :
  Ev X 14 [.e (.one (.ptr 0 0)),dI n] [lx m b k] (dI (oz m b k n)) [lx m b (k+1)]:=by
 refine Ev.bQ Tryz.func14 rfl λi=>?_
 have g:∀ j,j<([lx m b k]:List aV).length->([0]:List Nat)[j]?=aa j:=λj s=>by
  grind
 by_cases d:m=0
 .subst d;refine aX [(17,ae),(24,ab)] 100 rfl ?_ (AK.dJ [0] rfl ?_ rfl rfl rfl g)
  .simp[ag,bx];omega
  .simp[ag,oz]
 have c:((k:Int)+1-1)=k:=by omega
 have l:((k:Int)+1-1).toNat=k:=by omega
 have h:=f k
 by_cases r:(k:Int)<m
 .refine aX [(17,ae),(24,ae),(36,ab)] 100 rfl ?_ (AK.dJ [0] rfl ?_ rfl rfl rfl g)
  .simp only[ag,c,bA,ba,bM,dt,bx];omega
  .have:k<m:=by omega
   simp[ag,oz,d,this]
 .refine aX [(17,ae),(24,ae),(36,ae)] 200 rfl ?_ (AK.dJ [0] rfl ?_ rfl rfl rfl g)
  .simp only[ag,c,bM,dt,bx];have a:(0:Int)<m:=by omega
   have z:=rn (k:Int) (by omega:(m:Int)≠0)
   have t:=ri (k:Int) a;have v1:=rn ((k:Int)*7+3) (by omega:(m:Int)≠0)
   have p:=ri ((k:Int)*7+3) a;have w1:0<=(k:Int) / m:=Int.ediv_nonneg (by omega) (by omega)
   have w2:(k:Int) / m<=k:=Int.ediv_le_self _ (by omega)
   generalize (k:Int) % m=u at *;generalize ((k:Int)*7+3) % m=v at *;generalize (k:Int) / m=w at *;have o:=f u.toNat;have A:=f v.toNat
   grind
  .have:¬k<m:=by omega
   simp[ag,oz,d,this,c]
def kU(m:Nat)(b:Nat->Int)(k:Nat) (n:Int)(a:1<=n):0<=oz m b k n/\oz m b k n<n:=by
 unfold oz;split
 .omega
 .split
  .exact⟨rn _ (by omega),ri _ (by omega)⟩
  .exact⟨rn _ (by omega),ri _ (by omega)⟩
def eu(m:Nat)(b:Nat->Int)(c:Bytes b)(k:Nat) (n:Int)(d:k<=4000000)(f:m<=1048576)(a:1<=n/\n<=4000000) :
  cM (ι:={ v:Int // 0<=v/\v<n }) X 14 [.e (.one (.ptr 0 0)),dI n] [lx m b k] (λv=>dI v.1) (λ_=>[lx m b (k+1)]):=by
 have h:=pq (X:=X) m b c k n d f a;exact⟨h.1,λs vs hr hh S cs hS=>h.2 s vs hr hh S cs (hS ⟨_,kU m b k n a.1⟩)⟩
def qN{α:Type}(q:α->Bool)(l:List α):(oM q l=-1/\∀ x∈l,q x=ae)∨∃ i:Nat,i<l.length/\oM q l=i/\(∀ x∈l.take i,q x=ae)/\(∀ x,l[i]?=aa x->q x=ab):=by
 unfold oM
 grind [List.findIdx?_eq_some_iff_getElem,List.getElem_of_mem]
def qO{lo hi j:Nat}{z:List C}{es:Nat->List C}(h:¬(lo<=j/\j<hi)):oY lo hi z es j=es j:=aY h
theorem bq{α:Type}{l:List α}{i:Nat}(h:i<l.length)(d:α):l.take (i+1)=l.take i++[l.getD i d]:=by
 grind [List.take_add_one]
def lH{α:Type}{l:List α}{q:α->Bool}{i:Nat}(hi:i<l.length)(b:∀ x∈l.take i,q x=ae)(a:∀ x,l[i]?=aa x->q x=ab):(l.take (i+1)).filter (λx=>!q x)=l.take i:=by
 grind [List.take_add_one,List.filter_eq_self]
def _root_.Go.AM.hY.qM{α:Type}(c:hY α)(l:List α)(i:Nat)(x:α)(n:Nat)(hn:n<=l.length):aP n (ni i (c.enc x) (c.fn l)) (c.fn (l.set i x)):=by
 intro q a;simp only[ni,hY.fn,sQ]
 grind
structure Yl (l:List bw)(q:bw->Bool)(j:Nat)(ys:List bw):Prop where
 hj:j<=l.length
 len:ys.length=l.length
 done:ys.take ((l.take j).filter λx=>!q x).length=(l.take j).filter λx=>!q x
 rest:∀ i,j<=i->ys[i]?=l[i]?
def OG(l:List bw)(z:l.length<=4000000)(b:Nat)(cs:List C)(q:bw->Bool)(t:∀ x,x∈l->Ev X b [xQ x,.e (.one (.c (.rp cs)))] [] (dB (q x)) []) :
  cM (ι:={ es:Nat->List C // ∀ i,i<(l.filter λx=>!q x).length->es i=cP.fn (l.filter λx=>!q x) i }) X 115 [.e (.one (.bp 0 (.sl l.length 2 0 l.length))),.e (.one (.c (.fn (.func b) [] [.rp cs])))] [.buf 85 2 l.length (cP.fn l)]
   (λ_=>.e (.one (.bp 0 (.sl l.length 2 0 (l.filter λx=>!q x).length)))) (λes=>[.buf 85 2 l.length es.1]):=by
 refine cM.oy Tryz.func115 rfl rfl rfl λA=>?_
 refine bk rfl av ?_;refine AK.cQ (OD l z b cs q t) [0] rfl ?_;rcases qN q l with⟨n,o⟩|⟨i0,g,n,o,p⟩
 .rw[n];have m:l.filter (λx=>!q x)=l:=uT.2 λx r=>by grind
  refine aX [(12,ab)] 100 rfl (by simp[ag]) (AK.lh ⟨cP.fn l,λi _=>by grind⟩ (AK.dJ [0] rfl ?_ rfl rfl rfl l5))
  simp[ag,m]
 rw[n];refine aX [(12,ae)] 100 rfl ?_ ?_
 .simp[ag,bx];omega
 refine AK.bP 1 (λs:Nat×List bw=>Yl l q s.1 s.2) (λs=>[(0,.e (.one (.bp 0 (.sl l.length 2 0 l.length)))),(1,.e (.one (.c (.fn (.func b) [] [.rp cs])))),(5,dI ((l.take s.1).filter λx=>!q x).length),(6,dI s.1)])
  (λs=>[.buf 85 2 l.length (cP.fn s.2)]) (λs=>l.length-s.1) (i0+1,l) rfl ?_ rfl ?_ rfl ?_ ?_
 .have e:((l.take (i0+1)).filter λx=>!q x).length=i0:=by rw[lH g o p];grind
  simp[ag.cat,ag,aP.same,e]
 .simp[ag.cat,ag,aP.same]
 .have e:=lH g o p;refine⟨by omega,rfl,?_,λ_ _=>rfl⟩
  grind
 rintro⟨j,d⟩ ⟨w,g2,g3,g4⟩;simp only at w g2 g3 g4
 by_cases h:j<l.length
 .have r:l.getD j (0,[])∈l:=by grind
  have f:((l.take j).filter λx=>!q x).length<=j:=eL (j6 _ _) (by grind)
  have u:d.getD (0+(j:Int).toNat) cP.bE=l.getD j (0,[]):=by
   grind
  refine aX [(19,ab)] 100 rfl ?_ ?_
  .simp only[ag]
   grind
  rw[u];refine AK.cQ (t _ r) [] rfl ?_;cases y:q (l.getD j (0,[])) with
  |false =>
   have k:(l.take (j+1)).filter (λx=>!q x)=(l.take j).filter (λx=>!q x)++[l.getD j (0,[])]:=by
    grind [bq]
   refine aX [(29,ab)] 100 rfl ?_ (AK.aQ (j+1,d.set ((l.take j).filter λx=>!q x).length (l.getD j (0,[]))) rfl ?_ ?_ ?_ ?_)
   .simp only[ag,bx]
    grind
   .simp[ag.cat,ag,k]
   .have e:=cP.qM d ((l.take j).filter λx=>!q x).length (l.getD j (0,[])) l.length (by omega)
    have v:0+((((l.take j).filter λx=>!q x).length:Nat):Int).toNat=((l.take j).filter λx=>!q x).length:=by omega
    simp only[ag.cat,ag,v,aE,aF];exact e
   .refine⟨by grind,by grind,?_,λi hi=>?_⟩
    .simp only;rw[k,bR,show ∀ a,[a].length=1 fromλ_=>rfl,j7,List.take_set,zm (by grind),g3,fI (by omega)]
     rfl
    grind
   grind
  |true =>
   have k:(l.take (j+1)).filter (λx=>!q x)=(l.take j).filter (λx=>!q x):=by
    grind [bq]
   refine aX [(29,ae)] 100 rfl ?_ (AK.aQ (j+1,d) rfl ?_ ?_ ?_ ?_)
   .simp[ag,bx];omega
   .simp[ag.cat,ag,aP.same,k]
   .simp[ag.cat,ag,aP.same]
   .refine⟨by grind,g2,by grind,λi hi=>g4 i (by grind)⟩
   grind
 .obtain rfl:j=l.length:=by omega
  rw[b7] at g3 ⊢;have f:(l.filter λx=>!q x).length<=l.length:=j6 _ _
  refine aX [(19,ae)] 100 rfl (by simp[ag]) (AK.leaveD rfl rfl ?_)
  refine bk rfl ?_ ?_
  .simp only[ag]
   grind
  refine AK.law (bH.DV tok rfl rfl rfl rfl rfl rfl ?_) rfl rfl ?_
  .simp only[cv,bA];omega
  refine bk rfl ?_ (AK.lh ⟨oY (0+cv 0 (aa ((l.filter λx=>!q x).length:Int))) (0+cv 0 (aa ((l.filter λx=>!q x).length:Int))+(cv l.length af-cv 0 (aa ((l.filter λx=>!q x).length:Int)))) i85.zero (cP.fn d),λi hi=>?_⟩ (AK.dJ [0] rfl ?_ rfl rfl rfl l5))
  .simp only[ag]
   grind
  .have e:d[i]?=(l.filter λx=>!q x)[i]?:=by grind
   refine(qO (by simp only[cv,bA];omega)).trans ?_
   simp only[hY.fn,sQ,ai,e]
  .simp[ag,cv];rfl
structure Ym (l:List cy)(q:cy->Bool)(j:Nat)(ys:List cy):Prop where
 hj:j<=l.length
 len:ys.length=l.length
 done:ys.take ((l.take j).filter λx=>!q x).length=(l.take j).filter λx=>!q x
 rest:∀ i,j<=i->ys[i]?=l[i]?
def OH(l:List cy)(z:l.length<=4000000)(b:Nat)(cs:List C)(q:cy->Bool)(t:∀ x,x∈l->Ev X b [Ez x,.e (.one (.c (.rp cs)))] [] (dB (q x)) []) :
  cM (ι:={ es:Nat->List C // ∀ i,i<(l.filter λx=>!q x).length->es i=cp.fn (l.filter λx=>!q x) i }) X 118 [.e (.one (.bp 0 (.sl l.length 2 0 l.length))),.e (.one (.c (.fn (.func b) [] [.rp cs])))] [.buf 64 2 l.length (cp.fn l)]
   (λ_=>.e (.one (.bp 0 (.sl l.length 2 0 (l.filter λx=>!q x).length)))) (λes=>[.buf 64 2 l.length es.1]):=by
 refine cM.oy Tryz.func118 rfl rfl rfl λA=>?_
 refine bk rfl av ?_;refine AK.cQ (OE l z b cs q t) [0] rfl ?_;rcases qN q l with⟨n,o⟩|⟨i0,g,n,o,p⟩
 .rw[n];have m:l.filter (λx=>!q x)=l:=uT.2 λx r=>by grind
  refine aX [(12,ab)] 100 rfl (by simp[ag]) (AK.lh ⟨cp.fn l,λi _=>by grind⟩ (AK.dJ [0] rfl ?_ rfl rfl rfl l5))
  simp[ag,m]
 rw[n];refine aX [(12,ae)] 100 rfl ?_ ?_
 .simp[ag,bx];omega
 refine AK.bP 1 (λs:Nat×List cy=>Ym l q s.1 s.2) (λs=>[(0,.e (.one (.bp 0 (.sl l.length 2 0 l.length)))),(1,.e (.one (.c (.fn (.func b) [] [.rp cs])))),(5,dI ((l.take s.1).filter λx=>!q x).length),(6,dI s.1)])
  (λs=>[.buf 64 2 l.length (cp.fn s.2)]) (λs=>l.length-s.1) (i0+1,l) rfl ?_ rfl ?_ rfl ?_ ?_
 .have e:((l.take (i0+1)).filter λx=>!q x).length=i0:=by rw[lH g o p];grind
  simp[ag.cat,ag,aP.same,e]
 .simp[ag.cat,ag,aP.same]
 .have e:=lH g o p;refine⟨by omega,rfl,?_,λ_ _=>rfl⟩
  grind
 rintro⟨j,d⟩ ⟨w,g2,g3,g4⟩;simp only at w g2 g3 g4
 by_cases h:j<l.length
 .have r:l.getD j (0,[])∈l:=by grind
  have f:((l.take j).filter λx=>!q x).length<=j:=eL (j6 _ _) (by grind)
  have u:d.getD (0+(j:Int).toNat) cp.bE=l.getD j (0,[]):=by
   grind
  refine aX [(19,ab)] 100 rfl ?_ ?_
  .simp only[ag]
   grind
  rw[u];refine AK.cQ (t _ r) [] rfl ?_;cases y:q (l.getD j (0,[])) with
  |false =>
   have k:(l.take (j+1)).filter (λx=>!q x)=(l.take j).filter (λx=>!q x)++[l.getD j (0,[])]:=by
    grind [bq]
   refine aX [(29,ab)] 100 rfl ?_ (AK.aQ (j+1,d.set ((l.take j).filter λx=>!q x).length (l.getD j (0,[]))) rfl ?_ ?_ ?_ ?_)
   .simp only[ag,bx]
    grind
   .simp[ag.cat,ag,k]
   .have e:=cp.qM d ((l.take j).filter λx=>!q x).length (l.getD j (0,[])) l.length (by omega)
    have v:0+((((l.take j).filter λx=>!q x).length:Nat):Int).toNat=((l.take j).filter λx=>!q x).length:=by omega
    simp only[ag.cat,ag,v,aE,aF];exact e
   .refine⟨by grind,by grind,?_,λi hi=>?_⟩
    .simp only;rw[k,bR,show ∀ a,[a].length=1 fromλ_=>rfl,j7,List.take_set,zm (by grind),g3,fI (by omega)]
     rfl
    grind
   grind
  |true =>
   have k:(l.take (j+1)).filter (λx=>!q x)=(l.take j).filter (λx=>!q x):=by
    grind [bq]
   refine aX [(29,ae)] 100 rfl ?_ (AK.aQ (j+1,d) rfl ?_ ?_ ?_ ?_)
   .simp[ag,bx];omega
   .simp[ag.cat,ag,aP.same,k]
   .simp[ag.cat,ag,aP.same]
   .refine⟨by grind,g2,by grind,λi hi=>g4 i (by grind)⟩
   grind
 .obtain rfl:j=l.length:=by omega
  rw[b7] at g3 ⊢;have f:(l.filter λx=>!q x).length<=l.length:=j6 _ _
  refine aX [(19,ae)] 100 rfl (by simp[ag]) (AK.leaveD rfl rfl ?_)
  refine bk rfl ?_ ?_
  .simp only[ag]
   grind
  refine AK.law (bH.DV tok rfl rfl rfl rfl rfl rfl ?_) rfl rfl ?_
  .simp only[cv,bA];omega
  refine bk rfl ?_ (AK.lh ⟨oY (0+cv 0 (aa ((l.filter λx=>!q x).length:Int))) (0+cv 0 (aa ((l.filter λx=>!q x).length:Int))+(cv l.length af-cv 0 (aa ((l.filter λx=>!q x).length:Int)))) i64.zero (cp.fn d),λi hi=>?_⟩ (AK.dJ [0] rfl ?_ rfl rfl rfl l5))
  .simp only[ag]
   grind
  .have e:d[i]?=(l.filter λx=>!q x)[i]?:=by grind
   refine(qO (by simp only[cv,bA];omega)).trans ?_
   simp only[hY.fn,sQ,ai,e]
  .simp[ag,cv];rfl
abbrev c8:=Int×Int×Int×Bs
abbrev tu(l:c8):List C:=[.int .i64 l.1,.int .i64 l.2.1,.int .i64 l.2.2.1,.str l.2.2.2]
abbrev K7(l:c8):List A:=[.c (.int .i64 l.1),.c (.int .i64 l.2.1),.c (.int .i64 l.2.2.1),.c (.str l.2.2.2)]
abbrev gh(l:c8):D:=.e (.agg (K7 l))
abbrev Aw(cs:List C):D:=.e (.one (.c (.rp cs)))
def HE(x:bw)(l:c8):Ev X 116 [xQ x,Aw (tu l)] [] (dB (x.1==l.2.1)) []:=by
 refine Ev.bQ Tryz.func116 rfl λa=>?_
 refine bk rfl av (AK.bn rfl ?_);simp[ag]
def HF(x:Int×Int) (no:Int)(n:Nat)(es:Nat->List C):Ev X 120 [.e (.agg [.c (.int .i64 x.1),.c (.int .i64 x.2)]),Aw [.int .i64 no,.sl ae 2 n es]] [] (dB (x.2==no)) []:=by
 refine Ev.bQ Tryz.func120 rfl λa=>?_
 refine bk rfl av (AK.bn rfl ?_);simp[ag]
def K8{α:Type}(q:α->Bool)(l:List α):decide (oM q l≥0)=l.any q:=by
 rcases qN q l with⟨a,c⟩|⟨i,hi,a,_,b⟩
 .rw[a]
  symm
  simpa using c
 .rw[a]
  symm
  have:=b _ (br hi)
  grind
def EJ(a:List (Int×Int))(b:a.length<=4000000) (no:Int)(n:Nat)(es:Nat->List C):Ev X 49 [cH.sl a,.e (.one (.c (.fn (.func 120) [] [.rp [.int .i64 no,.sl ae 2 n es]])))] [] (dB (a.any λh=>h.2==no)) []:=by
 refine Ev.bQ Tryz.func49 rfl λd=>?_
 refine bk rfl av ?_;refine AK.cQ (OF a b 120 [.int .i64 no,.sl ae 2 n es] (λh=>h.2==no) λx _=>HF x no n es) [] rfl ?_
 refine bk rfl av (AK.bn rfl ?_);simp only[ag];exact K8 _ a
def OI(x:cy)(a:List (Int×Int))(b:a.length<=4000000):Ev X 119 [Ez x,Aw [.sl ae 2 a.length (cH.fn a)]] [] (dB (a.any λh=>h.2==x.1)) []:=by
 refine Ev.bQ Tryz.func119 rfl λc=>?_
 refine aX [(1000001,ab)] 100 rfl av ?_;refine AK.freeze 2 0 rfl rfl rfl ?_;refine bk rfl av ?_;refine AK.cQ (EJ a b x.1 x.2.length (cL.fn x.2)) [] rfl ?_;refine bk rfl av (AK.bn rfl ?_);simp[ag]
abbrev Wn(f:Nat)(l:c8):D:=.e (.one (.c (.fn (.func f) [] [.rp (tu l)])))
def EK(l:c8)(h:l.1=1):Ev X 73 [gh l] [] (Wn 114 l) []:=by
 refine Ev.bQ Tryz.func73 rfl λa=>?_
 refine aX [(1000001,ab)] 100 rfl av ?_;refine AK.freeze 1 0 rfl rfl rfl ?_;refine aX [(5,ab)] 100 rfl (by simp[ag,h]) (AK.bn rfl ?_)
 simp[ag]
def wN(l:c8)(h:l.1=2):Ev X 73 [gh l] [] (Wn 117 l) []:=by
 refine Ev.bQ Tryz.func73 rfl λa=>?_
 refine aX [(1000001,ab)] 100 rfl av ?_;refine AK.freeze 1 0 rfl rfl rfl ?_;refine aX [(5,ae),(8,ab)] 100 rfl (by simp[ag,h]) (AK.bn rfl ?_)
 simp[ag]
def wO(l:c8)(h:l.1=3):Ev X 73 [gh l] [] (Wn 121 l) []:=by
 refine Ev.bQ Tryz.func73 rfl λa=>?_
 refine aX [(1000001,ab)] 100 rfl av ?_;refine AK.freeze 1 0 rfl rfl rfl ?_;refine aX [(5,ae),(8,ae),(11,ab)] 100 rfl (by simp[ag,h]) (AK.bn rfl ?_)
 simp[ag]
def EH(l:c8)(h:l.1=4):Ev X 73 [gh l] [] (Wn 122 l) []:=by
 refine Ev.bQ Tryz.func73 rfl λa=>?_
 refine aX [(1000001,ab)] 100 rfl av ?_;refine AK.freeze 1 0 rfl rfl rfl ?_;refine aX [(5,ae),(8,ae),(11,ae),(14,ab)] 100 rfl (by simp[ag,h]) (AK.bn rfl ?_)
 simp[ag]
def EL(l:c8)(d:l.1≠1)(f:l.1≠2)(a:l.1≠3)(b:l.1≠4):Ev X 73 [gh l] [] (.e (.one (.c (.fn (.func 123) [] [])))) []:=by
 refine Ev.bQ Tryz.func73 rfl λg=>?_
 refine aX [(1000001,ab)] 100 rfl av ?_;refine AK.freeze 1 0 rfl rfl rfl ?_;refine aX [(5,ae),(8,ae),(11,ae),(14,ae)] 100 rfl (by simp[ag,d,f,a,b]) (AK.bn rfl ?_)
 simp[ag]
abbrev sPs(ps:List bw):C:=.sl ae 2 ps.length (cP.fn ps)
abbrev sSs(a:List cy):C:=.sl ae 2 a.length (cp.fn a)
abbrev Dx(a:List (Int×Int)):C:=.sl ae 2 a.length (cH.fn a)
abbrev Tr(s0:aZ)(l:c8)(r:List aV)(a b c:A):List aV:=[.cells 27 [.c (sPs s0.1),.c (sSs s0.2.1),.c (Dx s0.2.2)],.cells 32 (K7 l),.cells 27 [dr,dr,dr]]++r++[.cells 27 [a,b,c]]
abbrev aB(l n m:Nat):A:=.bp l (.sl n 2 0 m)
def K9(s:aZ)(l:c8)(b:s.1.length<=4000000) :
  cM (ι:={ es:Nat->List C // ∀ i,i<(s.1.filter λx=>!(x.1==l.2.1)).length->es i=cP.fn (s.1.filter λx=>!(x.1==l.2.1)) i }) X 114 [.e (.one (.ptr 5 0)),Aw (tu l)]
   (Tr s l [.buf 85 2 s.1.length (cP.fn s.1),.buf 64 2 s.2.1.length (cp.fn s.2.1)] (aB 3 s.1.length s.1.length) (aB 4 s.2.1.length s.2.1.length) (.c (Dx s.2.2)))
   (λ_=>.eK []) (λes=>Tr s l [.buf 85 2 s.1.length es.1,.buf 64 2 s.2.1.length (cp.fn s.2.1)] (aB 3 s.1.length (s.1.filter λx=>!(x.1==l.2.1)).length) (aB 4 s.2.1.length s.2.1.length) (.c (Dx s.2.2))):=by
 refine cM.mV Tryz.func114 rfl rfl rfl (AK.of_code ?_);refine bk rfl av ?_;refine AK.cP (OG s.1 b 116 (tu l) (λx=>x.1==l.2.1) λx _=>HE x l) [3] rfl (λ_=>rfl) ?_
 rintro⟨es,a⟩;refine bk rfl av ?_;exact⟨⟨es,a⟩,.inr rfl,rfl,rfl,_,_,_,rfl,rfl,rfl,av⟩
end
end Go.AM.R1
namespace Go.AM
section
variable {P:aq}{X:Cx P}{N:Nat}{φ:Fr}{σ:List aV}
def Kh(all:List aw)(i:Nat):List Nat->Bool
 |[]=>ae
 |k::r=>match fK i (bS (all.getD k fV).after.toList) with|true=>ab|false=>Kh all i r
def F4{all:List aw}{i:Nat}:∀ {l:List Nat},Kh all i l=ab->∃ k,k∈l/\fK i (bS (all.getD k fV).after.toList)=ab
 |[],h=>by cases h
 |k::r,h=>by
  simp only[Kh] at h;cases a:fK i (bS (all.getD k fV).after.toList) with
  |true=>exact⟨k,by simp,a⟩
  |false =>
   simp only[a] at h;obtain⟨q,c,b⟩:=F4 h;exact⟨q,by simp[c],b⟩
def pb(all:List aw):Nat->List Nat->Bool
 |0,_=>ab
 |n+1,l=>match fK n l with
  |true=>pb all n l
  |false=>match Kh all n l with|true=>pb all n l|false=>ae
def pd{all:List aw}:∀ {n:Nat}{l:List Nat},pb all n l=ab->∀ i,i<n->fK i l=ab∨∃ k,fK k l=ab/\fK i (bS (all.getD k fV).after.toList)=ab
 |0,_,_,i,hi=>by omega
 |n+1,l,h,i,hi=>by
  simp only[pb] at h;cases b:fK n l with
  |true =>
   simp only[b] at h
   by_cases e:i=n
   .subst e;exact .inl b
   .exact pd h i (by omega)
  |false =>
   simp only[b] at h;cases a:Kh all n l with
   |false=>simp[a] at h
   |true =>
    simp only[a] at h
    by_cases e:i=n
    .subst e;obtain⟨k,k1,c⟩:=F4 a;exact .inr ⟨k,rI k1,c⟩
    .exact pd h i (by omega)
def AK.Us{ι:Type}(H:P.follows Departure.mixedOrders=ab)(m last:Nat)(pre:Nat->Bool)(x:Nat->D)(y:ι->Nat->D)(σ' σ2:ι->List aV){ops:Array aw}{id:Nat}{K:List It}{Qf:Post}
  (e:mx ops.toList=ab) (f:r5 ops.toList 0=ab) (p:n5 N ops.toList=ab) (v:Nat.blt m ops.toList.length=ab) (A:pre m=ae) (r:xO pre m ops.toList 0=ab)
  (d:aG (last+1) ops.toList.length=ab) (c:pb ops.toList last (bS (ops.toList.getD last fV).after.toList)=ab) (n:pre last=ae) (s:aG last m=ae)
  (one:qG X N ops.toList φ σ x pre ops.toList 0) (two:∀ j,qH X N ops.toList φ (σ' j) (qI pre x y j) m ops.toList.dropLast 0)
  (Hg:rZ X N ops.toList (ops.toList.getD m fV) (mZ ops.toList φ x m) σ (λj=>qI pre x y j m) σ')
  (Wi:∀ j,OA X N ops.toList (ops.toList.getD last fV) (mZ ops.toList φ (qI pre x y j) last) (σ' j) (y j last) (σ2 j))
  (k:∀ j,AK X N Qf K .normal (M8 ops.toList φ (qI pre x y j)) (σ2 j)):AK X N Qf (.code (.region id ops ab)::K) .normal φ σ:=by
 have hl:=bX d;have F:last≠m:=by grind [Nat.beq_refl]
 have v:=db v;have:=AW.reg (X:=X) (N:=N) (φ:=φ) (σ:=σ) H (all:=ops.toList) ops.toList.length (λb:Option ι=>b.elim x (qI pre x y)) (λb D=>b.elim σ λj=>match D last with|true=>σ2 j|false=>σ' j) (λb D=>b.isSome=D m/\(b=af->∀ i,D i=ab->pre i=ab)) af ⟨rfl,λ_ _ h=>by cases h⟩ rfl e f p (bg _)
  (λi h1 h2=>absurd h2 (kB.2 h1)) (λb D _ _ i h1 h2=>absurd h2 (kB.2 h1))
  (Af (S:=λj D=>match D last with|true=>σ2 j|false=>σ' j) A r (λj i B=>by simp only[qI,B]) (λi o hi B=>by have:=one.get i o hi (by rwa [bt]);rwa [bt] at this)
   (λj D i o hi hnm hic XR XS=>by
    by_cases w:i=last
    .subst w;have h1:=Wi j;rw[show ops.toList.getD i fV=o by simp[ai,hi]] at h1
     simp only[XR,ff,iN];rw[show qI pre x y j i=y j i by simp only[qI,n]]
     exact h1
    .have J:=(cr.1 hi).1;have t:ops.toList.dropLast[i]?=aa o:=by grind
     have h1:=(two j).get i o t (by rwa [bt])
     rw[bt] at h1;have hb:aG last i=ae:=by
      grind [Nat.eq_of_beq_eq_true]
     have a:D last=ae:=by
      cases a:D last with
      |false=>rfl
      |true =>
       have g:=br (l:=ops.toList) (by omega:last<ops.toList.length)
       have I:∀ (k:Nat) q,ops.toList[k]?=aa q->ops.toList.getD k fV=q:=λk q h=>by simp[ai,h]
       rw[I _ _ g] at c;rcases pd c i (by omega) with h2|⟨k,h2,C⟩
       .grind [BG]
       .have L:=XS last _ g a k (BG h2);cases u:ops.toList[k]? with
        |none=>rw[show ops.toList.getD k fV=fV by simp[ai,u]] at C;simp[fV,bS,fK] at C
        |some ok =>
         grind [BG]
     simp only[ff,hb,a];exact h1)
   (λo E=>by rw[show ops.toList.getD m fV=o by simp[ai,E]] at Hg;exact Hg)
   (λj D z=>by
    have a:D last=ae:=by
     grind
    simp only[ff,s,a]))
  (Q:=AK X N Qf K) (λb D G z=>by
   obtain⟨j,rfl⟩:=sd G v z;rw[pJ];simp only[Option.elim,z last (by omega)]
   exact .nil (k j)) id
 rw[oP] at this;exact this
end
end Go.AM
namespace Go.AM.R1
section
open Go.Proofs
variable {X:Cx ah}
def La(σ:List aV)(h:mv σ=ab)(a:A):Ev X 123 [.e (.one a)] σ (.eK []) σ:=by
 refine cM.uA (cM.mV (ι:=Unit) (res:=λ_=>.eK []) (σ':=λ_=>σ) Tryz.func123 rfl rfl rfl (AK.of_code ?_))
 refine bk rfl av ?_;exact⟨(),.inr rfl,rfl,h,_,_,_,rfl,rfl,rfl,av⟩
abbrev I9(s:aZ)(l:c8):List aV:=Tr s l [.buf 85 2 s.1.length (cP.fn s.1),.buf 64 2 s.2.1.length (cp.fn s.2.1)] (aB 3 s.1.length s.1.length) (aB 4 s.2.1.length s.2.1.length) (.c (Dx s.2.2))
def gU(n:Nat)(a:List (Int×Int))(x:cy):Bool:=(a.drop n).any λh=>h.2==x.1
def HG(s:aZ)(l:c8)(h:l.2.1<0∨l.2.1>s.2.2.length):Ev X 117 [.e (.one (.ptr 5 0)),Aw (tu l)] (I9 s l) (.eK []) (I9 s l):=by
 refine cM.uA (cM.mV (ι:=Unit) (res:=λ_=>.eK []) (σ':=λ_=>I9 s l) Tryz.func117 rfl rfl rfl (AK.of_code ?_))
 by_cases a:l.2.1<0
 .refine aX [(7,ab),(16,ab)] 100 rfl (by simp[ag,a]) ?_
  refine AK.ret ?_;exact⟨(),.inl rfl,rfl,rfl,_,_,_,rfl,rfl,rfl,av⟩
 .refine aX [(7,ae),(16,ab)] 100 rfl (by simp[ag];omega) ?_
  refine AK.ret ?_;exact⟨(),.inl rfl,rfl,rfl,_,_,_,rfl,rfl,rfl,av⟩
def _root_.Go.AM.hY.Gm{α:Type}(c:hY α)(l:List α)(n m:Nat):aP m (jL n (c.fn l)) (c.fn (l.drop n)):=λi _=>by
 simp[jL,hY.fn,sQ,ai]
abbrev dP5:D:=.e (.one (.ptr 5 0))
abbrev Lb(s:aZ)(l:c8):C:=.sl (NG ae af) 2 (cv s.2.2.length af-cv 0 (aa l.2.1)) (jL (cv 0 (aa l.2.1)) (cH.fn s.2.2))
def PO(s:aZ)(l:c8)(n:Nat)(a:l.2.1=n)(h:n<=s.2.2.length):ag (iQ s.2.2.length (aa l.2.1) af):=by
 show 0<=l.2.1/\l.2.1<=(s.2.2.length:Int);omega
def HH(s:aZ)(l:c8)(n:Nat)(b:l.2.1=n)(h:n<=s.2.2.length)(d:s.2.1.length<=4000000)(j:s.2.2.length<=4000000) :
  cM (ι:={ es:Nat->List C // ∀ i,i<(s.2.1.filter λx=>!gU n s.2.2 x).length->es i=cp.fn (s.2.1.filter λx=>!gU n s.2.2 x) i }) X 117 [.e (.one (.ptr 5 0)),Aw (tu l)] (I9 s l) (λ_=>.eK [])
   (λes=>Tr s l [.buf 85 2 s.1.length (cP.fn s.1),.buf 64 2 s.2.1.length es.1] (aB 3 s.1.length s.1.length) (aB 4 s.2.1.length (s.2.1.filter λx=>!gU n s.2.2 x).length) (.c (.sl ae 2 l.2.1.toNat (cH.fn s.2.2)))++[.dead]):=by
 refine cM.mV Tryz.func117 rfl rfl rfl (AK.of_code ?_);have f:l.2.1.toNat=n:=by omega
 refine aX [(7,ae),(16,ae),(1000001,ab)] 100 rfl ?_ ?_
 .simp only[ag]
  grind
 refine AK.Us (ι:=Unit) ei 7 8 (λi=>bo i 6) (λi=>[dP5,dP5,.e (.one (.ptr 5 2)),.e (.one (.c (Dx s.2.2))),Aw [.int .i64 l.2.1,.int .i64 l.2.2.1,.str l.2.2.2],dI l.2.1,.e (.one (.c (Lb s l)))].getD i .any) (λ_ i=>[.any,.any,.any,.any,.any,.any,.any,.e (.one (.ptr 6 0)),.any].getD i .any)
  (λ_=>I9 s l++[.cells 25 [dr]]) (λ_=>I9 s l++[.cells 25 [.c (Lb s l)]]) rfl rfl rfl rfl rfl rfl rfl rfl rfl rfl
  ⟨OA.bT tok bD.nil rfl,OA.bT tok bD.nil rfl,OA.bT tok bD.nil rfl,OA.bT tok bD.nil rfl,OA.bT tok bD.nil rfl,OA.bT tok bD.nil rfl,?_,av,av,av⟩
  (λ_=>⟨OA.bT tok bD.nil rfl,OA.bT tok bD.nil rfl,OA.bT tok bD.nil rfl,OA.bT tok bD.nil rfl,OA.bT tok bD.nil rfl,OA.bT tok bD.nil rfl,?_,av,av⟩)
  (rZ.tg (en (ds:=[]) tok bD.nil (σ':=aa _) (obs:=[]) rfl av)) (λ_=>en (ds:=[]) tok bD.nil (σ':=aa _) (obs:=[]) rfl av) λ_=>?_
 .exact OA.eval (ds:=[]) tok bD.nil rfl (PO s l n b h)
 .exact OA.eval (ds:=[]) tok bD.nil rfl (PO s l n b h)
 refine aX [(1000002,ab)] 100 rfl av ?_;refine AK.norm (I9 s l++[.cells 25 [.c (Dx (s.2.2.drop n))]]) rfl ?_ ?_
 .have e:=cH.Gm s.2.2 n (s.2.2.length-n);have g:cv 0 (aa l.2.1)=n:=f;simp only[ag.cat,ag,g,aE,aF,me];exact⟨⟨aP.same,aP.same,aP.same⟩,⟨aP.same,aP.same,aP.same⟩,aP.same,aP.same,aP.same,rfl,e⟩
 refine AK.freeze 3 6 rfl rfl rfl ?_;refine bk rfl av ?_;refine AK.cP (OH s.2.1 d 119 [Dx (s.2.2.drop n)] (gU n s.2.2) λx _=>OI x (s.2.2.drop n) (by simp;omega)) [4] rfl (λ_=>rfl) ?_
 rintro⟨es,a⟩;refine bk rfl ⟨show 0<=l.2.1 by omega,Int.le_refl _,show l.2.1<=(s.2.2.length:Int) by omega⟩ ?_
 exact⟨⟨es,a⟩,.inr rfl,rfl,rfl,_,_,_,rfl,rfl,rfl,av⟩
abbrev Ng(s:aZ)(l:c8)(es:Nat->List C):List aV:=Tr s l [.buf 85 2 s.1.length (cP.fn s.1),.buf 64 2 s.2.1.length (cp.fn s.2.1),.buf 90 2 s.2.2.length es] (aB 3 s.1.length s.1.length) (aB 4 s.2.1.length s.2.1.length) (aB 5 s.2.2.length s.2.2.length)
abbrev AB(s:aZ)(l:c8):Nat->List C:=ni (0+l.2.1.toNat) [.int .i64 (3-(s.2.2.getD (0+l.2.1.toNat) cH.bE).1),.int .i64 (s.2.2.getD (0+l.2.1.toNat) cH.bE).2] (cH.fn s.2.2)
def HD(s:aZ)(l:c8)(h:¬(0<=l.2.1/\l.2.1<s.2.2.length)):Ev X 122 [.e (.one (.ptr 6 0)),Aw (tu l)] (Ng s l (cH.fn s.2.2)) (.eK []) (Ng s l (cH.fn s.2.2)):=by
 refine cM.uA (cM.mV (ι:=Unit) (res:=λ_=>.eK []) (σ':=λ_=>Ng s l (cH.fn s.2.2)) Tryz.func122 rfl rfl rfl (AK.of_code ?_))
 by_cases a:0<=l.2.1
 .refine aX [(6,ab),(15,ae)] 100 rfl (by simp[ag,a];omega) ?_
  exact⟨(),.inr rfl,rfl,rfl,_,_,_,rfl,rfl,rfl,av⟩
 .refine aX [(6,ae),(15,ae)] 100 rfl (by simp[ag];omega) ?_
  exact⟨(),.inr rfl,rfl,rfl,_,_,_,rfl,rfl,rfl,av⟩
abbrev Wo:D:=.e (.one (.ptr 6 0))
abbrev U3:D:=.e (.one (.ptr 6 2))
abbrev dHs(s:aZ):D:=.e (.one (aB 5 s.2.2.length s.2.2.length))
abbrev Wp(s:aZ)(l:c8):D:=.e (.one (.bp 5 (.el s.2.2.length 2 (0+l.2.1.toNat) 0)))
abbrev dLr(l:c8):D:=Aw [.int .i64 l.2.1,.int .i64 l.2.2.1,.str l.2.2.2]
abbrev EI(s:aZ)(l:c8):Int:=(s.2.2.getD (0+l.2.1.toNat) cH.bE).1
def HC(s:aZ)(l:c8)(f:0<=l.2.1)(d:l.2.1<s.2.2.length)(c:bx .i64 (3-EI s l)):Ev X 122 [.e (.one (.ptr 6 0)),Aw (tu l)] (Ng s l (cH.fn s.2.2)) (.eK []) (Ng s l (AB s l)):=by
 refine cM.uA (cM.mV (ι:=Unit) (res:=λ_=>.eK []) (σ':=λ_=>Ng s l (AB s l)) Tryz.func122 rfl rfl rfl (AK.of_code ?_))
 refine aX [(6,ab),(15,ab),(1000001,ab)] 100 rfl ?_ ?_
 .simp only[ag]
  grind
 have b:0<=l.2.1/\l.2.1<((s.2.2.length:Nat):Int):=⟨f,d⟩;have a:s.2.2.length=s.2.2.length/\0+l.2.1.toNat<s.2.2.length:=⟨rfl,by omega⟩
 refine AK.Us (ι:=Unit) ei 0 18 (λi=>bo 4 i&&bo i 15) (λi=>[.any,.any,.any,.any,dLr l,dI l.2.1,Wo,Wo,U3,dHs s,dLr l,dI l.2.1,Wp s l,Wp s l,dI (EI s l),dI (3-EI s l)].getD i .any) (λ_ i=>[Wo,Wo,U3,dHs s,.any,.any,.any,.any,.any,.any,.any,.any,.any,.any,.any,.any,Wp s l,Wp s l,.any].getD i .any)
  (λ_=>Ng s l (cH.fn s.2.2)) (λ_=>Ng s l (AB s l)) rfl rfl rfl rfl rfl rfl rfl rfl rfl rfl
  ⟨av,av,av,av,OA.bT tok bD.nil rfl,OA.bT tok bD.nil rfl,OA.bT tok bD.nil rfl,OA.bT tok bD.nil rfl,OA.bT tok bD.nil rfl,OA.bT tok bD.nil rfl,OA.bT tok bD.nil rfl,OA.bT tok bD.nil rfl,?_,OA.bT tok bD.nil rfl,?_,?_,av,av,av,av⟩
  (λ_=>⟨av,OA.bT tok bD.nil rfl,OA.bT tok bD.nil rfl,OA.bT tok bD.nil rfl,OA.bT tok bD.nil rfl,OA.bT tok bD.nil rfl,OA.bT tok bD.nil rfl,OA.bT tok bD.nil rfl,OA.bT tok bD.nil rfl,OA.bT tok bD.nil rfl,OA.bT tok bD.nil rfl,OA.bT tok bD.nil rfl,?_,OA.bT tok bD.nil rfl,?_,?_,?_,OA.bT tok bD.nil rfl,av⟩)
  (rZ.tg (OA.bT tok bD.nil rfl)) (λ_=>?_) λ_=>?_
 .exact OA.eval (ds:=[]) tok bD.nil rfl b
 .exact OA.eval (ds:=[]) tok bD.nil rfl a
 .exact OA.eval (ds:=[]) tok bD.nil rfl c
 .exact OA.eval (ds:=[]) tok bD.nil rfl b
 .exact OA.eval (ds:=[]) tok bD.nil rfl a
 .exact OA.eval (ds:=[]) tok bD.nil rfl c
 .exact OA.eval (ds:=[]) tok bD.nil rfl b
 .exact en (ds:=[]) tok bD.nil (σ':=aa _) rfl a
 refine bk rfl av ?_;exact⟨(),.inr rfl,rfl,rfl,_,_,_,rfl,rfl,rfl,av⟩
end
end Go.AM.R1
namespace Go.AM
def cM.le{P:aq}{ι:Type}{X:Cx P}{f:aW}{args:List D}{σ:List aV}{res res':ι->D}{σ1:ι->List aV}(h:cM X f args σ res σ1){ps:ι->List Prop}(a:∀ i,Dt (res i) (res' i)=aa (ps i))(b:∀ i,ag (ps i)):cM X f args σ res' σ1 :=
 ⟨h.1,λs vs hr hh S cs hS=>h.2 s vs hr hh S cs λi fr v s' hl mQ lb st=>hS i fr v s' hl (qA (a i) (b i) mQ) lb st⟩
def cM.one{P:aq}{ι:Type}{X:Cx P}{f:aW}{args:List D}{σ:List aV}{res:D}{σ1:List aV}(h:cM (ι:=ι) X f args σ (λ_=>res) (λ_=>σ1)):Ev X f args σ res σ1 :=
 ⟨h.1,λs vs hr hh S cs hS=>h.2 s vs hr hh S cs λ_ fr v s' hl mQ lb st=>hS fr v s' hl mQ lb st⟩
namespace R1
open Go.Proofs
variable {X:Cx ah}
abbrev Lc{α:Type}(c:hY α)(a:List α):Type:={ es:Nat->List C // ∀ i,i<a.length->es i=c.fn a i }
structure dL (s:aZ):Prop where
 p:s.1.length<=4000000
 p2:∀ p∈s.1,p.2.length<=4000000
 sn:s.2.1.length<=4000000
 s2:iT s
 h:s.2.2.length<=4000000
def AD(s:aZ)(l:c8)(a:dL s)(h:l.1=1) :
  cM (ι:={ es:Nat->List C // ∀ i,i<(s.1.filter λx=>!(x.1==l.2.1)).length->es i=cP.fn (s.1.filter λx=>!(x.1==l.2.1)) i }) X 42 [eH s,gh l] []
   (λ_=>.e (.agg [aB 0 s.1.length (s.1.filter λx=>!(x.1==l.2.1)).length,aB 1 s.2.1.length s.2.1.length,.c (Dx s.2.2)])) (λes=>[.buf 85 2 s.1.length es.1,.buf 64 2 s.2.1.length (cp.fn s.2.1)]):=by
 refine cM.ga tok Tryz.func42 rfl rfl rfl λd=>?_
 refine bk rfl av ?_;refine AK.cQ (iy s a.p a.p2 a.sn a.s2 a.h) [] rfl ?_;refine bk rfl av ?_;refine AK.cQ (EK l h) [] rfl ?_;refine bk rfl av ?_;refine AK.nP (K9 s l a.p) rfl rfl rfl rfl ?_ rfl ?_
 .simp[ag,ag.cat]
 rintro⟨es,b⟩;refine bk rfl av ?_;refine AK.dE ⟨es,b⟩ [3,4] rfl rfl rfl rfl rfl rfl rfl rfl ?_ rfl rfl rfl rfl fO;simp[ag.cat,ag,aP.same]
def Cr(s:aZ)(l:c8)(d:dL s)(h:l.1=1):Ev X 42 [eH s,gh l] [] (eH (s.1.filter λx=>!(x.1==l.2.1),s.2.1,s.2.2)) []:=by
 have e:(s.1.filter λx=>!(x.1==l.2.1)).length<=s.1.length:=j6 _ _
 have a:=AD (X:=X) s l d h;have b:=cM.iY (σ1:=λes:Lc cP (s.1.filter λx=>!(x.1==l.2.1))=>[.buf 85 2 s.1.length es.1]) (E:=64) (k:=2) (n:=λ_=>s.2.1.length) (es:=λ_=>cp.fn s.2.1) a (λ_=>rfl) (λ_=>?_) (λ_=>rfl) (λ_=>gD _)
 have c:=cM.iY (σ1:=λ_=>[]) (E:=85) (k:=2) (n:=λ_=>s.1.length) (es:=λes:Lc cP (s.1.filter λx=>!(x.1==l.2.1))=>es.1) b (λ_=>rfl) (λ_=>?_) (λ_=>rfl) (λ_=>bg _)
 refine(c.le (res':=λ_=>eH (s.1.filter λx=>!(x.1==l.2.1),s.2.1,s.2.2)) (λ_=>rfl) (λes=>?_)).one
 .simp only[ag.cat,ag,aE,aF];exact⟨es.2,aP.same,aP.same⟩
 .simpa[ag.cat,ag] using e
 .simp[ag.cat,ag]
def AE(s:aZ)(l:c8)(a:dL s)(f:l.1≠1)(g:l.1≠2)(b:l.1≠3)(d:l.1≠4) :
  cM (ι:=Unit) X 42 [eH s,gh l] [] (λ_=>.e (.agg [aB 0 s.1.length s.1.length,aB 1 s.2.1.length s.2.1.length,.c (Dx s.2.2)])) (λ_=>[.buf 85 2 s.1.length (cP.fn s.1),.buf 64 2 s.2.1.length (cp.fn s.2.1)]):=by
 refine cM.ga tok Tryz.func42 rfl rfl rfl λi=>?_
 refine bk rfl av ?_;refine AK.cQ (iy s a.p a.p2 a.sn a.s2 a.h) [] rfl ?_;refine bk rfl av ?_;refine AK.cQ (EL l f g b d) [] rfl ?_;refine bk rfl av ?_;refine AK.nP (La (I9 s l) rfl (.ptr 5 0)).Bm rfl rfl rfl rfl ?_ rfl ?_
 .simp[ag,ag.cat]
 intro _;refine bk rfl av ?_;refine AK.dE () [3,4] rfl rfl rfl rfl rfl rfl rfl rfl ?_ rfl rfl rfl rfl fO;simp[ag.cat,ag,aP.same]
def xU(s:aZ)(l:c8)(a:dL s)(b:l.1=2)(h:l.2.1<0∨l.2.1>s.2.2.length) :
  cM (ι:=Unit) X 42 [eH s,gh l] [] (λ_=>.e (.agg [aB 0 s.1.length s.1.length,aB 1 s.2.1.length s.2.1.length,.c (Dx s.2.2)])) (λ_=>[.buf 85 2 s.1.length (cP.fn s.1),.buf 64 2 s.2.1.length (cp.fn s.2.1)]):=by
 refine cM.ga tok Tryz.func42 rfl rfl rfl λd=>?_
 refine bk rfl av ?_;refine AK.cQ (iy s a.p a.p2 a.sn a.s2 a.h) [] rfl ?_;refine bk rfl av ?_;refine AK.cQ (wN l b) [] rfl ?_;refine bk rfl av ?_;refine AK.nP (HG s l h).Bm rfl rfl rfl rfl ?_ rfl ?_
 .simp[ag,ag.cat]
 intro _;refine bk rfl av ?_;refine AK.dE () [3,4] rfl rfl rfl rfl rfl rfl rfl rfl ?_ rfl rfl rfl rfl fO;simp[ag.cat,ag,aP.same]
def AF{s:aZ}{l:c8}(a:cM (ι:=Unit) X 42 [eH s,gh l] [] (λ_=>.e (.agg [aB 0 s.1.length s.1.length,aB 1 s.2.1.length s.2.1.length,.c (Dx s.2.2)])) (λ_=>[.buf 85 2 s.1.length (cP.fn s.1),.buf 64 2 s.2.1.length (cp.fn s.2.1)])):Ev X 42 [eH s,gh l] [] (eH s) []:=by
 have b:=cM.iY (σ1:=λ_:Unit=>[.buf 85 2 s.1.length (cP.fn s.1)]) (E:=64) (k:=2) (n:=λ_=>s.2.1.length) (es:=λ_=>cp.fn s.2.1) a (λ_=>rfl) (λ_=>?_) (λ_=>rfl) (λ_=>gD _)
 have c:=cM.iY (σ1:=λ_:Unit=>[]) (E:=85) (k:=2) (n:=λ_=>s.1.length) (es:=λ_=>cP.fn s.1) b (λ_=>rfl) (λ_=>?_) (λ_=>rfl) (λ_=>bg _)
 refine(c.le (res':=λ_=>eH s) (λ_=>rfl) (λes=>?_)).one
 .simp only[ag.cat,ag,aE,aF];exact⟨aP.same,aP.same,aP.same⟩
 .simp[ag.cat,ag]
 .simp[ag.cat,ag]
def AG(s:aZ)(l:c8)(a:dL s)(d:l.1=2)(n:Nat)(f:l.2.1=n)(h:n<=s.2.2.length) :
  cM (ι:=Lc cp (s.2.1.filter λx=>!gU n s.2.2 x)) X 42 [eH s,gh l] []
   (λ_=>.e (.agg [aB 0 s.1.length s.1.length,aB 1 s.2.1.length (s.2.1.filter λx=>!gU n s.2.2 x).length,.c (.sl ae 2 l.2.1.toNat (cH.fn s.2.2))])) (λes=>[.buf 85 2 s.1.length (cP.fn s.1),.buf 64 2 s.2.1.length es.1]):=by
 refine cM.ga tok Tryz.func42 rfl rfl rfl λg=>?_
 refine bk rfl av ?_;refine AK.cQ (iy s a.p a.p2 a.sn a.s2 a.h) [] rfl ?_;refine bk rfl av ?_;refine AK.cQ (wN l d) [] rfl ?_;refine bk rfl av ?_;refine AK.nP (HH s l n f h a.sn a.h) rfl rfl rfl rfl ?_ rfl ?_
 .simp[ag,ag.cat]
 rintro⟨es,b⟩;refine bk rfl av ?_;refine AK.dE ⟨es,b⟩ [3,4] rfl rfl rfl rfl rfl rfl rfl rfl ?_ rfl rfl rfl rfl fO;simp[ag.cat,ag,aP.same]
def Cs(s:aZ)(l:c8)(f:dL s)(g:l.1=2)(n:Nat)(m:l.2.1=n)(h:n<=s.2.2.length):Ev X 42 [eH s,gh l] [] (eH (s.1,s.2.1.filter λx=>!gU n s.2.2 x,s.2.2.take n)) []:=by
 have e:(s.2.1.filter λx=>!gU n s.2.2 x).length<=s.2.1.length:=j6 _ _
 have a:=AG (X:=X) s l f g n m h;have b:=cM.iY (σ1:=λ_:Lc cp (s.2.1.filter λx=>!gU n s.2.2 x)=>[.buf 85 2 s.1.length (cP.fn s.1)]) (E:=64) (k:=2) (n:=λ_=>s.2.1.length) (es:=λes=>es.1) a (λ_=>rfl) (λ_=>?_) (λ_=>rfl) (λ_=>gD _)
 have c:=cM.iY (σ1:=λ_:Lc cp (s.2.1.filter λx=>!gU n s.2.2 x)=>[]) (E:=85) (k:=2) (n:=λ_=>s.1.length) (es:=λ_=>cP.fn s.1) b (λ_=>rfl) (λ_=>?_) (λ_=>rfl) (λ_=>bg _)
 refine(c.le (res':=λ_=>eH (s.1,s.2.1.filter λx=>!gU n s.2.2 x,s.2.2.take n)) (λ_=>rfl) (λes=>?_)).one
 .have j:l.2.1.toNat=(s.2.2.take n).length:=by grind
  simp only[ag.cat,ag,aE,aF];refine⟨aP.same,es.2,j,λi hi=>?_⟩
  have d:i<n:=by grind
  simp[hY.fn,sQ,ai,gQ,d]
 .simp[ag.cat,ag]
 .simpa[ag.cat,ag] using e
end R1
end Go.AM
namespace Go.AM.R1
section
open Go.Proofs
variable {X:Cx ah}
def sj(s:aZ)(l:c8)(a:dL s)(h:l.1=4)(es:Nat->List C)(b:Ev X 122 [.e (.one (.ptr 6 0)),Aw (tu l)] (Ng s l (cH.fn s.2.2)) (.eK []) (Ng s l es)) :
  cM (ι:=Unit) X 42 [eH s,gh l] [] (λ_=>.e (.agg [aB 0 s.1.length s.1.length,aB 1 s.2.1.length s.2.1.length,aB 2 s.2.2.length s.2.2.length])) (λ_=>[.buf 85 2 s.1.length (cP.fn s.1),.buf 64 2 s.2.1.length (cp.fn s.2.1),.buf 90 2 s.2.2.length es]):=by
 refine cM.ga tok Tryz.func42 rfl rfl rfl λc=>?_
 refine bk rfl av ?_;refine AK.cQ (wM s a.p a.p2 a.sn a.s2 a.h) [] rfl ?_;refine bk rfl av ?_;refine AK.cQ (EH l h) [] rfl ?_;refine bk rfl av ?_;refine AK.nP b.Bm rfl rfl rfl rfl ?_ rfl ?_
 .simp[ag,ag.cat]
 intro _;refine bk rfl av ?_;refine AK.dE () [3,4,5] rfl rfl rfl rfl rfl rfl rfl rfl ?_ rfl rfl rfl rfl fO;simp[ag.cat,ag,aP.same]
def sk(s:aZ)(l:c8)(es:Nat->List C)(d:List (Int×Int))(f:d.length=s.2.2.length)(g:aP s.2.2.length es (cH.fn d))
  (a:cM (ι:=Unit) X 42 [eH s,gh l] [] (λ_=>.e (.agg [aB 0 s.1.length s.1.length,aB 1 s.2.1.length s.2.1.length,aB 2 s.2.2.length s.2.2.length])) (λ_=>[.buf 85 2 s.1.length (cP.fn s.1),.buf 64 2 s.2.1.length (cp.fn s.2.1),.buf 90 2 s.2.2.length es])) :
  Ev X 42 [eH s,gh l] [] (eH (s.1,s.2.1,d)) []:=by
 have h:=cM.iY (σ1:=λ_:Unit=>[.buf 85 2 s.1.length (cP.fn s.1),.buf 64 2 s.2.1.length (cp.fn s.2.1)]) (E:=90) (k:=2) (n:=λ_=>s.2.2.length) (es:=λ_=>es) a (λ_=>rfl) (λ_=>?_) (λ_=>rfl) (λ_=>gD _)
 have b:=cM.iY (σ1:=λ_:Unit=>[.buf 85 2 s.1.length (cP.fn s.1)]) (E:=64) (k:=2) (n:=λ_=>s.2.1.length) (es:=λ_=>cp.fn s.2.1) h (λ_=>rfl) (λ_=>?_) (λ_=>rfl) (λ_=>gD _)
 have c:=cM.iY (σ1:=λ_:Unit=>[]) (E:=85) (k:=2) (n:=λ_=>s.1.length) (es:=λ_=>cP.fn s.1) b (λ_=>rfl) (λ_=>?_) (λ_=>rfl) (λ_=>bg _)
 refine(c.le (res':=λ_=>eH (s.1,s.2.1,d)) (λ_=>rfl) (λ_=>?_)).one
 .simp only[ag.cat,ag,aE,aF];refine⟨aP.same,aP.same,f.symm,?_⟩;intro i hi;exact g i (by first|exact hi|(rw[<-f];exact hi))
 .simp[ag.cat,ag]
 .simp[ag.cat,ag]
 .simp[ag.cat,ag]
def Ax(s:aZ)(l:c8)(c:dL s)(h:l.1=4)(d:0<=l.2.1)(b:l.2.1<s.2.2.length)(a:bx .i64 (3-EI s l)) :
  Ev X 42 [eH s,gh l] [] (eH (s.1,s.2.1,s.2.2.set (0+l.2.1.toNat) (3-EI s l,(s.2.2.getD (0+l.2.1.toNat) cH.bE).2))) [] :=
 sk s l _ _ (by simp) (cH.qM s.2.2 (0+l.2.1.toNat) (3-EI s l,(s.2.2.getD (0+l.2.1.toNat) cH.bE).2) s.2.2.length (bg _)) (sj s l c h _ (HC s l d b a))
def Ay(s:aZ)(l:c8)(a:dL s)(h:l.1=4)(b:¬(0<=l.2.1/\l.2.1<s.2.2.length)):Ev X 42 [eH s,gh l] [] (eH s) [] :=
 sk s l _ s.2.2 rfl aP.same (sj s l a h _ (HD s l b))
end
section
open Go.Proofs
open Go.Sort (pdq bitsLen ltInt Below)
variable {X:Cx ah}
def mK(l:List Int):List Int:=l.mergeSort λx y=>decide (x<=y)
def gI(l:List Int):(mK l).length=l.length:=List.length_mergeSort _
def ME(l:List Int):pdq ltInt l.toArray 0 l.length (bitsLen l.length) ab ab=(mK l).toArray:=by
 have h:=Go.Sort.sortInt l;unfold Go.Sort.sort at h;rw[List.size_toArray] at h;exact Array.ext' (by rw[h];rfl)
theorem VG(l:List Int):eI l.toArray=cI.fn l:=by
 funext j
 simp only[eI,hY.fn,sQ,cI,ai];simp
abbrev Ik(n:Nat)(l:List Int):aV:=.buf 3 1 n (cI.fn l)
def CX(l:List Int)(a:l.length<=4000000):Ev X 163 [kF l.length] [Ik l.length l] (.eK []) [Ik l.length (mK l)]:=by
 refine Ev.bQ Tryz.func163 rfl λc=>?_
 refine dY rfl (by simp only[ag,bx];and_intros <;> omega) ?_
 refine AK.cQ (MF l.length a) [] rfl ?_;refine dY rfl av ?_;have b:=kz (x:=l.length) (k:=22) (by grind)
 have key:Ev X 189 [kF l.length,dI 0,dI l.length,dI (bitsLen l.length)] [Ik l.length l] (.eK []) [Ik l.length (mK l)]:=by
  have:=SZ (X:=X) l.length a l.length l.toArray 0 l.length (bitsLen l.length) (by omega) (by simp) (by omega) (bg _) (by omega) (.inl rfl) (x:=0) rfl rfl rfl (ME l).symm
  grind [VG]
 refine AK.cQ key [0] rfl ?_;refine dY rfl av ?_;exact b6.tj [0] rfl av rfl rfl rfl g7
def jY(l:List Int):Nat->List Int
 |0=>[]
 |j+1=>if j≠0/\l.getD j 0=l.getD (j-1) 0 then jY l j else jY l j++[l.getD j 0]
def dT(l:List Int):List Int:=jY l l.length
def sG(l:List Int):∀ j,(jY l j).length<=j
 |0=>bg _
 |j+1=>by
  have:=sG l j;simp only[jY]
  grind
def nz{l:List Int}:∀ {k:Nat},k<=l.length->(∀ i,1<=i->i<k->l.getD i 0≠l.getD (i-1) 0)->jY l k=l.take k
 |0,_,_=>by simp[jY]
 |k+1,b,h=>by
  rw[jY,aY,nz (by omega) λi a c=>h i a (by omega),bq (by omega) 0]
  grind
structure CoP (l:List Int)(k0:Nat)(k2:Nat)(ys:List Int):Prop where
 h1:1<=k2
 hj:k0+k2<=l.length
 len:ys.length=l.length
 lt:(jY l (k0+k2)).length<k0+k2
 done:ys.take (jY l (k0+k2)).length=jY l (k0+k2)
 rest:∀ i,k0+k2<=i+1->ys.getD i 0=l.getD i 0
abbrev MG(a:List Int):Type:={ es:Nat->List C // ∀ i,i<a.length->es i=cI.fn a i }
def xg(l:List Int)(J:l.length<=4000000):cM (ι:=MG (dT l)) X 164 [kF l.length] [Ik l.length l] (λ_=>.e (.one (.bp 0 (.sl l.length 1 0 (dT l).length)))) (λes=>[.buf 3 1 l.length es.1]):=by
 refine cM.oy Tryz.func164 rfl rfl rfl λK=>?_
 by_cases C:l.length<2
 .have h:dT l=l:=by
   unfold dT;rw[nz (bg _) λi _ _=>by omega,b7]
  refine aX [(8,ab)] 200 rfl (by simp only[ag,ba];omega) (AK.lh ⟨cI.fn l,λi _=>by rw[h]⟩ (AK.dJ [0] rfl ?_ rfl rfl rfl g7))
  simp[ag,h]
 refine aX [(8,ae)] 200 rfl (by simp only[ag,bM];omega) ?_
 refine AK.kQ (S2:=Unit) 0 rfl rfl (λ_=>dT l=l) (λ_=>[(0,kF l.length)]) (λ_=>[Ik l.length l]) 1 (λk:Nat=>1<=k/\k<=l.length/\∀ i,1<=i->i<k->l.getD i 0≠l.getD (i-1) 0) (λk=>[(0,kF l.length),(3,dI k)]) (λ_=>[Ik l.length l]) (λk=>l.length-k) 1 rfl ?_ rfl ?_ rfl ⟨bg _,by omega,λi L C=>by omega⟩ ?_ ?_
 .simp[ag.cat,ag]
 .simp[ag.cat,ag,aP.same]
 .rintro out k ⟨E,I,d⟩
  by_cases A:k<l.length
  .have w:((k:Int)-1).toNat=k-1:=by omega
   have v:∀ j,l.getD j cI.bE=l.getD j 0:=λ_=>rfl
   by_cases f:l.getD k 0=l.getD (k-1) 0
   .refine aX [(13,ab),(25,ab)] 200 rfl ?_ ?_
    .simp only[ag,bt,bA,w,v,f,bx,ba,eB,aF,aE];and_intros <;> omega
    have z:=nz (l:=l) (by omega) d
    have D:jY l (k+1)=l.take k:=by rw[jY,bd ⟨by omega,f⟩,z]
    refine AK.kQ (S2:=List Int) 2 rfl rfl (λc=>c.length=l.length/\c.take (dT l).length=dT l) (λ_=>[(0,kF l.length),(3,dI (dT l).length)]) (λc=>[Ik l.length c]) 1 (λs:Nat×List Int=>CoP l k s.1 s.2) (λs=>[(0,kF l.length),(3,dI (jY l (k+s.1)).length),(4,.e (.one (.bp 0 (.sl l.length 1 k (l.length-k))))),(5,dI s.1)]) (λs=>[Ik l.length s.2]) (λs=>l.length-s.1) (1,l) rfl ?_ rfl ?_ rfl ?_ ?_ ?_
    .simp only[ag.cat,ag,D,List.length_take,cv,bt,bA,aF,aE];exact⟨by omega,rfl,rfl⟩
    .simp[ag.cat,ag,aP.same]
    .exact⟨bg _,by omega,rfl,by grind,by grind,λ_ _=>rfl⟩
    .rintro g ⟨b,c⟩ ⟨c1,c2,c3,c4,n,o⟩;simp only at c1 c2 c3 c4 n o
     by_cases H:k+b<l.length
     .have x:((b:Int)-1).toNat=b-1:=by omega
      have q:∀ j,c.getD j cI.bE=c.getD j 0:=λ_=>rfl
      have r:c.getD (k+b) 0=l.getD (k+b) 0:=o _ (by omega)
      have t:c.getD (k+(b-1)) 0=l.getD (k+(b-1)) 0:=o _ (by omega)
      by_cases m:l.getD (k+b) 0=l.getD (k+(b-1)) 0
      .have p:jY l (k+(b+1))=jY l (k+b):=by
        rw[show k+(b+1)=k+b+1 by omega,jY,bd ⟨by omega,by rw[m,show k+b-1=k+(b-1) by omega]⟩]
       refine aX [(32,ab),(44,ae)] 200 rfl ?_ (AK.aQ (b+1,c) rfl ?_ ?_ ?_ ?_)
       .simp only[ag,bt,bA,x,q,r,t,m,bx,ba,kZ,dy,eB,aF,aE];and_intros <;> first|trivial|omega
       .simp only[ag.cat,ag,p,aF,aE];omega
       .simp[ag.cat,ag,aP.same]
       .exact⟨by grind,by grind,c3,by grind,by grind,λi hi=>o i (by grind)⟩
       .simp only;omega
      .have p:jY l (k+(b+1))=jY l (k+b)++[l.getD (k+b) 0]:=by
        rw[show k+(b+1)=k+b+1 by omega,jY,aY]
        rintro⟨_,f⟩;exact m (by rw[f,show k+b-1=k+(b-1) by omega])
       refine aX [(32,ab),(44,ab)] 200 rfl ?_ (AK.aQ (b+1,c.set (jY l (k+b)).length (l.getD (k+b) 0)) rfl ?_ ?_ ?_ ?_)
       .simp only[ag,bt,bA,x,q,r,t,bx,ba,jh,dt,jF,cW,aF,aE];and_intros <;> first|exact m|omega
       .simp only[ag.cat,ag,p,bR,fa,ib,aF,aE];and_intros <;> omega
       .have e:=cI.qM c (jY l (k+b)).length (l.getD (k+b) 0) l.length (by omega)
        simp only[ag.cat,ag,bt,bA,q,r,aE,aF];exact e
       .refine⟨by grind,by grind,by grind,by grind,?_,λi hi=>?_⟩
        .simp only;rw[p,bR,show ∀ a:Int,[a].length=1 fromλ_=>rfl,j7,List.take_set,zm (by grind),n,fI (by omega)]
         rfl
        .simp only at hi ⊢;rw[ai,iL (by omega),<-ai]
         grind
       .simp only;omega
     .have F:k+b=l.length:=by omega
      have u:jY l (k+b)=dT l:=by rw[F];rfl
      refine aX [(32,ae)] 200 rfl ?_ (AK.leaveD rfl rfl ?_)
      .simp only[ag,bM];omega
      rw[u] at n;exact g c ⟨c3,n⟩ rfl (by simp[ag.cat,ag,u]) rfl (by simp[ag.cat,ag,aP.same])
    rintro c ⟨y,B⟩;have G:(dT l).length<=l.length:=sG l _;refine dY rfl ?_ ?_
    .simp only[ag]
     grind
    refine AK.law (bH.DV tok rfl rfl rfl rfl rfl rfl ?_) rfl rfl ?_
    .simp only[cv,bA];omega
    refine bk rfl ?_ (AK.eh ⟨⟨oY (0+cv 0 (aa ((dT l).length:Int))) (0+cv 0 (aa ((dT l).length:Int))+(cv l.length af-cv 0 (aa ((dT l).length:Int)))) i3.zero (cI.fn c),λi hi=>?_⟩,b6.mk [0] rfl ?_ rfl rfl rfl g7⟩)
    .simp only[ag]
     grind
    .have e:c[i]?=(dT l)[i]?:=by grind
     refine(qO (by simp only[cv,bA];omega)).trans ?_
     simp only[hY.fn,sQ,ai,e]
    .simp[ag,cv];rfl
   .refine aX [(13,ab),(25,ae)] 200 rfl ?_ (AK.aQ (k+1) rfl ?_ ?_ ?_ ?_)
    .simp only[ag,bt,bA,w,v,bx,ba,dt,cW,aF,aE];and_intros <;> first|exact f|omega
    .simp[ag.cat,ag]
    .simp[ag.cat,ag,aP.same]
    .grind
    .omega
  .obtain rfl:k=l.length:=by omega
   refine aX [(13,ae)] 200 rfl (by simp[ag]) (AK.leaveD rfl rfl ?_)
   exact out () (by unfold dT;rw[nz (bg _) d,b7]) rfl (by simp[ag.cat,ag]) rfl (by simp[ag.cat,ag,aP.same])
 rintro⟨⟩ h;refine dY rfl av (AK.lh ⟨cI.fn l,λi _=>by rw[h]⟩ (AK.dJ [0] rfl ?_ rfl rfl rfl g7))
 simp[ag,h]
end
section
open Go.Proofs
variable {X:Cx ah}
def cg(l:List gj):List Int:=l.flatMap (·.2)
def gY(x:cy):List Int:=dT (mK (cg x.2))
def sC{l:List gj}{i:Nat}(h:i<l.length):cg (l.take (i+1))=cg (l.take i)++(l.getD i ([],[])).2:=by
 rw[bq h ([],[])];simp[cg]
def _root_.Go.AM.hY.L5{α:Type}(c:hY α)(a b:List α)(n:Nat)(hn:n=(a++b).length):aP n (cR a.length (c.fn a) (c.fn b)) (c.fn (a++b)):=by
 intro i hi;simp only[cR,hY.fn,sQ,ai]
 grind
def x8(x:cy)(o:x.2.length<=4000000)(g:(cg x.2).length<=4000000)(m:∀ i,i<=x.2.length->(cg (x.2.take i)).length<=4000000) :
  cM (ι:=MG (gY x)) X 109 [Ez x] [] (λ_=>.e (.one (.bp 0 (.sl (cg x.2).length 1 0 (gY x).length)))) (λes=>[.buf 3 1 (cg x.2).length es.1]):=by
 refine cM.oy Tryz.func109 rfl rfl rfl λn=>?_
 refine aX [(1000002,ab)] 200 rfl av ?_;refine AK.RE 3 3 1 (cI.fn []) rfl ?_;refine dY rfl av ?_;refine AK.bP 2 (λi=>i<=x.2.length) (λi:Nat=>[(3,.e (.one (.bp 1 (.sl (cg (x.2.take i)).length 1 0 (cg (x.2.take i)).length)))),(7,cL.sl x.2),(8,dI x.2.length),(9,dI i)])
  (λi=>[.cells 64 [.c (.int .i64 x.1),.c (.sl ae 2 x.2.length (cL.fn x.2))],Ik (cg (x.2.take i)).length (cg (x.2.take i))]) (λi=>x.2.length-i) 0 rfl ?_ rfl ?_ rfl (by omega) ?_
 .simp[ag.cat,ag,aP.same,cg]
 .simp[ag.cat,ag,aP,cg]
 intro i hi
 by_cases h:i<x.2.length
 .have b:x.2.getD (i:Int).toNat cL.bE=x.2.getD i ([],[]):=by rw[bA];rfl
  have a:=sC h;have d:=m (i+1) h;rw[a,bR] at d;refine aX [(10,ab)] 200 rfl ?_ (AK.aQ (i+1) rfl ?_ ?_ ?_ ?_)
  .simp only[ag,b,bx,show i3.bytes=8 from rfl,ba,aF,aE];and_intros <;> omega
  .simp only[ag.cat,ag,b,a,bR,aE,aF]
   and_intros <;> first|exact aP.same|rfl|omega
  .have e:=cI.L5 (cg (x.2.take i)) (x.2.getD i ([],[])).2 _ rfl;simp only[ag.cat,ag,b,a,bR,aE,aF] at e ⊢;exact⟨aP.same,e⟩
  .show i+1<=_;omega
  .omega
 .obtain rfl:i=x.2.length:=by omega
  rw[b7];refine aX [(10,ae)] 200 rfl (by simp[ag]) (AK.leaveD rfl rfl ?_)
  refine dY rfl av ?_;refine AK.cQ (CX (cg x.2) g) [1] rfl ?_;refine dY rfl av ?_;have k:=xg (X:=X) (mK (cg x.2)) (by rw[gI];exact g)
  rw[gI] at k;refine AK.cP k [1] rfl (λ_=>rfl) ?_
  rintro⟨es,f⟩;refine dY rfl av (AK.lh ⟨es,f⟩ (AK.dJ [1] rfl ?_ rfl rfl rfl (λj l=>absurd l (by simp))))
  simp[ag,gY]
def ny(l:List gj)(i:Nat):(cg (l.take i)).length<=(cg l).length:=by
 have h:cg l=cg (l.take i)++cg (l.drop i):=by
  unfold cg;rw[<-rb,j5]
 rw[h,bR];omega
def sE(l:List Int):(dT l).length<=l.length:=sG l _
def A1(x:cy)(d:x.2.length<=4000000)(c:(cg x.2).length<=4000000):Ev X 109 [Ez x] [] (cI.sl (gY x)) []:=by
 have a:=x8 (X:=X) x d c λi _=>eL (ny _ _) c
 have b:=cM.iY (σ1:=λ_:MG (gY x)=>[]) (E:=3) (k:=1) (n:=λ_=>(cg x.2).length) (es:=λes=>es.1) a (λ_=>rfl) (λ_=>?_) (λ_=>rfl) (λ_=>bg _)
 refine(b.le (res':=λ_=>cI.sl (gY x)) (λ_=>rfl) (λes=>?_)).one
 .simp only[ag.cat,ag,aE,aF];exact es.2
 .have:(gY x).length<=(cg x.2).length:=by unfold gY;rw[<-gI (cg x.2)];exact sE _
  simpa[ag.cat,ag] using this
def R5(n lo hi:Int):Ev X 15 [dI n,dI lo,dI hi] [] (dB (decide (lo<=n/\n<=hi))) []:=by
 refine Ev.bQ Tryz.func15 rfl λc=>?_
 by_cases a:lo<=n
 .by_cases b:n<=hi
  .refine aX [(10,ab),(14,ab)] 100 rfl (by simp[ag];omega) (AK.bn rfl ?_)
   simp[ag,a,b]
  .refine aX [(10,ab),(14,ae)] 100 rfl (by simp[ag];omega) (AK.bn rfl ?_)
   simp[ag];omega
 .refine aX [(10,ae),(14,ae)] 100 rfl (by simp[ag];omega) (AK.bn rfl ?_)
  simp[ag];omega
abbrev od:dk:=Dw aI aI aI (λn lo hi=>dB (decide (lo<=n/\n<=hi))) λ_ _ _=>[]
def oN:dM X 15 od:=.I8 λn lo hi _=>R5 n lo hi
def HI(n:Nat)(f:n<=4000000):Ev X 226 [dI n] [] (dI (cE n)) []:=by
 refine Ev.bQ Tryz.func226 rfl λe=>?_
 by_cases c:n<1
 .refine aX [(6,ab),(9,ab)] 100 rfl (by simp[ag];omega) (AK.bn rfl ?_)
  have:cE n=0:=by simp[cE,c]
  simp[ag,this]
 by_cases d:8<n
 .refine aX [(6,ae),(9,ab)] 100 rfl (by simp[ag];omega) (AK.bn rfl ?_)
  have:cE n=0:=by simp[cE,d]
  simp[ag,this]
 by_cases a:n<=2
 .refine aX [(6,ae),(9,ae),(10,ab)] 100 rfl (by simp[ag];omega) (AK.bn rfl ?_)
  have:cE n=2:=by simp only[cE,aY (show ¬(n<1∨8<n) by omega),bd a]
  simp[ag,this]
 by_cases b:n<=4
 .refine aX [(6,ae),(9,ae),(10,ae),(13,ab)] 100 rfl (by simp[ag];omega) (AK.bn rfl ?_)
  have:cE n=4:=by simp only[cE,aY (show ¬(n<1∨8<n) by omega),aY a,bd b]
  simp[ag,this]
 .refine aX [(6,ae),(9,ae),(10,ae),(13,ae)] 100 rfl (by simp[ag];omega) (AK.bn rfl ?_)
  have:cE n=8:=by simp only[cE,aY (show ¬(n<1∨8<n) by omega),aY a,aY b]
  simp[ag,this]
def OJ(l:List Bs)(p:Bs)(g:l.length<=4000000):Ev X 200 [cS.sl l,dS p] [] (dB (l.contains p)) []:=by
 refine Ev.bQ Tryz.func200 rfl λd=>?_
 refine bk rfl av ?_;refine AK.bP 0 (λi=>i<=l.length/\∀ j,j<i->l.getD j []≠p) (λi:Nat=>[(0,cS.sl l),(1,dS p),(5,dI i)]) (λ_=>[]) (λi=>l.length-i) 0 rfl ?_ rfl ?_ rfl ⟨by omega,by omega⟩ ?_
 .simp[ag.cat,ag,aP.same]
 .simp[ag]
 rintro i ⟨hi,b⟩
 by_cases h:i<l.length
 .have a:l.getD (i:Int).toNat cS.bE=l.getD i []:=by rw[bA];rfl
  by_cases e:l.getD i []=p
  .refine aX [(9,ab),(17,ab)] 100 rfl ?_ (AK.eh (b6.zero rfl ?_))
   .simp only[ag,a]
    grind
   .have:p∈l:=by grind
    simp[ag,this]
  .refine aX [(9,ab),(17,ae)] 100 rfl ?_ (AK.aQ (i+1) rfl ?_ ?_ ?_ ?_)
   .simp only[ag,a,bx]
    grind
   .simp[ag.cat,ag,aP.same]
   .simp[ag]
   .grind
   .omega
 .refine aX [(9,ae)] 100 rfl (by simp[ag];omega) (AK.leaveD rfl rfl ?_)
  refine bk rfl av (AK.bn rfl ?_);have:¬p∈l:=λc=>by
   obtain⟨j,f,rfl⟩:=dH c
   grind
  simp[ag,this]
def Ld(p:Bs)(b:bG p=ab):Ev X 198 [dS p] [] (dI (codeOf p)) []:=by
 refine Ev.bQ Tryz.func198 rfl λj=>?_
 have a:=b;simp only[bG,bL,ba] at a;refine bk rfl av ?_;refine AK.bP 0 (λi=>i<=p.length) (λi:Nat=>[(0,dS p),(3,dI (codeOf (p.take i))),(4,dI i)]) (λ_=>[]) (λi=>p.length-i) 0 rfl (by simp[ag.cat,ag,codeOf]) rfl (by simp[ag]) rfl (by omega) ?_
 intro i hi
 by_cases h:i<p.length
 .have f:=jT b hi;have g:=jT b (i:=i+1) (by omega)
  have e:=ua h;have k:=iw a.2 (p.getD i 0) (wF h);have c:97<=cB p i/\cB p i<=122:=by unfold cB;omega
  refine aX [(8,ab)] 100 rfl ?_ (AK.aQ (i+1) rfl ?_ ?_ ?_ ?_)
  .simp only[ag,cA,bx];simp[-ai,h,cA];omega
  .have d:(cB p i-97) % 256=cB p i-97:=Int.emod_eq_of_lt (by omega) (by omega)
   rw[d] at e;simp[-ai,ag.cat,ag,cA,e]
  .simp[ag]
  .show i+1<=p.length;omega
  .show p.length-(i+1)<p.length-i;omega
 .obtain rfl:i=p.length:=by omega
  refine aX [(8,ae)] 100 rfl (by simp[ag]) (AK.leaveD rfl rfl ?_)
  refine bk rfl av (AK.bn rfl ?_);simp[ag]
def R6:dM X 198 (jZ aS (λp=>dI (codeOf p)) λp=>[bG p=ab]):=.ox λp h=>Ld p h
def Le(k:Int)(p:Bs)(d:ck k=ab)(b:bG p=ab):Ev X 181 [dI k,dS p] [] (dI (hO k p)) []:=by
 refine Ev.bQ Tryz.func181 rfl λh=>?_
 have f:bD X [(198,jZ aS (λp=>dI (codeOf p)) λp=>[bG p=ab])]:=.cons R6 .nil
 have a:=d;simp only[ck,bL,ba] at a;have c:=p6 b;refine aC f [] 100 rfl ?_ (AK.bn rfl ?_)
 .have e:0<=codeOf p*(2*k+1):=Int.mul_nonneg c.1 (by omega)
  have g:codeOf p*(2*k+1)<=282429536481*199:=Int.mul_le_mul (by omega) (by omega) (by omega) (by omega)
  generalize codeOf p*(2*k+1)=m at e g;simp only[ag,bx];simp[b];omega
 .show (_:Int)=_;rfl
def AH:dM X 181 (p9 aI aS (λk p=>dI (hO k p)) λk p=>[ck k=ab,bG p=ab]):=.tm λk p h=>Le k p h.1 h.2
def Lf(l:List dm) (n:Int)(g:l.length<=4000000):Ev X 199 [oL.sl l,dI n] [] (dI (ub l n)) []:=by
 refine Ev.bQ Tryz.func199 rfl λd=>?_
 refine bk rfl av ?_;refine AK.bP 0 (λi=>i<=l.length/\∀ j,j<i->(l.getD j (0,0)).1≠n) (λi:Nat=>[(0,oL.sl l),(1,dI n),(5,dI i)]) (λ_=>[]) (λi=>l.length-i) 0 rfl ?_ rfl ?_ rfl ⟨by omega,by omega⟩ ?_
 .simp[ag.cat,ag,aP.same]
 .simp[ag]
 rintro i ⟨hi,b⟩
 by_cases h:i<l.length
 .have a:l.getD (i:Int).toNat oL.bE=l.getD i (0,0):=by rw[bA];rfl
  by_cases e:(l.getD i (0,0)).1=n
  .refine aX [(9,ab),(18,ab)] 100 rfl ?_ (AK.eh (b6.zero rfl ?_))
   .simp only[ag,a]
    grind
   .have:ub l n=(l.getD i (0,0)).2:=by
     have:l.find? (λs=>s.1==n)=aa (l.getD i (0,0)):=by
      rw[vo]
      grind
     rw[ub,this]
    simp only[ag,a];rw[this]
  .refine aX [(9,ab),(18,ae)] 100 rfl ?_ (AK.aQ (i+1) rfl ?_ ?_ ?_ ?_)
   .simp only[ag,a,bx]
    grind
   .simp[ag.cat,ag,aP.same]
   .simp[ag]
   .grind
   .omega
 .refine aX [(9,ae)] 100 rfl (by simp[ag];omega) (AK.leaveD rfl rfl ?_)
  refine bk rfl av (AK.bn rfl ?_);have:ub l n=0:=by
   have:l.find? (λs=>s.1==n)=af:=by
    rw[rh];intro x c;obtain⟨j,f,rfl⟩:=dH c
    grind
   rw[ub,this]
  simp[ag,this]
theorem wP{n:Nat}(b:1<=n)(a:n<=8):n<=cE n/\cE n<=8:=by
 unfold cE
 grind
abbrev Gn:dk:=jZ aI (λn=>dI (cE n.toNat)) λn=>[0<=n/\n<=4000000]
def OK:dM X 226 Gn:=.ox λn h=>by
 obtain⟨m,rfl⟩:∃ m:Nat,n=m:=⟨n.toNat,by have:=h.1;omega⟩
 exact HI m (by have:=h.2;omega)
def OL(p:Bs)(c:bG p=ab):Ev X 204 [dS p] [] (dS (iG p)) []:=by
 refine Ev.bQ Tryz.func204 rfl λd=>?_
 have b:bD X [(226,Gn)]:=.cons OK .nil;have a:=c;simp only[bG,bL,ba] at a;have g:=wP a.1.1 a.1.2;refine aC b [] 100 rfl ?_ ?_
 .simp only[ag];omega
 refine AK.bP 0 (λj=>p.length+j<=cE p.length) (λj:Nat=>[(0,dS (p++List.replicate j 46)),(3,dI (cE p.length))]) (λ_=>[]) (λj=>cE p.length-j) 0 rfl (by simp[ag.cat,ag]) rfl (by simp[ag]) rfl (by omega) ?_
 intro j f
 by_cases h:p.length+j<cE p.length
 .refine aC b [(10,ab)] 100 rfl ?_ (AK.aQ (j+1) rfl ?_ ?_ ?_ ?_)
  .simp[ag];omega
  .simp[ag.cat,ag,List.replicate_succ']
  .simp[ag]
  .show p.length+(j+1)<=_;omega
  grind
 .have e:cE p.length-p.length=j:=by omega
  refine aC b [(10,ae)] 100 rfl (by simp[ag];omega) (AK.leaveD rfl rfl ?_)
  refine aC b [] 100 rfl av (AK.bn rfl ?_);simp[ag,iG,c,e]
def Lg(s:dm):Ev X 201 [.e (.agg [.c (.int .i64 s.1),.c (.int .i64 s.2)])] [] (dB (lj s)) []:=by
 refine Ev.bQ Tryz.func201 rfl λf=>?_
 have b:bD X [(15,od)]:=.cons oN .nil
 by_cases a:0<=s.1/\s.1<=999999999988
 .by_cases d:1<=s.2/\s.2<=99
  .refine aC b [(6,ab),(10,ab)] 100 rfl (by simp[ag,a,d]) (AK.bn rfl ?_)
   have:lj s=ab:=by simp[lj,a,d];omega
   simp[ag,this]
  .refine aC b [(6,ab),(10,ae)] 100 rfl (by simp[ag,a,d] <;> omega) (AK.bn rfl ?_)
   have:lj s=ae:=by simp[lj,a];omega
   simp[ag,this]
 .refine aC b [(6,ae),(10,ae)] 100 rfl (by simp[ag];omega) (AK.bn rfl ?_)
  have:lj s=ae:=by simp[lj];omega
  simp[ag,this]
abbrev Lh:dk:=jZ Tp (λs=>dB (lj s)) λ_=>[]
def R7:dM X 201 Lh:=.ox λs _=>Lg s
def Li(s:Bs)(i:Nat)(a:b8 s=ab)(e:3<=i)(hi:i<=s.length)(k:s.length<=4000000):Ev X 227 [dS s,dI i] [] (dB (ld s i)) []:=by
 refine Ev.bQ Tryz.func227 rfl λh=>?_
 have f:=Hq a (i-1) (by omega)
 have j:=Hq a (i-2) (by omega)
 have g:=Hq a (i-3) (by omega)
 have c:((iS s ((i:Int)-1)).toNat:Int)=cB s (i-1):=by grind [cA]
 have d:((iS s ((i:Int)-2)).toNat:Int)=cB s (i-2):=by grind [cA]
 have b:((iS s ((i:Int)-3)).toNat:Int)=cB s (i-3):=by grind [cA]
 refine bk rfl ?_ (AK.bn rfl ?_)
 .simp only[ag,bx,c,d,b];omega
 .simp only[ag,ag.cat,c,d,b,ld,dl,aE]
  grind
abbrev Lj:dk:=p9 aS aI (λs i=>dB (ld s i.toNat)) λs i=>[b8 s=ab,3<=i,i<=s.length,s.length<=4000000]
def R8:dM X 227 Lj:=.tm λs i h=>by
 obtain⟨b,d,c,a⟩:=h;obtain⟨m,rfl⟩:∃ m:Nat,i=m:=⟨i.toNat,by omega⟩
 exact Li s m b (by omega) (by omega) a
def R9(t:Bs)(f:Nat)(i:b8 t=ab)(m:f<=t.length)(q:t.length<=4000000):Ev X 205 [dS t,dI f] [] (dI (cutAt t f)) []:=by
 refine Ev.bQ Tryz.func205 rfl λo=>?_
 have b:bD X [(227,Lj)]:=.cons R8 .nil;refine aC b [] 100 rfl av ?_;refine AK.jP (λj=>j<=5/\tn t f (5-j)=cutAt t f) (λj:Nat=>[(0,dS t),(1,dI f),(5,dI (3+j))]) (λ_=>[]) (λj=>5-j) 0 rfl ?_ rfl av ⟨by omega,rfl⟩ ?_
 .simp[ag,ag.cat]
 rintro j ⟨p,a⟩
 by_cases h:j<5
 .obtain⟨k,l⟩:∃ k,5-j=k+1:=⟨4-j,by omega⟩
  have d:f+(7-k)=f+3+j:=by omega
  rw[l] at a;simp only[tn,d] at a
  by_cases g:t.length<=f+3+j
  .rw[bd g] at a;refine aC b [(7,ab),(15,ab)] 100 rfl ?_ (AK.gK (b6.zero rfl ?_))
   .simp only[ag,bx,ba,aF,aE];omega
   .simp[ag,ag.cat,<-a]
  rw[aY g] at a;have e:((f:Int)+(3+(j:Int))).toNat=f+3+j:=by omega
  cases c:ld t (f+3+j) with
  |true =>
   rw[c,bd rfl] at a;refine aC b [(7,ab),(15,ae),(22,ab)] 100 rfl ?_ (AK.gK (b6.zero rfl ?_))
   .simp only[ag,bx,e,c,i,ba,bM,aF,aE];omega
   .simp[ag,ag.cat,<-a];omega
  |false =>
   rw[c,aY (by simp)] at a
   refine aC b [(7,ab),(15,ae),(22,ae)] 100 rfl ?_ (AK.fW (j+1) rfl ?_ rfl av ⟨by omega,by grind⟩ (by omega))
   .simp only[ag,bx,e,c,i,ba,bM,aF,aE];omega
   .simp[ag,ag.cat];omega
 .have e:cutAt t f=min (f+8) t.length:=by
   rw[<-a,show 5-j=0 by omega];rfl
  have n:bx .i64 ((min (f+8) t.length:Nat):Int):=by simp only[bx];omega
  refine aC b [(7,ae)] 100 rfl ?_ (AK.leave rfl rfl ?_)
  .simp only[ag,bx,ba,bM];omega
  refine aC b [] 100 rfl ?_ ?_
  .simp only[ag,bx];omega
  refine AK.law (Aq ((min (f+8) t.length:Nat):Int) rfl rfl rfl (by omega) n) rfl rfl ?_
  refine aC b [] 100 rfl av (AK.bn rfl ?_);simp[ag,e]
abbrev U4:dk:=p9 aS aI (λs i=>dI (cutAt s i.toNat)) λs i=>[b8 s=ab,0<=i,i<=s.length,s.length<=4000000]
def Yn:dM X 205 U4:=.tm λs i h=>by
 obtain⟨b,d,c,a⟩:=h;obtain⟨m,rfl⟩:∃ m:Nat,i=m:=⟨i.toNat,by omega⟩
 exact R9 s m b (by omega) a
abbrev mG(t:Bs):List Int:=(AI t).map λn:Nat=>(n:Int)
def Lk(t:Bs)(m:b8 t=ab)(p:t.length<=4000000):Ev X 187 [dS t] [] (cI.sl (mG t)) []:=by
 refine Ev.bQ Tryz.func187 rfl λo=>?_
 have b:bD X [(205,U4)]:=.cons Yn .nil;refine aC b [(1000003,ab)] 100 rfl av ?_;refine AK.iu 3 3 1 rfl rfl ?_;refine aC b [] 100 rfl av ?_;refine AK.bP 1 (λs:Nat×List Int=>s.1<=t.length/\s.2.length<=s.1/\∃ k,t.length<=s.1+k/\mG t=s.2++(mH t k s.1).map λn:Nat=>(n:Int)) (λs=>[(0,dS t),(3,.e (.one (.vec 0 1 s.2.length (cI.fn s.2)))),(4,dI s.1)]) (λs=>[.vec 3 1 s.2.length (cI.fn s.2)]) (λs=>t.length-s.1) (0,[]) rfl ?_ rfl ?_ rfl ⟨by simp,by simp,t.length,by simp,by simp[mG,AI]⟩ ?_
 .simp[ag.cat,ag,aP.same,aP.nil]
 .simp[ag.cat,ag,aP.same,aP.nil]
 rintro⟨f,acc⟩ ⟨c,a,k,l,d⟩;simp only at c a l d
 by_cases h:f<t.length
 .obtain⟨k,rfl⟩:∃ k',k=k'+1:=⟨k-1,by omega⟩
  have j:=nq t f h;have g:=cI.cq acc (cutAt t f:Int);have i:acc.length+1=(acc++[(cutAt t f:Int)]).length:=by simp
  refine aC b [(9,ab)] 100 rfl ?_ (AK.aQ (cutAt t f,acc++[(cutAt t f:Int)]) rfl ?_ ?_ ?_ ?_)
  .simp only[ag,m,show i3.bytes=8 from rfl,ba,aF,aE]
   and_intros <;> omega
  .exact ag.cat.2 ⟨rfl,ag.cat.2 ⟨⟨i,g⟩,ag.cat.2 ⟨rfl,av⟩⟩⟩
  .exact ag.cat.2 ⟨⟨i,g⟩,av⟩
  .refine⟨j.2.1,by grind,k,by grind,?_⟩
   rw[d];simp only[mH,bd h];simp
  grind
 .have e:mG t=acc:=by
   have:mH t k f=[]:=by cases k <;> simp[mH,h]
   grind
  refine aC b [(9,ae)] 100 rfl (by simp only[ag,bM];omega) (AK.leaveD rfl rfl ?_)
  refine aC b [] 100 rfl av (AK.bn rfl ?_);rw[e];simp[ag,ag.cat,aP.same]
abbrev Ll:dk:=jZ aS (λt=>cI.sl (mG t)) λt=>[b8 t=ab,t.length<=4000000]
def Sa:dM X 187 Ll:=.ox λt h=>Lk t h.1 h.2
def drop_cons{α:Type}{l r:List α}{i:Nat}{x:α}(h:l.drop i=x::r)(d:α):i<l.length/\l.getD i d=x/\l.drop (i+1)=r:=by
 grind [List.drop_eq_nil_of_le,List.drop_eq_getElem_cons]
def yF(t:Bs):∀ k f,(mH t k f).length<=k
 |0,_=>bg _
 |k+1,f=>by
  simp only[mH];split
  .have:=yF t k (cutAt t f);grind
  .simp
def OM(t:Bs)(w:b8 t=ab)(A:t.length<=4000000):Ev X 160 [dS t] [] (cS.sl (pieces t)) []:=by
 refine Ev.bQ Tryz.func160 rfl λB=>?_
 have d:bD X [(187,Ll)]:=.cons Sa .nil;have y:(mG t).length<=t.length:=by simp only[mG,k6];exact yF t _ _
 refine aC d [(1000002,ab)] 100 rfl av ?_;refine AK.iu 3 9 1 rfl rfl ?_;refine aC d [] 100 rfl (by simp only[ag,w];grind) ?_
 refine AK.bP 1 (λs:Nat×Nat×List Bs=>s.1<=(mG t).length/\s.2.1<=t.length/\s.2.2.length<=s.1/\∃ k,t.length<=s.2.1+k/\(mG t).drop s.1=((mH t k s.2.1).map λn:Nat=>(n:Int))/\pieces t=s.2.2++fg t k s.2.1) (λs=>[(0,dS t),(3,.e (.one (.vec 0 1 s.2.2.length (cS.fn s.2.2)))),(4,dI s.2.1),(5,cI.sl (mG t)),(6,dI s.1)]) (λs=>[.vec 9 1 s.2.2.length (cS.fn s.2.2)]) (λs=>(mG t).length-s.1) (0,0,[]) rfl ?_ rfl ?_ rfl ⟨by simp,by simp,by simp,t.length,by simp,by simp[mG,AI],by simp[pieces]⟩ ?_
 .simp[ag.cat,ag,aP.same,aP.nil]
 .simp[ag.cat,ag,aP.same,aP.nil]
 rintro⟨i,f,acc⟩ ⟨hi,m,g,k,u,l,j⟩;simp only at hi m g u l j
 by_cases h:i<(mG t).length
 .have c:mH t k f≠[]:=by
   grind [List.length_drop]
  obtain⟨k,rfl⟩:∃ k',k=k'+1:=by
   cases k with
   |zero=>exact absurd rfl c
   |succ k=>grind
  have a:f<t.length:=by
   rcases cJ f t.length with h|h
   .exact h
   .exact absurd (by simp only[mH,aY (show ¬f<t.length by omega)]) c
  simp only[mH,bd a,ru] at l;obtain⟨_,z,g2⟩:=drop_cons l 0;have v:=nq t f a;have o:(mG t).getD (i:Int).toNat cI.bE=(cutAt t f:Int):=by grind
  have b:rT t (aa (f:Int)) (aa (cutAt t f:Int))=(t.drop f).take (cutAt t f-f):=by simp[rT,List.drop_take]
  have r:=cS.cq acc ((t.drop f).take (cutAt t f-f));have p:acc.length+1=(acc++[(t.drop f).take (cutAt t f-f)]).length:=by simp
  refine aC d [(13,ab)] 100 rfl ?_ (AK.aQ (i+1,cutAt t f,acc++[(t.drop f).take (cutAt t f-f)]) rfl ?_ ?_ ?_ ?_)
  .simp only[ag,o,bx,iQ,show i9.bytes=16 from rfl,ba,aF,aE]
   and_intros <;> omega
  .simp only[ag.cat,ag,o,b,aF,aE]
   and_intros <;> first|exact p|exact r|exactλ_ _=>rfl|omega
  .simp only[ag.cat,ag,o,b,aF,aE]
   and_intros <;> first|exact p|exact r
  .refine⟨by grind,v.2.1,by grind,k,by grind,g2,?_⟩
   rw[j];simp only[fg,bd a];simp
  grind
 .have e:pieces t=acc:=by
   have q:mH t k f=[]:=by
    grind [List.map_eq_nil_iff]
   have a:¬f<t.length:=by
    intro x;cases k with
    |zero=>omega
    |succ k=>simp only[mH,bd x] at q;cases q
   rw[j];cases k <;> simp[fg,a]
  refine aC d [(13,ae)] 100 rfl (by simp only[ag,bM];omega) (AK.leaveD rfl rfl ?_)
  refine aC d [] 100 rfl av (AK.bn rfl ?_);rw[e];simp[ag,ag.cat,aP.same]
abbrev Gp:dk:=jZ aS (λt=>cS.sl (pieces t)) λt=>[b8 t=ab,t.length<=4000000]
def Lm:dM X 160 Gp:=.ox λt h=>OM t h.1 h.2
def _root_.Go.AM.hY.pt{α:Type}(c:hY α)(l:List α)(x y:α):aP (l.length+1+1) (cR (l.length+1) (cR l.length (c.fn l) λq=>[c.enc x].getD q []) λq=>[c.enc y].getD q []) (c.fn (l++[x,y])):=by
 have h1:=c.cq l x;have h2:=c.cq (l++[x]) y;rw[show (l++[x]).length=l.length+1 by simp,show l++[x]++[y]=l++[x,y] by simp] at h2
 intro q a;rw[<-h2 q a];simp only[cR]
 by_cases e:q<l.length+1
 .rw[bd e,bd e];exact h1 q e
 grind
abbrev Yq(x:cC):D:=.e (.agg [.c (.int .i64 x.1),.c (.str x.2)])
def j1(x:cC)(acc:List cC×Bool)(y:cC):List cC×Bool:=if acc.2=ab then (acc.1++[y],ab) else if x.1<y.1 then (acc.1++[x,y],ab) else (acc.1++[y],ae)
def yN(x:cC):∀ (l:List cC)(a:List cC),(l.foldl (j1 x) (a,ab))=(a++l,ab)
 |[],a=>by simp
 |y::r,a=>by
  rw[jk,show j1 x (a,ab) y=(a++[y],ab) from rfl,yN x r]
  simp
def yO(x:cC):∀ (l:List cC)(a:List cC),(if (l.foldl (j1 x) (a,ae)).2=ab then (l.foldl (j1 x) (a,ae)).1 else (l.foldl (j1 x) (a,ae)).1++[x])=a++sr l x
 |[],a=>by simp[sr]
 |y::r,a=>by
  rw[jk]
  by_cases h:x.1<y.1
  .rw[show j1 x (a,ae) y=(a++[x,y],ab) by simp[j1,h],yN]
   simp[sr,h]
  .rw[show j1 x (a,ae) y=(a++[y],ae) by simp[j1,h],yO x r]
   simp[sr,h]
theorem yP(x:cC):∀ (l:List cC)(a:List cC×Bool),(l.foldl (j1 x) a).1.length<=a.1.length+l.length+1-(if a.2=ab then 1 else 0)
 |[],a=>by grind
 |y::r,a=>by
  rw[jk];have:=yP x r (j1 x a y);unfold j1 at this ⊢
  grind
abbrev uI(x:cC)(l:List cC)(i:Nat):List cC×Bool:=(l.take i).foldl (j1 x) ([],ae)
def HQ{x:cC}{l:List cC}{i:Nat}(h:i<l.length):uI x l (i+1)=j1 x (uI x l i) (l.getD i (0,[])):=by
 grind [bq]
def Cu(x:cC)(l:List cC)(i:Nat):(uI x l i).1.length<=l.length+1:=by
 grind [yP]
abbrev p3F(l:List cC)(x:cC)(i:Nat)(a:List cC×Bool):Fr:=[(0,dK.sl l),(3,.e (.one (.ptr 0 0))),(5,.e (.one (.vec 1 2 a.1.length (dK.fn a.1)))),(6,dB a.2),(7,dI i)]
abbrev p3B(x:cC)(a:List cC):List aV:=[.cells 88 [.c (.int .i64 x.1),.c (.str x.2)],.vec 88 2 a.length (dK.fn a)]
def OO(l:List cC)(x:cC)(q:l.length<=4000000):Ev X 203 [dK.sl l,Yq x] [] (dK.sl (sr l x)) []:=by
 refine Ev.bQ Tryz.func203 rfl λp=>?_
 refine aX [(1000002,ab)] 200 rfl av ?_;refine AK.iu 5 88 2 rfl rfl ?_;refine dY rfl av ?_;refine AK.bP 2 (λi=>i<=l.length) (λi:Nat=>p3F l x i (uI x l i)) (λi=>p3B x (uI x l i).1) (λi=>l.length-i) 0 rfl ?_ rfl ?_ rfl (by omega) ?_
 .simp[ag.cat,ag,aP.same,aP.nil,uI]
 .simp[ag.cat,ag,aP.same,aP.nil,uI]
 intro i hi
 by_cases h:i<l.length
 .have n:=HQ (x:=x) h;have e:=Cu x l i;have f:l.getD (i:Int).toNat dK.bE=l.getD i (0,[]):=by grind
  generalize uI x l i=a at n e;obtain⟨a,b⟩:=a;simp only at e;have k:=dK.cq a (l.getD i (0,[]));have m:=dK.pt a x (l.getD i (0,[]));cases b with
  |true =>
   have c:uI x l (i+1)=(a++[l.getD i (0,[])],ab):=n;have j:a.length+1=(a++[l.getD i (0,[])]).length:=by simp
   refine aX [(12,ab)] 200 rfl ?_ (AK.aQ (i+1) rfl ?_ ?_ ?_ ?_)
   .simp only[ag,f,bx,show i88.bytes=24 from rfl,ba,aF,aE];and_intros <;> omega
   .rw[c];simp only[ag.cat,ag,f,aF,aE]
    and_intros <;> first|exact j|exact k|exactλ_ _=>rfl|rfl|omega
   .rw[c];simp only[ag.cat,ag,f,aF,aE]
    and_intros <;> first|exact j|exact k|exactλ_ _=>rfl|rfl|omega
   .grind
   .omega
  |false =>
   by_cases g:x.1<(l.getD i (0,[])).1
   .have c:uI x l (i+1)=(a++[x,l.getD i (0,[])],ab):=by rw[n];simp only[j1,bd g];rfl
    have j:a.length+1+1=(a++[x,l.getD i (0,[])]).length:=by simp
    refine aX [(12,ab),(25,ab)] 200 rfl ?_ (AK.aQ (i+1) rfl ?_ ?_ ?_ ?_)
    .simp only[ag,f,bx,show i88.bytes=24 from rfl,g,ig,ba,aF,aE];and_intros <;> omega
    .rw[c];simp only[ag.cat,ag,f,aF,aE]
     and_intros <;> first|exact j|exact m|exactλ_ _=>rfl|rfl|omega
    .rw[c];simp only[ag.cat,ag,f,aF,aE]
     and_intros <;> first|exact j|exact m|exactλ_ _=>rfl|rfl|omega
    .grind
    .omega
   .have c:uI x l (i+1)=(a++[l.getD i (0,[])],ae):=by rw[n];simp only[j1,aY g];rfl
    have j:a.length+1=(a++[l.getD i (0,[])]).length:=by simp
    refine aX [(12,ab),(25,ae)] 200 rfl ?_ (AK.aQ (i+1) rfl ?_ ?_ ?_ ?_)
    .simp only[ag,f,bx,show i88.bytes=24 from rfl,ba,g,kA,nI,bM,aF,aE];and_intros <;> omega
    .rw[c];simp only[ag.cat,ag,f,aF,aE]
     and_intros <;> first|exact j|exact k|exactλ_ _=>rfl|rfl|omega
    .rw[c];simp only[ag.cat,ag,f,aF,aE]
     and_intros <;> first|exact j|exact k|exactλ_ _=>rfl|rfl|omega
    .grind
    .omega
 .obtain rfl:i=l.length:=by omega
  have d:=yO x l [];have e:=Cu x l l.length;refine aX [(12,ae)] 200 rfl (by simp[ag]) (AK.leaveD rfl rfl ?_)
  have o:uI x l l.length=l.foldl (j1 x) ([],ae):=by grind
  rw[o] at e ⊢;generalize l.foldl (j1 x) ([],ae)=a at *;obtain⟨a,b⟩:=a;simp only[List.nil_append] at d e;cases b with
  |true =>
   simp only[cu] at d;subst d;refine dY rfl av (AK.bn rfl ?_);simp[ag,ag.cat,aP.same]
  |false =>
   simp only[jE,cd] at d;have k:=dK.cq a x;refine dY rfl ?_ (AK.bn rfl ?_)
   .simp only[ag,show i88.bytes=24 from rfl,aF,aE];grind
   .rw[<-d];simp only[ag.cat,ag,aF,aE]
    and_intros <;> first|exact k|simp
abbrev Qk:dk:=p9 (aL dK) To (λl x=>dK.sl (sr l x)) λl _=>[l.length<=4000000]
def U7:dM X 203 Qk:=.tm λl x h=>OO l x h
end
end Go.AM.R1
