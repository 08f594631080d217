/- Part 4. No condition. -/
import Derived.Test.YtemefbgdmkionaaGreatDoorA3
import Derived.Lib.FrozenHead
import Derived.Lib.UnsafeStr
import Derived.Lib.MakeNoZero
import Derived.Laws.Externs
import Derived.Lib.Builder
import Derived.Maps.RangeRun
import Derived.Lib.Bytealg
import Derived.Conc.DeferLaws
set_option linter.all false
set_option maxHeartbeats 8000000
open Go renaming Value → ak
open Option renaming some → aa
open Go renaming Program → aq
open Go renaming TypeId → ar
open Bool renaming true → ab
open Go renaming Goroutine → au
open Go renaming Frame → aO
open Go renaming Oper → aw
open Go renaming FuncId → aV
open Go renaming execOp → ay
open Go renaming Operand → an
open Option renaming none → af
open Bool renaming false → ae
open Go renaming undef → aj
open Go.World renaming cell? → aZ
open List renaming getD_eq_getElem?_getD → ai
open Go.Sem renaming events_bind → aP
open Go.Result renaming evThen_ok → aU
open Go renaming World → az
open Go renaming stepG → aK
open List renaming range → bh
open Nat renaming beq → aA
open Nat renaming ble → bq
open Go.Region renaming ready → ba
open Go.Op renaming bytesLess → bk
open Go.Proofs.Tryz renaming prog → ah
open Go.Conc renaming stepG_seq → aD
open Go.Conc renaming stepG_region_end → aC
namespace Go.AM
section
open Go.Conc (G)
def rU{P:aq}(X:Cx P)(N:Nat)(all:List aw)(o:aw)(φ:Fr)(σ:List aW){ι:Type}(x:ι->D)(σ':ι->List aW):Prop :=
 ∀ s a,cp N σ s φ a->aJ σ s->∀ (b:aO) (k:List Item) (cs:List aO) (S:au->St->Prop) (i:Nat) (rest:List Nat),b.kind≠.early->all.toArray[i]?=aa o ->
  (∀ j v s',c8 (σ' j) s' v (x j)->aJ (σ' j) s'->cw σ s (σ' j) s'->eZ X S (G (b.aT (a.put o.dst v) (.inRegion all.toArray rest::k)) cs) s')->eZ X S (G (b.aT a (.inRegion all.toArray (i::rest)::k)) cs) s
def zT:List aw->Nat->(Nat->D)->List (Option Nat×D)
 |[],_,_=>[]
 |o::r,i,x=>(o.dst,x i)::zT r (i+1) x
def wh{x:Nat->D}:∀ {l:List aw}{k j:Nat},(zT l k x)[j]?=(l[j]?).map λo=>(o.dst,x (k+j))
 |[],k,j=>by simp[zT]
 |o::r,k,0=>by simp[zT]
 |o::r,k,j+1=>by
  simp only[zT,mN];rw[wh,show k+1+j=k+(j+1) by omega]
def m6(all:List aw)(φ:Fr)(x:Nat->D)(i:Nat):Fr:=jo (λj=>fI j (bP (all.getD i fV).after.toList)) 0 (zT all 0 x) (uz all φ)
def MK(all:List aw)(φ:Fr)(x:Nat->D):Fr:=jo (λ_=>ab) 0 (zT all 0 x) (uz all φ)
def n3(N:Nat):List aw->Bool
 |[]=>ab
 |o::r=>match gv N o.dst with|true=>n3 N r|false=>ae
def yl{N:Nat}:∀ {l:List aw},n3 N l=ab->∀ (i:Nat)(o:aw),l[i]?=aa o->gv N o.dst=ab
 |[],_,i,o,h=>by simp at h
 |p::r,h,i,o,hi=>by
  simp only[n3] at h;split at h
  .rename_i a
   cases i with
   |zero=>simp at hi;subst hi;exact a
   |succ i=>exact yl h i o (by simpa using hi)
  .cases h
def rV:List aw->Nat->Bool
 |[],_=>ab
 |o::r,i=>match S0 i (bP o.after.toList) with|true=>rV r (i+1)|false=>ae
def BO:∀ {l:List aw}{k:Nat},rV l k=ab->∀ (i:Nat)(o:aw),l[i]?=aa o->∀ e∈bP o.after.toList,e<k+i
 |[],_,_,i,o,h=>by simp at h
 |p::r,k,h,i,o,hi=>by
  simp only[rV] at h;split at h
  .rename_i a
   cases i with
   |zero=>simp at hi;subst hi;exact DI a
   |succ i=>intro e b;have:=BO h i o (by simpa using hi) e b;omega
  .cases h
def zU(pre:Nat->Bool):List Nat->Bool
 |[]=>ae
 |e::r=>match pre e with|true=>zU pre r|false=>ab
def ym{pre:Nat->Bool}:∀ {l:List Nat},zU pre l=ab->∃ e∈l,pre e=ae
 |[],h=>by cases h
 |e::r,h=>by
  simp only[zU] at h;split at h
  .obtain⟨c,b,a⟩:=ym h;grind
  grind
def xI(pre:Nat->Bool)(m:Nat):List aw->Nat->Bool
 |[],_=>ab
 |o::r,i=>match pre i with
  |true=>xI pre m r (i+1)
  |false=>match aA i m with
   |true=>xI pre m r (i+1)
   |false=>match zU pre (bP o.after.toList) with|true=>xI pre m r (i+1)|false=>ae
def FO{pre:Nat->Bool}{m:Nat}:∀ {l:List aw}{k:Nat},xI pre m l k=ab->∀ (i:Nat)(o:aw),l[i]?=aa o->pre (k+i)=ae->k+i≠m->∃ e∈bP o.after.toList,pre e=ae
 |[],_,_,i,o,h=>by simp at h
 |p::r,k,h,i,o,hi=>by
  intro b c;simp only[xI] at h;cases i with
  |zero =>
   simp at hi;subst hi;simp only[iM] at b c;have a:aA k m=ae:=by
    cases a:aA k m with
    |true=>exact absurd (bT a) c
    |false=>rfl
   simp only[b,a] at h;split at h
   .rename_i f;exact ym f
   .cases h
  |succ i =>
   have d:xI pre m r (k+1)=ab:=by
    grind
   exact FO d i o (by simpa using hi) (by grind) (by omega)
section
variable {P:aq}{X:Cx P}{N:Nat}{ops:Array aw}{φ:Fr}{σ:List aW}{idx:Nat->Option Nat}
def Nz{x:Nat->D}{s:St}{a:Act}{L:Array Bool}{i:Nat}{o:aw}(c:∀ t σ s v,c8 σ s v (match idx t with|some j=>(if ∃ e∈o.after,cZ e=ab/\e.on=j then x j else .any)|none=>look φ t)->c8 σ s v (look (m6 ops.toList φ x i) t))
  (f:IH N σ s (fY φ x idx L) a) (g:∀ e∈o.after,cZ e=ab->L.getD e.on ae=ab):cp N σ s (m6 ops.toList φ x i) a:=f.Jk λt σ s v d=>c t σ s v (by
 unfold fY at d;cases b:idx t with
 |none=>simpa[b] using d
 |some j =>
  simp only[b] at d ⊢;split
  .grind
  .trivial)
def G0{x y:Nat->D}{σ2:List aW}{s s':St}{a:Act}{v:ak}{L:Array Bool}{i:Nat}{o:aw}(g:∀ d,o.dst=aa d->idx d=aa i/\d<N)(u:∀ d j,idx d=aa j->∃ o,ops[j]?=aa o/\o.dst=aa d)
  (C:ops[i]?=aa o) (r:i<L.size) (w:∀ j,L.getD j ae=ab->y j=x j) (k:s.β.length=σ.length) (st:cw σ s σ2 s') (b:IH N σ s (fY φ x idx L) a) (z:c8 σ2 s' v (y i)):IH N σ2 s' (fY φ y idx (L.setIfInBounds i ab)) (a.put o.dst v):=by
 have old:∀ t,idx t≠aa i->c8 σ2 s' (a.tmps.getD t aj) (fY φ y idx (L.setIfInBounds i ab) t):=by
  intro t A;have c:=(b.slot t).mono st.ext k;unfold fY at c ⊢;cases f:idx t with
  |none=>simpa[f] using c
  |some j =>
   simp only[f] at c ⊢;have m:j≠i:=by rintro rfl;exact A f
   have e:((L.setIfInBounds i ab).getD j ae=ab)↔L.getD j ae=ab:=by rw[ew r];simp[m]
   grind
 cases B:o.dst with
 |none =>
  refine⟨b.size,b.defers.imp λ_ l=>l.mono st.ext,λt=>?_⟩
  refine old t λh=>?_
  grind
 |some d =>
  obtain⟨q,n⟩:=g d B;refine⟨by simp[Act.put,b.size],b.defers.imp λ_ l=>l.mono st.ext,λt=>?_⟩
  simp only[Act.put]
  by_cases e:d=t
  .subst e;have p:d<a.tmps.size:=by rw[b.size];exact n
   simp only[dn,sI p,fG];unfold fY;simp only[q];rw[bg ((ew r).2 (.inl rfl))];exact z
  .have:=old t (λh=>by
    grind)
   simp only[dn] at this ⊢
   grind
def J2{back:∀ i o,ops[i]?=aa o->∀ e∈o.after,cZ e=ab->e.on<i}{L:Array Bool}(g:L.size=ops.size)(d:ba .any ops L=[]):∀ i,i<ops.size->L.getD i ae=ab:=by
 intro i
 induction i using Nat.strongRecOn with
 |_ i c =>
  intro hi;cases f:L.getD i ae with
  |true=>rfl
  |false =>
   have a:i∈ba .any ops L:=mem_ready.2 ⟨ops[i],fQ hi,by
    grind,λe h b=>by
    grind⟩
   rw[d] at a;simp at a
def D2{L:Array Bool}{t:Nat}(a:(ba .any ops L)[t % (ba .any ops L).length]?=af):ba .any ops L=[]:=by
 cases d:ba .any ops L with
 |nil=>rfl
 |cons y c =>
  rw[d] at a;have b:t % (y::c).length<(y::c).length:=hJ _ (by simp)
  simp at a;simp at b;omega
def zV{L:Array Bool}(e:L.size=ops.size)(d:(L.toList.filter (λb=>!b)).length<=0):∀ i,i<ops.size->L.getD i ae=ab:=by
 intro i hi;have c:L[i]'(by omega)∈L.toList:=by simp
 cases a:L[i]'(by omega) with
 |true=>simp[dn,fQ (by omega:i<L.size),a]
 |false =>
  have:L[i]'(by omega)∈L.toList.filter (λb=>!b):=md.2 ⟨c,by simp[a]⟩
  grind
end
def qi(xs:List UInt8):List ak:=xs.map λx=>.int .u8 x.toNat
def rz{xs:List UInt8}:(qi xs).length=xs.length:=by simp[qi]
def MW{xs b:List UInt8}:qi (xs++b)=qi xs++qi b:=by simp[qi]
def oS(bf:Option (Nat×Nat))(n:Nat):ak:=match bf with|none=>.slice af 0 0|some (g,cap)=>.slice (aa ⟨g,0,af⟩) n cap
def BB(T E:ar)(a:Bool)(v1:ak)(bf:Option (Nat×Nat))(xs:List UInt8)(f:Nat):ak->(Nat->Option Obj)->Prop:=λv d =>
 ∃ b,v=.pointer (aa ⟨b,0,af⟩)/\cX v1=ab/\d b=aa (.cells #[if a then v else .pointer af,v1] T (0,0)) /\
 match bf with
 |none=>xs=[]/\∀ c,(d c).isSome=ab↔c=b
 |some (g,cap)=>g≠b/\xs.length<=cap/\0<cap/\cap<=9223372036854775807/\f<=xs.length/\(∃ e,(qi xs++e).length=cap/\d g=aa (.cells (qi xs++e).toArray E (0,f)))/\∀ c,(d c).isSome=ab↔c=b∨c=g
section
variable {P:aq}{X:Cx P}{N:Nat}{m:List (Nat×TI)}{o:aw}{k:an->D}{σ:List aW}{l:Nat}{T E:ar}{a:Bool}{v1:ak}{bf:Option (Nat×Nat)}{xs:List UInt8}{f:Nat}{s:St}
structure vp (P:aq)(σ:List aW)(s:St)(l:Nat)(T E:ar)(a:Bool)(v1:ak)(bf:Option (Nat×Nat))(xs:List UInt8)(f:Nat)(L:Loc)(b:Nat)(ch:Nat->Option Obj):Prop where
 β:s.β[l]?=aa L
 v:L.v=.pointer (aa ⟨b,0,af⟩)
 bb:BB T E a v1 bf xs f L.v ch
 heap:∀ (b:Nat) (o:Obj),ch b=aa o->s.w.heap[b]?=aa o
 bs:∀ b,b∈L.bs↔(ch b).isSome=ab
 M:∀ b∈L.bs,∀ o,s.M b o=af
 ch:ch b=aa (.cells #[if a then L.v else .pointer af,v1] T (0,0))
 cell:cX v1=ab
def BB.row(hh:aJ σ s)(hl:σ[l]?=aa (.dz (BB T E a v1 bf xs f))):∃ L b ch,vp P σ s l T E a v1 bf xs f L b ch:=by
 have c:l<s.β.length:=by rw[hh.len];grind
 have e:=bl c;generalize s.β[l]=L at e;obtain⟨ch,g,h1,h2,j⟩:=hh.box l _ L hl e;have d:=g;obtain⟨b,h,i,hb,_⟩:=d;exact⟨L,b,ch,e,h,g,h1,h2,j,hb,i⟩
def vp.mem{L:Loc}{b:Nat}{ch:Nat->Option Obj}(r:vp P σ s l T E a v1 bf xs f L b ch):b∈L.bs:=(r.bs b).2 (by rw[r.ch];rfl)
def vp.ptr{L:Loc}{b:Nat}{ch:Nat->Option Obj}(r:vp P σ s l T E a v1 bf xs f L b ch){v:ak}{off:Nat}(h:c8 σ s v (.e (.one (.ptr l off)))):v=.pointer (aa ⟨b,off,af⟩):=by
 obtain⟨_,c,d,h1,h2,rfl⟩:=(h:gu σ s v (.ptr l off));rw[r.β] at h1;cases h1;rw[r.v] at h2;cases h2;rfl
def I0(B:db P m){t:ar}{x:an}{i:TI}(h:o.op=.load t x)(hi:bA m t=aa i)(F:i.agg=ae)(J:σ[l]?=aa (.dz (BB T E a v1 bf xs f))){off:Nat}{d:D}(G:k x=.e (.one (.ptr l off)))
  (I:∀ s L b ch,aJ σ s->vp P σ s l T E a v1 bf xs f L b ch->∃ v,(#[if a then L.v else .pointer af,v1]:Array ak)[off]?=aa v/\c8 σ s v d):bF P o k σ d σ:=by
 refine .nR λs ρ C K=>?_
 obtain⟨L,b,ch,r⟩:=BB.row (P:=P) C J;have A:=r.ptr (by have:=K x;rwa [G] at this)
 obtain⟨v,u,y⟩:=I s L b ch C r;have g:s.w.cell? ⟨b,off,af⟩=aa v:=by
  simp only[aZ,r.heap _ _ r.ch];simpa using u
 have c:(loadVar t ⟨b,off,af⟩).run P s.w=.ok v s.w:=by
  simp[loadVar,(B t i hi).ju,F,run_load,g]
 refine⟨v,by simp[ay,h,A,Instr.loadAt,Instr.sureAddr,c],y,λz q=>?_⟩
 have p:z∈(loadVar t ⟨b,off,af⟩).events P s.w #[]:=by
  have e:ay ρ o=(do pure (.value (<-loadVar t ⟨b,off,af⟩))):=by simp[ay,h,A,Instr.loadAt,Instr.sureAddr]
  rw[e] at q;simpa[c] using q
 obtain⟨j,H,rfl⟩:=jl (B t i hi) (n:=1) (λj H=>by
  grind) (by simp[F]) z p
 exact rA (bM r.β) r.mem
def bF.e9(c:db P m){t:ar}{x:an}{i:TI}(h:o.op=.load t x)(hi:bA m t=aa i)(g:i.agg=ae)(hl:σ[l]?=aa (.dz (BB T E a v1 bf xs f)))(d:k x=.e (.one (.ptr l 1))):bF P o k σ (.e (.one (.v v1))) σ :=
 I0 c h hi g hl d λs L b ch hh r=>⟨v1,by simp,Rd.val r.cell⟩
def MX{H:ak->(Nat->Option Obj)->Prop}(b:σ[l]?=aa (.dz H)):∀ B,σ[l]?=aa B->B.gr=ae:=by intro B h;rw[b] at h;cases h;rfl
def bF.I1(c:db P m){t:ar}{x:an}{i:TI}(h:o.op=.load t x)(hi:bA m t=aa i)(g:i.agg=ae)(hl:σ[l]?=aa (.dz (BB T E ab v1 bf xs f)))(d:k x=.e (.one (.ptr l 0))):bF P o k σ (.e (.one (.ptr l 0))) σ :=
 I0 c h hi g hl d λs L b ch hh r=>⟨L.v,by simp,MX hl,L,b,r.β,r.v,r.v⟩
def bF.Qc(d:db P m){t:ar}{x:an}{i:TI}(h:o.op=.load t x)(hi:bA m t=aa i)(j:i.agg=ae)(hl:σ[l]?=aa (.dz (BB T E ae v1 bf xs f)))(g:k x=.e (.one (.ptr l 0))):bF P o k σ (.e (.one (.c .l9))) σ :=
 I0 d h hi j hl g λs L b ch hh r=>⟨.pointer af,by simp,Rd.l9⟩
def setRow_size(w:az)(b:Nat)(row:Array ak):(w.setRow b row).heap.size=w.heap.size:=by simp[World.setRow]
def I2(hT:db P m){t:ar}{x y:an}{i:TI}(h:o.op=.store t x y)(hi:bA m t=aa i)(C:i.size=1)(Z:σ[l]?=aa (.dz (BB T E a v1 bf xs f))){off:Nat}{c:Bool}{d:ak}(hx:k x=.e (.one (.ptr l off)))(ho:off<2)(hc:cX d=ab)
  (hd:∀ s L b ch v,aJ σ s->vp P σ s l T E a v1 bf xs f L b ch->c8 σ s v (k y)->cX v=ab/\(#[if a then L.v else .pointer af,v1]:Array ak).setIfInBounds off v=#[if c then L.v else .pointer af,d]):bF P o k σ .any (σ.set l (.dz (BB T E c d bf xs f))):=by
 intro s ρ S hr;obtain⟨L,b,ch,r⟩:=BB.row (P:=P) S Z;have H:=r.ptr (by have:=hr x;rwa [hx] at this)
 obtain⟨G,K⟩:=hd s L b ch (ρ y) S r (hr y);have q:(ρ y).cells=#[ρ y]:=by cases Q:ρ y <;> simp[Q,cX,Value.cells] at G ⊢
 have z:∀ v∈[ρ y],v.oneCell'=ab:=by
  intro v H;simp at H;subst H;cases Q:ρ y <;> simp[Q,cX,Value.oneCell'] at G ⊢
 have p:=r.heap _ _ r.ch;have J:=run_storeCells_at P b off T [ρ y] 0 _ s.w p (by simp;omega) z
 have B:((#[if a then L.v else .pointer af,v1]:Array ak).toList.take (off+0)++[ρ y]++(#[if a then L.v else .pointer af,v1]:Array ak).toList.drop (off+0+[ρ y].length)).toArray=#[if c then L.v else .pointer af,d]:=by
  rw[<-K]
  match off,ho with
  |0,_=>apply hO;simp
  |1,_=>apply hO;simp
 rw[B] at J;have I4:(s.w.setRow b #[if c then L.v else .pointer af,d]).heap[b]?=aa (.cells #[if c then L.v else .pointer af,d] T (0,0)):=setRow_heap s.w b _ _ T _ p
 have A:∀ g,g≠b->(s.w.setRow b #[if c then L.v else .pointer af,d]).heap[g]?=s.w.heap[g]?:=λg n=>setRow_other s.w b g _ n
 obtain⟨t1,Y⟩:=S.k5 (l:=l) (H':=BB T E c d bf xs f) (L':=L) (w':=s.w.setRow b #[if c then L.v else .pointer af,d]) Z r.β rfl (by rw[setRow_size];exact bc _)
  (λg n hn=>A g (by rintro rfl;exact hn r.mem)) (λg n=>.inl n)
  ⟨λg=>if g=b then aa (.cells #[if c then L.v else .pointer af,d] T (0,0)) else ch g,by
   obtain⟨U,R,q2,q3,q4⟩:=r.bb;have:U=b:=by rw[r.v] at R;simpa using R.symm
   subst this;have V:∀ g,(if g=U then aa (Obj.cells #[if c then L.v else .pointer af,d] T (0,0)) else ch g).isSome=ab↔(ch g).isSome=ab:=by
    grind
   refine⟨U,R,hc,by simp,?_⟩
   grind,λg o' n=>by
   by_cases e:g=b
   .grind
   .simp only[e,b5] at n;rw[A g e];exact r.heap _ _ n,λg=>by
   rw[r.bs g]
   by_cases e:g=b
   .subst e;simp[r.ch]
   .simp[e]⟩ rfl rfl rfl
 have F:s.β.set l L=s.β:=by
  apply iK
  intro j
  by_cases e:l=j
  .subst e;rw[eX (cg.1 r.β).1,r.β]
  .rw[fE e]
 rw[F] at t1 Y;refine⟨.skip,{ s with w:=s.w.setRow b #[if c then L.v else .pointer af,d] },?_,rfl,t1,Y,?_⟩
 .simp[ay,h,H,Instr.storeAt,Instr.sureAddr,storeVar,(hT t i hi).run_sizeOf,C,q,J]
 .intro W u;have e:ay ρ o=(do storeVar t ⟨b,off,af⟩ (ρ y);pure .skip):=by simp[ay,h,H,Instr.storeAt,Instr.sureAddr]
  rw[e] at u;have I:W∈(storeCells ⟨b,off,af⟩ [ρ y]).events P s.w #[]:=by
   simp only[storeVar,aP,(hT t i hi).run_sizeOf,q,C,aU,events_sizeOf,cT,fi,b5,bS,b7,Sem.events_pure,List.size_toArray,eh] at u;generalize (storeCells ⟨b,off,af⟩ [ρ y]).run P s.w=r at u;cases r with
   |ok v w'=>simpa using u
   |halt x w'=>simpa using u
  rcases eD [ρ y] 0 _ s.w #[] p (by simp;omega) z W I with O|⟨j,_,_,rfl⟩
  .simp at O
  .exact mn (bM r.β) r.mem (r.M _ r.mem _)
def bF.zo(p:db P m){t:ar}{x y:an}{i:TI}(h:o.op=.store t x y)(hi:bA m t=aa i)(d:i.size=1)(hl:σ[l]?=aa (.dz (BB T E a v1 bf xs f))){c:ak}(n:k x=.e (.one (.ptr l 1)))(q:k y=.e (.one (.v c)))(j:cX c=ab):bF P o k σ .any (σ.set l (.dz (BB T E a c bf xs f))) :=
 I2 p h hi d hl n (by omega) j λs L b ch v hh r g=>by
  rw[q] at g;have:=Rd.fX g;subst this;exact⟨j,rfl⟩
def bF.MY(j:db P m){t:ar}{x y:an}{i:TI}(h:o.op=.store t x y)(hi:bA m t=aa i)(c:i.size=1)(hl:σ[l]?=aa (.dz (BB T E a v1 bf xs f)))(g:k x=.e (.one (.ptr l 0)))(n:k y=.e (.one (.ptr l 0)))(p:cX v1=ab):bF P o k σ .any (σ.set l (.dz (BB T E ab v1 bf xs f))) :=
 I2 j h hi c hl g (by omega) p λs L b ch v hh r d=>by
  rw[n] at d;have:=r.ptr d;subst this;refine⟨rfl,?_⟩;rw[<-r.v];rfl
def bF.Qd{T:ar}(h:o.op=.alloc T)(j:∀ w,(zeroValue T).run P w=.ok (.agg #[.pointer af,.slice af 0 0]) w)(g:∀ w es,(zeroValue T).events P w es=es):bF P o k σ (.e (.one (.ptr σ.length 0))) (σ++[.dz (BB T E ae (.slice af 0 0) af [] 0)]):=by
 intro s ρ hh hr
 let w':=s.w.alloc (.cells #[.pointer af,.slice af 0 0] T)
 obtain⟨r,g2⟩:=hh.grow (M':=s.M) (w':=w') (by simp[w']) (λb hb=>cE s.w _ hb) (λ_ _ _=>rfl) (λb hb o v i=>by have:=hh.block i;omega) rfl rfl rfl
 have q:w'.heap.size=s.w.heap.size+1:=by simp[w']
 have p:w'.heap[s.w.heap.size]?=aa (.cells #[.pointer af,.slice af 0 0] T (0,0)):=dt s.w _;obtain⟨u,t⟩:=r.gT g2 rfl hh (B:=.dz (BB T E ae (.slice af 0 0) af [] 0)) (L:=⟨.pointer (aa ⟨s.w.heap.size,0,af⟩),[s.w.heap.size]⟩)
  ⟨λd=>if d=s.w.heap.size then aa (.cells #[.pointer af,.slice af 0 0] T (0,0)) else af,⟨s.w.heap.size,rfl,rfl,by simp,rfl,λd=>by by_cases e:d=s.w.heap.size <;> simp[e]⟩,λd n c=>by
   grind,λd=>by by_cases e:d=s.w.heap.size <;> simp[e],λd c n=>by
   simp at c;subst c;show s.M _ _=af;cases i:s.M s.w.heap.size n with
   |none=>rfl
   |some v=>have:=hh.block i;omega⟩ (λd c=>by grind)
 refine⟨.value (.pointer (aa ⟨s.w.heap.size,0,af⟩)),_,?_,⟨by simp,⟨.pointer (aa ⟨s.w.heap.size,0,af⟩),[s.w.heap.size]⟩,s.w.heap.size,?_,rfl,rfl⟩,u,t,?_⟩
 .simp[ay,h,Instr.alloc,j,Go.newVar,newRow,Value.cells,w']
 .simp[<-hh.len]
 .simp[ay,h,Instr.alloc,j,g,Go.newVar,newRow];exact .nil
end
section
variable {P:aq}{X:Cx P}{N:Nat}{z:List (Nat×TI)}{o:aw}{q:an->D}{σ:List aW}{l:Nat}{T E:ar}{d:Bool}{v1:ak}{bf:Option (Nat×Nat)}{xs:List UInt8}{k:Nat}{s:St}
def oT{P:aq}{b o:Nat}{t:ar}{k:Nat×Nat}:∀ (vs:List ak)(i:Nat)(a:Array ak)(w:az)(es:Array Event),w.heap[b]?=aa (.cells a t k)->k.2<=o+i->o+i+vs.length<=a.size->(∀ v∈vs,v.oneCell'=ab) ->
  ∀ e∈(storeCells ⟨b,o,af⟩ vs i).events P w es,e∈es∨∃ j,i<=j/\j<i+vs.length/\e=GD b (o+j)
 |[],_,_,_,_,_,_,_,_=>λe h=>.inl (by simpa[storeCells] using h)
 |v::rest,i,a,w,es,g,A,r,m=>λe h=>by
  have hi:o+i<a.size:=by simp at r;omega
  have c:w.cell? ⟨b,o+i,af⟩=aa a[o+i]:=by simp[aZ,g,hi]
  have f:w.frozen? ⟨b,o+i,af⟩=ae:=by
   obtain⟨lo,y⟩:=k;simp only[World.frozen?,g,qV,bR]
   grind
  have n:(store (⟨b,o+i,af⟩:Addr) v).run P w=.ok () (w.setRow b (a.setIfInBounds (o+i) v)):=by
   rw[run_store P w _ v _ (m v (by simp)),c]
   simp[f,setCell_eq_setRow w b (o+i) a t k v g]
  have p:(store (⟨b,o+i,af⟩:Addr) v).events P w es=es.push (GD b (o+i)):=by
   rw[events_store P w es _ v _ (m v (by simp)),c]
   simp only[f,jB,b5];rfl
  simp only[storeCells,aP,c9,n,p,aU] at h;rcases oT rest (i+1) (a.setIfInBounds (o+i) v) _ _ (setRow_heap _ _ _ _ _ _ g) (by omega) (by simp at r ⊢;omega) (λu x=>m u (by simp[x])) e h with C|⟨j,F,B,rfl⟩
  .grind
  grind
def vp.at{L:Loc}{b g cap:Nat}{ch:Nat->Option Obj}(r:vp P σ s l T E d v1 (aa (g,cap)) xs k L b ch) :
  g≠b/\xs.length<=cap/\0<cap/\cap<=9223372036854775807/\k<=xs.length/\(∃ a,(qi xs++a).length=cap/\ch g=aa (.cells (qi xs++a).toArray E (0,k)))/\(∀ c,(ch c).isSome=ab↔c=b∨c=g)/\g∈L.bs:=by
 obtain⟨h,f,_,_,a1,a2,a3,a4,a5,a6,i⟩:=r.bb;have:h=b:=by rw[r.v] at f;simpa using f.symm
 subst this;obtain⟨a,a6,e⟩:=a6;exact⟨a1,a2,a3,a4,a5,⟨a,a6,e⟩,i,(r.bs g).2 (by rw[e];rfl)⟩
def I5{L:Loc}(h:s.β[l]?=aa L):s.β.set l L=s.β:=by
 apply iK
 grind
def vp.k5{L:Loc}{b g cap:Nat}{ch:Nat->Option Obj}(hh:aJ σ s)(hl:σ[l]?=aa (.dz (BB T E d v1 (aa (g,cap)) xs k)))(r:vp P σ s l T E d v1 (aa (g,cap)) xs k L b ch){xs':List UInt8}{fz':Nat}{zs':List ak}{w':az}
  (f:(qi xs'++zs').length=cap) (p:xs'.length<=cap) (t:fz'<=xs'.length) (n:w'.heap.size=s.w.heap.size) (i:∀ a,a≠g->w'.heap[a]?=s.w.heap[a]?) (A:w'.heap[g]?=aa (.cells (qi xs'++zs').toArray E (0,fz'))) (y:w'.os=s.w.os) (u:w'.tape=s.w.tape) (x:w'.output=s.w.output) :
  aJ (σ.set l (.dz (BB T E d v1 (aa (g,cap)) xs' fz'))) { s with w:=w' }/\Step σ s (σ.set l (.dz (BB T E d v1 (aa (g,cap)) xs' fz'))) { s with w:=w' }:=by
 obtain⟨a1,a2,a3,a4,a5,⟨F,a6,B⟩,G,h⟩:=r.at;obtain⟨m,j⟩:=hh.k5 (l:=l) (H':=BB T E d v1 (aa (g,cap)) xs' fz') (L':=L) (w':=w') hl r.β rfl (by omega)
  (λa c hn=>i a (by rintro rfl;exact hn h)) (λa c=>.inl c)
  ⟨λa=>if a=g then aa (.cells (qi xs'++zs').toArray E (0,fz')) else ch a,⟨b,r.v,r.cell,(show (if b=g then _ else ch b)=_ from (aY λe=>a1 e.symm).trans r.ch),a1,p,a3,a4,t,⟨zs',f,by simp⟩,λa=>by
   grind⟩,λa C c=>by
   by_cases e:a=g
   .grind
   .simp only[e,b5] at c;rw[i a e];exact r.heap _ _ c,λa=>by
   rw[r.bs a]
   grind⟩ y u x
 rw[I5 r.β] at m j;exact⟨m,j⟩
def bF.MZ{t Q:ar}{x y:an}(ho:o.op=.call { callee:=.builtin .append,args:=#[x,y],argTypes:=#[t,Q] }){W:TypeInfo}(ht:P.underlying t=aa (.slice E))(F:P.underlying Q=aa .string)(B:P.info? E=aa W)(G:W.size=1)
  {g cap n:Nat} (hl:σ[l]?=aa (.dz (BB T E d v1 (aa (g,cap)) xs k))) (hx:q x=.e (.one (.v (oS (aa (g,cap)) n)))) (hn:xs.length=n) {str:List UInt8} (hy:q y=.e (.one (.c (.str str)))) (Z:n+str.length<=cap) :
  bF P o q σ (.e (.one (.v (oS (aa (g,cap)) (n+str.length))))) (σ.set l (.dz (BB T E d v1 (aa (g,cap)) (xs++str) k))):=by
 intro s ρ hh hr;subst hn;obtain⟨L,b,ch,r⟩:=BB.row (P:=P) hh hl;obtain⟨a1,a2,a3,a4,a5,⟨a,a6,a7⟩,a8,J⟩:=r.at;have H:=hr x;rw[hx] at H;have H:=Rd.fX H;have I:=hr y;rw[hy] at I;have I:=fC I;generalize u:ρ y=vy at I;cases I with
 |@str sb _ hs abg =>
 have p:sb.size=str.length:=by rw[<-hs,iJ];rfl
 have R:=r.heap _ _ a7;have f:(qi xs++a).toArray.size=cap:=by simpa using a6
 have A:=Lib.run_append_room_stringF (P:=P) s.w t Q o.type E W ht F B G g xs.length cap _ _ R a5 sb (by omega) (by rw[f];omega)
 have K:((qi xs++a).toArray.toList.take xs.length++Lib.strCells sb++(qi xs++a).toArray.toList.drop (xs.length+sb.size))=qi (xs++str)++a.drop str.length:=by
  have e1:(qi xs++a).take xs.length=qi xs:=by rw[<-rz (xs:=xs)];simp
  have e2:(qi xs++a).drop (xs.length+sb.size)=a.drop str.length:=by
   rw[uT,rz,zc (by rw[rz];omega),p]
   simp
  have e3:Lib.strCells sb=qi str:=by simp[Lib.strCells,qi,hs]
  rw[List.toList_toArray,e1,e2,e3,MW]
 rw[K,p] at A;have hlz:a.length=cap-xs.length:=by simp[rz] at a6;omega
 have i:(qi (xs++str)++a.drop str.length).length=cap:=by simp[rz];omega
 have O:(s.w.setRow g (qi (xs++str)++a.drop str.length).toArray).heap[g]?=aa (.cells (qi (xs++str)++a.drop str.length).toArray E (0,k)):=setRow_heap s.w g _ _ E _ R;obtain⟨t1,V⟩:=r.k5 (fz':=k) (w':=s.w.setRow g (qi (xs++str)++a.drop str.length).toArray) hh hl i (by simp;omega) (by simp;omega) (setRow_size _ _ _) (λb' U=>setRow_other s.w g b' _ U) O rfl rfl rfl
 refine⟨.value (.slice (aa ⟨g,0,af⟩) (xs.length+str.length) cap),_,?_,Rd.val rfl,t1,V,?_⟩
 .rw[cY ho,H,u];simp only[bS,cW];have C:(Builtin.append_ #[t,Q] o.type #[oS (aa (g,cap)) xs.length,.string sb]).run P s.w=_:=A;rw[C];rfl
 .rw[cY ho,H,u];refine eu λe he=>?_
  have hf:=Lib.run_firstCells_string (P:=P) s.w 1 sb;have Y:=run_storeCells_atF P g xs.length E (0,k) (Lib.strCells sb) 0 _ s.w R (by simpa using a5) (by rw[Lib.strCells_length,f];omega) (Lib.strCells_oneCell sb)
  have m:xs.length+sb.size<=cap:=by omega
  have S:(Builtin.firstCells 1 sb.size (.string sb)).events P s.w #[]=#[]:=rfl;simp[oS,Builtin.append_,run_underlying ht,run_underlying F,sizeOf,typeInfo,B,G,Builtin.lenOf,m,hf,S,c9,Y] at he;rcases oT (Lib.strCells sb) 0 _ s.w _ R (by simpa using a5) (by rw[Lib.strCells_length,f];omega) (Lib.strCells_oneCell sb) e he with h|⟨j,h1,h2,rfl⟩
  .simp at h
  .exact mn (bM r.β) J (r.M _ J _)
def bF.I6{t A:ar}{x y:an}(u:o.op=.call { callee:=.builtin .append,args:=#[x,y],argTypes:=#[t,A] }){n:TypeInfo}(r:P.underlying t=aa (.slice E))(g:P.underlying A=aa .string)(i:P.info? E=aa n)
  (B:q x=.e (.one (.v (oS af 0)))) (F:q y=.e (.one (.c (.str [])))):bF P o q σ (.e (.one (.v (oS af 0)))) σ:=by
 refine .quiet λs ρ hh hr=>?_
 have f:=hr x;rw[B] at f;have f:=Rd.fX f;have h:=hr y;rw[F] at h;have h:=fC h;generalize b:ρ y=vy at h;cases h with
 |@str sb _ C p =>
 have a:sb.size=0:=by
  have:sb.data.toList.length=0:=by rw[C];rfl
  rw[iJ] at this;exact this
 have m:=Lib.run_firstCells_string (P:=P) s.w n.size sb;rw[a] at m;have j:(Builtin.firstCells n.size 0 (.string sb)).events P s.w #[]=#[]:=rfl;refine⟨.slice af 0 0,?_,Rd.val rfl,?_⟩
 .rw[cY u,f,b];simp[oS,Builtin.append_,run_underlying r,run_underlying g,sizeOf,typeInfo,i,Builtin.lenOf,a,m]
 .rw[cY u,f,b];simp[oS,Builtin.append_,run_underlying r,run_underlying g,sizeOf,typeInfo,i,Builtin.lenOf,a,m,j]
def Tp{f:aV}{fn:Func}{ps:Array ar}{t:ar}(ht:P.underlying t=aa (.slice E))(hf:P.funcs[f]?=aa fn)(u:(fn.name== "runtime.NumGoroutine")=ae)
  (hb:fn.body.isNone=ab) (hn:Extern.findNext fn=af) (H:Extern.find fn=aa (Extern.BytealgMakeNoZero.makeNoZero ps #[t])) {I x:an} {Z:Array ar} (ho:o.op=.call { callee:=.value I,args:=#[x],argTypes:=Z })
  (V:q I=.e (.one (.c (.fn (.func f) [] [])))) {n:Nat} (hx:q x=.e (.one (.c (.int .i64 n)))) (h0:0<n) (abh:n<=140737488355328) (hl:σ[l]?=aa (.dz (BB T E d v1 af xs k))) :
  ∀ s ρ,aJ σ s->(∀ y,c8 σ s (ρ y) (q y))->∃ (j:{ p:Nat×Nat // n<=p.2 }) (s':St) (v:ak),(ay ρ o).run P s.w=.ok (.value v) s'.w/\c8 (σ.set l (.dz (BB T E d v1 (aa j.1) [] 0))) s' v (.e (.one (.v (oS (aa j.1) n)))) /\
   aJ (σ.set l (.dz (BB T E d v1 (aa j.1) [] 0))) s'/\Step σ s (σ.set l (.dz (BB T E d v1 (aa j.1) [] 0))) s'/\eU s ((ay ρ o).events P s.w #[]):=by
 intro s ρ S hr;obtain⟨L,b,ch,r⟩:=BB.row (P:=P) S hl;have F:ρ I=.func (.func f) #[] #[]:=by
  have g:=hr I;rw[V] at g;have g:=fC g;generalize ρ I=v at g;cases g with
  |fn fs cs a b f1 f2 c1 c2 d1 d2 =>
   grind
 have C:ρ x=.int .i64 n:=by
  have g:=hr x;rw[hx] at g;have g:=fC g;generalize ρ x=v at g;cases g;rfl
 obtain⟨cs,g,W,Y⟩:=Lib.run_makeNoZero (P:=P) s.w ps t E ht n (by omega)
 have Y:=Y (by simp only[maxLen];omega)
 have G:(callFunc f #[.int .i64 n]).run P s.w=.ok (.value (.slice (aa ⟨s.w.heap.size,0,af⟩) n cs.size)) (s.w.drew.drew.alloc (.cells cs E)):=by
  rw[run_callFunc_extern hf u hb hn H,g];rfl
 let w':az:=s.w.drew.drew.alloc (.cells cs E)
 have I4:w'.heap[s.w.heap.size]?=aa (.cells cs E (0,0)):=dt s.w.drew.drew _;have IG:w'.heap.size=s.w.heap.size+1:=by show (s.w.drew.drew.heap.push _).size=_;simp
 obtain⟨B,q1,q2,q3,q4⟩:=r.bb;have U:B=b:=by rw[r.v] at q1;simpa using q1.symm
 subst U;have M:B<s.w.heap.size:=S.lt L (bM r.β) B r.mem;have J:s.w.heap.size≠B:=by omega
 obtain⟨t1,t2⟩:=S.k5 (l:=l) (H':=BB T E d v1 (aa (s.w.heap.size,cs.size)) [] 0) (L':=⟨L.v,[B,s.w.heap.size]⟩) (w':=w') hl r.β rfl (by omega)
  (λA i hn=>cE s.w.drew.drew _ i) (λA i=>by
   simp at i;rcases i with rfl|rfl
   .exact .inl r.mem
   grind)
  ⟨λA=>if A=B then aa (.cells #[if d then L.v else .pointer af,v1] T (0,0)) else if A=s.w.heap.size then aa (.cells cs E (0,0)) else af,⟨B,r.v,r.cell,by simp,J,by simp,by omega,by simp only[maxLen] at Y;omega,by simp,⟨cs.toList,by simp[qi],by simp[J,qi]⟩,λA=>by
   grind⟩,λA o' i=>by
   by_cases e:A=B
   .subst e;simp only[cj] at i;have:w'.heap[A]?=s.w.heap[A]?:=cE s.w.drew.drew _ M;rw[this,<-i];exact r.heap _ _ r.ch
   grind,λA=>by
   grind⟩ rfl rfl rfl
 refine⟨⟨(s.w.heap.size,cs.size),W⟩,_,_,?_,Rd.val rfl,t1,t2,?_⟩
 .simp[ay,ho,resolve,Deferred.ofValue,invoke,F,C,G,w',oS]
 .intro ev O;simp only[ay,ho,resolve,Deferred.ofValue,invoke,F,C] at O;have K:ev∈(callFunc f #[.int .i64 n]).events P s.w #[]:=by
   simpa[F,C] using O
  have Q:fn.name≠ "runtime.NumGoroutine":=by simpa using u
  have R:fn.body=af:=by simpa using hb
  have key:∀ es:Array Event,∀ e∈(Extern.BytealgMakeNoZero.makeNoZero ps #[t] #[.int .i64 n]).events P s.w es,e∈es∨∃ m,e=⟨.mark m,ae,ab⟩/\Go.Conc.Neutral m:=by
   intro es e H
   change e∈Sem.events P (underlying _ >>= _) _ _ at H
   have g:¬(n:Int)<0:=by omega
   have W:¬(281474976710656:Int)<(n:Int):=by omega
   have Tn:e∈(askRoom (grownCap s.w n 0 E)).events P s.w.drew es:=by
    simpa[run_underlying ht,g,W,Question.forced,newRow,grownCap] using H
   exact Go.Conc.events_askRoom _ _ _ e Tn
  have:ev∈(Extern.BytealgMakeNoZero.makeNoZero ps #[t] #[.int .i64 n]).events P s.w ((#[]:Array Event).push ⟨.mark (.extern f),ae,ab⟩):=by
   have e:callFunc f #[.int .i64 n]=callFunc f #[.int .i64 n]:=rfl;simpa[callFunc,hf,Q,R,hn,H,g] using K
  rcases key _ _ this with h|⟨m,rfl,hm⟩
  .simp at h;subst h;exact .inr ⟨f,rfl⟩
  .exact .inl hm
def Tq{F Q:ar}{x y:an}(ho:o.op=.call { callee:=.builtin .unsafeString,args:=#[x,y],argTypes:=#[F,Q] })(hp:P.underlying F=aa (.pointer E))(H:P.cellsOf E=1)
  {g cap:Nat} (hl:σ[l]?=aa (.dz (BB T E d v1 (aa (g,cap)) xs k))) (hx:q x=.e (.one (.v (.pointer (aa ⟨g,0,af⟩))))) (hy:q y=.e (.one (.c (.int .i64 xs.length)))) :
  bF P o q σ (.e (.one (.c (.str xs)))) (σ.set l (.dz (BB T E d v1 (aa (g,cap)) xs xs.length))):=by
 intro s ρ hh hr;obtain⟨L,b,ch,r⟩:=BB.row (P:=P) hh hl;obtain⟨a1,S,a3,a4,a5,⟨R,U,a7⟩,a8,hgL⟩:=r.at;have C:=hr x;rw[hx] at C;have C:=Rd.fX C;have p:ρ y=.int .i64 xs.length:=by
  have K:=hr y;rw[hy] at K;have K:=fC K;generalize ρ y=v at K;cases K;rfl
 have hg:=r.heap _ _ a7;have t:ay ρ o=(do pure (.value (<-Builtin.unsafeString_ #[F,Q] o.type #[ρ x,ρ y]))):=by simp[ay,ho,resolve,invoke,builtin]
 have I:(qi xs++R).toArray.size=cap:=by simpa using U
 by_cases V:xs=[]
 .subst V;have n:=Lib.run_unsafeString_none (P:=P) s.w F Q o.type (aa ⟨g,0,af⟩);obtain⟨t1,t2⟩:=r.k5 (xs':=[]) (fz':=0) (zs':=R) (w':=s.w) hh hl U S (by simp) rfl (λ_ _=>rfl) (by grind) rfl rfl rfl
  refine⟨.value (.string .empty),_,?_,Rd.str rfl (by simp),t1,t2,?_⟩
  .rw[t,C,p];simp only[bS,cW];have:(Builtin.unsafeString_ #[F,Q] o.type #[.pointer (aa ⟨g,0,af⟩),.int .i64 ([]:List UInt8).length]).run P s.w=_:=n;rw[this];rfl
  .rw[t,C,p];refine eu ?_
   change eU s (Sem.events P (asInt (.int .i64 0) >>= _) _ _)
   simp[asInt,asIntOf,IntKind.max];exact .nil
 .have i:∀ j x,xs[j]?=aa x->s.w.cell? ((⟨g,0,af⟩:Addr).add j)=aa (.int .u8 x.toNat):=by
   intro j x G;rw[c9];simp only[aZ,hg,br];have ur:j<xs.length:=(cg.1 G).1;have:(qi xs)[j]?=aa (.int .u8 x.toNat):=by simp[qi,G]
   grind
  have B:s.w.shape? g=aa (E,cap):=by simp only[World.shape?,hg];rw[I]
  have n:=Lib.run_unsafeString_row (P:=P) s.w F Q o.type E hp H g cap B xs V S (by omega) i
  have f:xs.length≠0:=by simpa using V
  have Y:(s.w.freeze ⟨g,0,af⟩ xs.length).heap[g]?=aa (.cells (qi xs++R).toArray E (0,xs.length)):=by
   simp only[World.freeze,f,b5,ze,cj,hg,j4]
   grind
  obtain⟨t1,t2⟩:=r.k5 (xs':=xs) (fz':=xs.length) (zs':=R) (w':=s.w.freeze ⟨g,0,af⟩ xs.length) hh hl U S (bc _) (by simp[World.freeze,f]) (λb' W=>by
   simp only[World.freeze,f,b5,ze];rw[aY (λe=>W e.symm)]) Y (by simp[World.freeze,f]) (by simp[World.freeze,f]) (by simp[World.freeze,f])
  refine⟨.value (.string ⟨xs.toArray⟩),_,?_,Rd.str (by simp) (by omega),t1,t2,?_⟩
  .rw[t,C,p];simp only[bS,cW,n];rfl
  .rw[t,C,p];refine eu λe u=>?_
   have J:¬(xs.length:Int)<0:=by omega
   have h63:¬(9223372036854775807:Int)<(xs.length:Int):=by omega
   have m:=Lib.liesAt_bytes (P:=P) H (cap / P.cellsOf E) xs.length (by rw[H];simpa using S)
   have M:IntKind.i64.max=9223372036854775807:=rfl;have Z:=Lib.run_loadBytes (P:=P) s.w xs ⟨g,0,af⟩ .empty i;have IX:∀ (O:List UInt8) (a:Nat) (acc:ByteArray) (es:Array Event),(∀ j x,O[j]?=aa x->s.w.cell? ⟨g,a+j,af⟩=aa (.int .u8 x.toNat))->∀ e∈(loadBytes ⟨g,a,af⟩ acc O.length).events P s.w es,e∈es∨∃ j,e=zk g j:=by
    intro O
    induction O with
    |nil=>intro a acc es _ e u;exact .inl (by simpa[loadBytes] using u)
    |cons y O ih =>
     intro a acc es H e u;have A:=H 0 y rfl;simp only[iM] at A;have hl0:(load ⟨g,a,af⟩).run P s.w=.ok (.int .u8 y.toNat) s.w:=by simp[run_load,A]
     simp only[eQ,loadBytes,aP,hl0,aU,zp A,c9] at u;rcases ih (a+1) _ _ (λj x G=>by have:=H (j+1) x (by simpa using G);grind) e u with h|h
     .grind
     .exact .inr h
   have hva:(variablesAt ⟨g,0,af⟩ E xs.length).run P s.w=.ok ab s.w:=by simp[variablesAt,B,m]
   have hve:∀ es,(variablesAt ⟨g,0,af⟩ E xs.length).events P s.w es=es:=λes=>by simp[variablesAt,B,m]
   have Tr:e∈(loadBytes ⟨g,0,af⟩ .empty xs.length).events P s.w #[]:=by
    change e∈Sem.events P (asInt (.int .i64 (xs.length:Int)) >>= _) _ _ at u
    simpa[asInt,asIntOf,M,J,h63,f,elemOf,run_underlying hp,hva,hve,Z] using u
   rcases IX xs 0 .empty #[] (λj x G=>by have:=i j x G;rwa [c9] at this) e Tr with h|⟨j,rfl⟩
   .simp at h
   .exact rA (bM r.β) hgL
end
section
variable {P:aq}{X:Cx P}{N:Nat}{q:List (Nat×TI)}{o:aw}{g:an->D}{σ:List aW}{l:Nat}{T E:ar}{i:Bool}{v1:ak}{bf:Option (Nat×Nat)}{xs:List UInt8}{p:Nat}{s:St}
def bF.exact{x:an}{v r:ak}{d:D}(c:g x=.e (.one (.v v)))(h:∀ (ρ:an->ak) w,ρ x=v->(ay ρ o).run P w=.ok (.value r) w/\(ay ρ o).events P w #[]=#[])(b:∀ σ s,c8 σ s r d):bF P o g σ d σ:=by
 refine .quiet λs ρ hh hr=>?_
 have a:=hr x;rw[c] at a;have a:=Rd.fX a;obtain⟨h1,h2⟩:=h ρ s.w a;exact⟨r,h1,b _ _,h2⟩
def bF.uu{x:an}{b:Array ar}{t E:ar}(h:o.op=.call { callee:=.builtin .len,args:=#[x],argTypes:=b })(k:b[0]?=aa t)(d:P.underlying t=aa (.slice E)){a:Option Addr}{n c:Nat}(f:g x=.e (.one (.v (.slice a n c))))(hn:n<=9223372036854775807):bF P o g σ (.e (.one (.c (.int .i64 n)))) σ :=
 .exact f (λρ w j=>by constructor <;> simp[ay,h,resolve,invoke,builtin,Builtin.len_,j,run_underlying d,goInt,k]) (λ_ _=>Rd.int (by simp only[bx];omega))
def bF.M0{x:an}{b:Array ar}{t E:ar}(h:o.op=.call { callee:=.builtin .cap,args:=#[x],argTypes:=b })(k:b[0]?=aa t)(d:P.underlying t=aa (.slice E)){a:Option Addr}{n c:Nat}(f:g x=.e (.one (.v (.slice a n c))))(hn:c<=9223372036854775807):bF P o g σ (.e (.one (.c (.int .i64 c)))) σ :=
 .exact f (λρ w j=>by constructor <;> simp[ay,h,resolve,invoke,builtin,Builtin.cap_,j,run_underlying d,goInt,k]) (λ_ _=>Rd.int (by simp only[bx];omega))
def bF.Ts{x:an}{a:Array ar}(h:o.op=.call { callee:=.builtin .unsafeSliceData,args:=#[x],argTypes:=a }){n c:Nat}(b:g x=.e (.one (.v (.slice af n c)))):bF P o g σ (.e (.one (.v (.pointer af)))) σ :=
 .exact b (λρ w d=>by
  have e:Builtin.unsafeSliceData_ a o.type #[.slice af n c]=pure (.pointer af):=rfl
  constructor <;> simp[ay,h,resolve,invoke,builtin,d,e]) (λ_ _=>Rd.val rfl)
def bF.Tt{x:an}{b:Array ar}(h:o.op=.call { callee:=.builtin .unsafeSliceData,args:=#[x],argTypes:=b }){a:Addr}{n c:Nat}(d:g x=.e (.one (.v (.slice (aa a) n c))))(j:c≠0):bF P o g σ (.e (.one (.v (.pointer (aa a))))) σ :=
 .exact d (λρ w f=>by
  obtain⟨m,rfl⟩:=Nat.exists_eq_succ_of_ne_zero j;have e:Builtin.unsafeSliceData_ b o.type #[.slice (aa a) n (m+1)]=pure (.pointer (aa a)):=rfl
  constructor <;> simp[ay,h,resolve,invoke,builtin,f,e]) (λ_ _=>Rd.val rfl)
def bF.Tu{t E:ar}{x y:an}(h:o.op=.slice t x af (aa y) af)(m:P.underlying t=aa (.slice E)){C:TypeInfo}(hi:P.info? E=aa C){a:Addr}{n c k:Nat}(z:g x=.e (.one (.v (.slice (aa a) n c))))(B:g y=.e (.one (.c (.int .i64 k))))(A:k<=n)(hn:n<=c)(u:c≠0)(F:a.add 0=a):bF P o g σ (.e (.one (.v (.slice (aa a) k c)))) σ:=by
 refine .quiet λs ρ hh hr=>?_
 have b:=hr x;rw[z] at b;have b:=Rd.fX b;have d:ρ y=.int .i64 k:=by
  have h1:=hr y;rw[B] at h1;have h1:=fC h1;generalize ρ y=v at h1;cases h1;rfl
 have hl:((af:Option ak)=af/\(af:Option Int)=af)∨∃ k j,(af:Option ak)=aa (.int k j)/\(af:Option Int)=aa j:=.inl ⟨rfl,rfl⟩;have hh:(aa (Value.int .i64 k)=af/\(aa (k:Int))=af)∨∃ k' j,aa (Value.int .i64 k)=aa (.int k' j)/\(aa (k:Int))=aa j:=.inr ⟨_,_,rfl,rfl⟩;have r:ag (iN n af (aa (k:Int))):=by simp[ag,iN,A]
 obtain⟨hb,_,_⟩:=nS (P:=P) (isS:=ab) hn hl hh r s.w;have f:=pM (P:=P) (isS:=ab) hn hl hh r s.w;simp only[cn,bt] at hb;refine⟨.slice (aa a) k c,?_,Rd.val rfl,?_⟩
 .simp[ay,h,b,d,Instr.sliceAt,run_underlying m,Instr.slice,hb,sizeOf,typeInfo,hi,u,F]
 .simp[ay,h,b,d,Instr.sliceAt,run_underlying m,Instr.slice,hb,f,sizeOf,typeInfo,hi,u]
def bF.copyV{t E k:ar}{x y:an}(h:o.op=.call { callee:=.builtin .copy,args:=#[x,y],argTypes:=#[t,k] })(f:P.underlying t=aa (.slice E)){n:TypeInfo}(hi:P.info? E=aa n){a:Addr}{c:Nat}(j:g x=.e (.one (.v (.slice (aa a) 0 c))))(m:g y=.e (.one (.v (.slice af 0 0)))):bF P o g σ (.e (.one (.c (.int .i64 0)))) σ:=by
 refine .quiet λs ρ hh hr=>?_
 have b:=hr x;rw[j] at b;have b:=Rd.fX b;have d:=hr y;rw[m] at d;have d:=Rd.fX d;refine⟨.int .i64 0,?_,Rd.int (by simp[bx]),?_⟩ <;>
 simp[ay,h,resolve,invoke,builtin,Builtin.copy_,b,d,run_underlying f,sizeOf,typeInfo,hi,Builtin.lenOf,Builtin.firstCells,storeCells,goInt]
def bF.Tv{j h:ar}{x y:an}(m:o.op=.call { callee:=.builtin .unsafeString,args:=#[x,y],argTypes:=#[j,h] })(k:g x=.e (.one (.v (.pointer af))))(n:g y=.e (.one (.c (.int .i64 ((0:Nat):Int))))):bF P o g σ (.e (.one (.c (.str [])))) σ:=by
 refine .nR λs ρ hh hr=>?_
 have a:=hr x;rw[k] at a;have a:=Rd.fX a;have b:ρ y=.int .i64 0:=by
  have h1:=hr y;rw[n] at h1;have h1:=fC h1;generalize ρ y=v at h1;cases h1;rfl
 have f:ay ρ o=(do pure (.value (<-Builtin.unsafeString_ #[j,h] o.type #[ρ x,ρ y]))):=by simp[ay,m,resolve,invoke,builtin]
 have d:=Lib.run_unsafeString_none (P:=P) s.w j h o.type af;refine⟨.string .empty,?_,Rd.str rfl (by simp),?_⟩
 .rw[f,a,b];simp only[bS,cW,d];rfl
 .rw[f,a,b];refine eu ?_
  change eU s (Sem.events P (asInt (.int .i64 0) >>= _) _ _)
  simp[asInt,asIntOf,IntKind.max];exact .nil
def bF.bTo(m:σ[l]?=aa (.dz (BB T E i v1 bf xs p))){d dst:ar}{x:an}(h:o.op=.convert d dst x)(t:P.underlying d=aa (.pointer T))(u:P.underlying dst=aa .unsafePointer){j:TypeInfo}(hj:P.info? T=aa j)(k:j.size≠0)(v:g x=.e (.one (.ptr l 0))):bF P o g σ (.e (.one (.ptr l 0))) σ:=by
 refine .quiet λs ρ hh hr=>?_
 obtain⟨L,b,ch,r⟩:=BB.row (P:=P) hh m;have c:=hr x;rw[v] at c;have n:=r.ptr c;have f:s.w.shape? b=aa (T,2):=by simp[World.shape?,r.heap _ _ r.ch]
 have a:=Lib.run_to_unsafe (P:=P) s.w ⟨b,0,af⟩ t u hj k f (by simp)
 refine⟨ρ x,by simp[ay,h,n,a],c,?_⟩
 have:(convert d dst (.pointer (aa ⟨b,0,af⟩))).events P s.w #[]=#[]:=by
  simp[convert,run_underlying t,run_underlying u,Conv.unsafePointer,Conv.seenAt,viewAt,cellsIn,f,sizeOf,typeInfo,hj,k]
 simp[ay,h,n,a,this]
def bF.Tw(n:σ[l]?=aa (.dz (BB T E i v1 bf xs p))){f dst:ar}{x:an}(h:o.op=.convert f dst x)(u:P.underlying f=aa .unsafePointer)(v:P.underlying dst=aa (.pointer T)){j:TypeInfo}(hj:P.info? T=aa j)(m:j.size≠0)(a:liesAt P P.depth T (2 / P.cellsOf T) 0 T 1=ab)(y:g x=.e (.one (.ptr l 0))):bF P o g σ (.e (.one (.ptr l 0))) σ:=by
 refine .quiet λs ρ hh hr=>?_
 obtain⟨L,b,ch,r⟩:=BB.row (P:=P) hh n;have d:=hr x;rw[y] at d;have t:=r.ptr d;have k:s.w.shape? b=aa (T,2):=by simp[World.shape?,r.heap _ _ r.ch]
 have c:=Lib.run_from_unsafe (P:=P) s.w ⟨b,0,af⟩ u v hj k a;refine⟨ρ x,by simp[ay,h,t,c],d,?_⟩
 have:(convert f dst (.pointer (aa ⟨b,0,af⟩))).events P s.w #[]=#[]:=by
  simp[convert,run_underlying u,run_underlying v,Conv.unsafePointer,Conv.seenAt,viewAt,variablesAt,k,sizeOf,typeInfo,hj,m,a]
 simp[ay,h,t,c,this]
def bF.Tx{f:aV}{fn:Func}(y:P.funcs[f]?=aa fn)(j:(fn.name== "runtime.NumGoroutine")=ae)(hb:fn.body.isNone=ab)(hn:Extern.findNext fn=af)(z:Extern.find fn=aa Extern.AbiNoEscape.same)
  {n x:an} {r:Array ar} (A:o.op=.call { callee:=.value n,args:=#[x],argTypes:=r }) (t:g n=.e (.one (.c (.fn (.func f) [] [])))) {d:D} (B:g x=d):bF P o g σ d σ:=by
 refine .nR λs ρ hh hr=>?_
 have m:ρ n=.func (.func f) #[] #[]:=by
  have h1:=hr n;rw[t] at h1;have h1:=fC h1;generalize ρ n=v at h1;cases h1 with
  |fn fs cs a b G F c1 c2 d1 d2 =>
   grind
 have k:(callFunc f #[ρ x]).run P s.w=.ok (.value (ρ x)) s.w:=by
  rw[run_callFunc_extern y j hb hn z];rfl
 have u:=lM (P:=P) y j hb hn z #[ρ x] (λ_ _=>rfl) s.w #[]
 refine⟨ρ x,?_,by have:=hr x;rwa [B] at this,λC h=>?_⟩
 .simp[ay,A,resolve,Deferred.ofValue,invoke,m,k]
 .simp[ay,A,resolve,Deferred.ofValue,invoke,m,u] at h;subst h;exact .inr ⟨_,rfl⟩
end
end
end Go.AM
namespace Go.AM.R1
section
open Go.Proofs
variable {X:Cx ah}
abbrev bB(a:Bool)(v1:ak)(bf:Option (Nat×Nat))(xs:Bs)(b:Nat):aW:=.dz (BB 239 5 a v1 bf xs b)
def BX(v1:ak)(c:cX v1=ab)(bf:Option (Nat×Nat))(xs:Bs)(a:Nat):Ev X 218 [.e (.one (.ptr 0 0))] [bB ae v1 bf xs a] (.eN []) [bB ab v1 bf xs a]:=by
 refine Ev.bQ Tryz.func218 rfl λd=>?_
 refine bm rfl av ?_;refine AK.law (bF.Qc tok rfl rfl rfl rfl rfl) rfl rfl ?_;refine AK.law (Rf rfl Tryz.underlying237 rfl rfl rfl) rfl rfl ?_;refine bm rfl av ?_;refine AK.law (bF.bTo rfl rfl Tryz.underlying237 Tryz.underlying224 (bz Tryz.type239) (by simp[Tryz.t239]) rfl) rfl rfl ?_
 refine AK.law (bF.Tx Tryz.func229 (by kernel_rfl) (by kernel_rfl) (by kernel_rfl) (by kernel_rfl) rfl rfl rfl) rfl rfl ?_
 refine AK.law (bF.Tw rfl rfl Tryz.underlying224 Tryz.underlying237 (bz Tryz.type239) (by simp[Tryz.t239]) (by kernel_rfl) rfl) rfl rfl ?_
 refine bm rfl av ?_;refine AK.law (bF.MY tok rfl rfl rfl rfl rfl rfl c) rfl rfl ?_;refine bm rfl av ?_;exact bZ.s9 [0] rfl av rfl rfl rfl (λj b=>by
  have:j=0:=by simpa using b
  subst this;rfl)
def BY(v1:ak)(bf:Option (Nat×Nat))(xs:Bs)(a:Nat):Ev X 218 [.e (.one (.ptr 0 0))] [bB ab v1 bf xs a] (.eN []) [bB ab v1 bf xs a]:=by
 refine Ev.bQ Tryz.func218 rfl λc=>?_
 refine bm rfl av ?_;refine AK.law (bF.I1 tok rfl rfl rfl rfl rfl) rfl rfl ?_;refine AK.law (Rg rfl Tryz.underlying237 rfl rfl rfl) rfl rfl ?_;refine bm rfl av ?_;refine AK.law (bF.I1 tok rfl rfl rfl rfl rfl) rfl rfl ?_;refine bm rfl av ?_;refine AK.law (NM rfl Tryz.underlying237 (n:=2) (by decide) (λw=>by simp[sizeOf,typeInfo,bz Tryz.type239,Tryz.t239]) (λw es=>by simp[sizeOf,typeInfo,bz Tryz.type239]) rfl rfl rfl) rfl rfl ?_
 refine bm rfl av ?_;exact bZ.s9 [0] rfl av rfl rfl rfl (λj b=>by
  have:j=0:=by simpa using b
  subst this;rfl)
end
end Go.AM.R1
namespace Go.AM
section
open Go.Conc (G)
def cM(i:Nat)(D:Nat->Bool):Nat->Bool:=λj=>match aA j i with|true=>ab|false=>D j
section
variable {P:aq}{X:Cx P}{N:Nat}{ops:Array aw}{φ:Fr}{σ:List aW}{g:Type}{x:g->Nat->D}{idx:Nat->Option Nat}{S:g->(Nat->Bool)->List aW}{Inv:g->(Nat->Bool)->Prop}{c:Nat}
def lg(L:Array Bool):Nat->Bool:=λi=>L.getD i ae
def G5{L:Array Bool}{i:Nat}(hi:i<L.size):lg (L.setIfInBounds i ab)=cM i (lg L):=by
 funext j
 have h:=ew (L:=L) (i:=i) (j:=j) hi;simp only[lg,cM];cases a:aA j i with
 |true =>
  have e:=bT a;exact h.2 (.inl e)
 |false =>
  have b:j≠i:=by rintro rfl;rw[iL] at a;cases a
  grind
def Q0{L:Array Bool}{n c:Nat}(f:L.size=n)(h:∀ k,c<=k->¬L.getD k ae=ab):n-c<=(L.toList.filter (λb=>!b)).length:=by
 have e:(L.toList.drop c).filter (λb=>!b)=L.toList.drop c:=by
  rw[uP];intro b d;obtain⟨i,hi,rfl⟩:=dX d;have:=h (c+i) (by omega)
  simp only[mO,iJ] at hi;simp only[dn,fQ (by omega:c+i<L.size),fG] at this
  simpa using this
 have a:((L.toList.drop c).filter (λb=>!b)).length<=(L.toList.filter (λb=>!b)).length:=((List.drop_sublist c L.toList).filter _).length_le
 rw[e] at a;simp at a;omega
def Names.Ur(all:List aw)(c:Nat):Names all (List.range' c (all.length-c)) (all.drop c):=by
 have key:∀ (l:List aw) (n:Nat),(∀ j o,l[j]?=aa o->all[n+j]?=aa o)->Names all (List.range' n l.length) l:=by
  intro l
  induction l with
  |nil=>intro n _;trivial
  |cons o r a =>
   intro n h;rw[eQ,List.range'_succ];refine⟨by simpa using h 0 o rfl,a (n+1) λj b hj=>?_⟩
   have:=h (j+1) b (by simpa using hj)
   grind
 have:=key (all.drop c) c λj o h=>by simpa[oO] using h
 simpa using this
structure Us {P:aq}(X:Cx P)(N:Nat)(ops:Array aw)(φ:Fr){g:Type}(x:g->Nat->D)(S:g->(Nat->Bool)->List aW)(Inv:g->(Nat->Bool)->Prop)(idx:Nat->Option Nat)(c:Nat):Prop where
 back:∀ i o,ops[i]?=aa o->∀ e∈o.after,cZ e=ab->e.on<i
 Jl:∀ i o d,ops[i]?=aa o->o.dst=aa d->idx d=aa i/\d<N
 xA:∀ d i,idx d=aa i->∃ o,ops[i]?=aa o/\o.dst=aa d
 one:∀ κ (D:Nat->Bool) i o,Inv κ D->ops[i]?=aa o->i<c->D i=ae->(∀ e∈o.after,cZ e=ab->D e.on=ab)->(∀ j o',ops[j]?=aa o'->D j=ab->∀ e∈o'.after,cZ e=ab->D e.on=ab)->rU X N ops.toList o (m6 ops.toList φ (x κ) i) (S κ D) (λq:{ κ':g // (∀ j,D j=ab->x κ' j=x κ j)/\Inv κ' (cM i D) }=>x q.1 i) (λq=>S q.1 (cM i D))
 SZ:∀ (x:Nat->D) i o,ops[i]?=aa o->∀ t σ s v,c8 σ s v (match idx t with|some j=>(if ∃ e∈o.after,cZ e=ab/\e.on=j then x j else .any)|none=>look φ t)->c8 σ s v (look (m6 ops.toList φ x i) t)
 fin:∀ (x:Nat->D) t σ s v,c8 σ s v (match idx t with|some j=>x j|none=>look φ t)->c8 σ s v (look (MK ops.toList φ x) t)
 S8:∀ i o,ops[i]?=aa o->c<=i->∀ L:Array Bool,(∀ i o,ops[i]?=aa o->L.getD i ae=ab->∀ e∈o.after,cZ e=ab->L.getD e.on ae=ab)->(∀ e∈o.after,cZ e=ab->L.getD e.on ae=ab)->∀ k,k<i->L.getD k ae=ab
 cc:c<=ops.size
 Q1:∀ κ (D:Nat->Bool),Inv κ D->(∀ i,i<c->D i=ab)->∀ i,c<=i->i<ops.size->x κ i=.any
def FR{L:Array Bool}{i n:Nat}(a:L.size=n)(hi:i<n):L.getD i ab=ae↔¬L.getD i ae=ab:=by
 grind
def Us.seq(h:Us X N ops φ x S Inv idx c):∀ (a d:Nat)(L:Array Bool)(t:Nat),L.size=ops.size->c<=d->d<=ops.size->ops.size-d<=a->(∀ k,k<ops.size->(L.getD k ae=ab↔k<d)) ->
  Region.linearise.go .any ops a t L []=List.range' d (ops.size-d):=by
 intro a
 induction a with
 |zero =>
  intro d L t r E C B l;have:ops.size-d=0:=by omega
  rw[this,vK];rfl
 |succ a z =>
  intro d L t r E C B l
  by_cases y:d=ops.size
  .rw[BR (λi hi=>by
    grind),y]
   simp
  .rw[oX];have b:d<ops.size:=by omega
   have u:∀ i o,ops[i]?=aa o->L.getD i ae=ab->∀ e∈o.after,cZ e=ab->L.getD e.on ae=ab:=λi o p hi e m hb=>by
    have f:=(ig.1 p).1;have h1:=(l i f).1 hi;have h2:=h.back i o p e m hb;exact(l e.on (by omega)).2 (by omega)
   have v:∀ i,i∈ba .any ops L->i=d:=λi hi=>by
    obtain⟨o,p,hl,w⟩:=mem_ready.1 hi;have f:=(ig.1 p).1;have hn:¬i<d:=λq=>(FR r f).1 hl ((l i f).2 q)
    rcases cx d i with h1|h1
    .have:=h.S8 i o p (by omega) L u w d h1
     grind
    .omega
   have s:d∈ba .any ops L:=mem_ready.2 ⟨ops[d],fQ b,(FR r b).2 (λhh=>by have:=(l d b).1 hh;omega),λe m hb=>by
    have:=h.back d _ (fQ b) e m hb;exact(l e.on (by omega)).2 this⟩
   have n:0<(ba .any ops L).length:=List.length_pos_of_mem s;have j:=hJ t n;rw[bl j];have e1:=v _ (nH j);simp only[e1];rw[z (d+1) _ _ (by simp[r]) (by omega) (by omega) (by omega) (λk A=>by
    rw[ew (by omega)]
    rw[l k A];omega)]
   rw[show ops.size-d=(ops.size-(d+1))+1 by omega,List.range'_succ]
def Us.arr(h:Us X N ops φ x S Inv idx c){R:au->St->Prop}{b:aO}{kk:List Item}{cs:List aO}(hb:b.kind≠.early){σ0:List aW}{s0:St}
  (hQ:∀ l D s a,Inv l D->(∀ i,i<c->D i=ab)->cp N (S l D) s (MK ops.toList φ (x l)) a->aJ (S l D) s->cw σ0 s0 (S l D) s->eZ X R (G (b.aT a (.inRegion ops (List.range' c (ops.size-c))::kk)) cs) s) :
  ∀ (f:Nat) (l:g) (L:Array Bool),Inv l (lg L)->L.size=ops.size->(L.toList.filter (λb=>!b)).length<=f->(∀ k,c<=k->¬L.getD k ae=ab) ->
   (∀ i o,ops[i]?=aa o->L.getD i ae=ab->∀ e∈o.after,cZ e=ab->L.getD e.on ae=ab) ->
   ∀ (s:St) (a:Act),IH N (S l (lg L)) s (fY φ (x l) idx L) a->aJ (S l (lg L)) s->cw σ0 s0 (S l (lg L)) s ->
   ∀ t,eZ X R (G (b.aT a (.inRegion ops (Region.linearise.go .any ops f t L [])::kk)) cs) s:=by
 have fin:∀ (l:g) (L:Array Bool) (s:St) (a:Act) (f t:Nat),Inv l (lg L)->L.size=ops.size->(L.toList.filter (λb=>!b)).length<=f->(∀ k,c<=k->¬L.getD k ae=ab)->(∀ i,i<c->L.getD i ae=ab)->IH N (S l (lg L)) s (fY φ (x l) idx L) a->aJ (S l (lg L)) s->cw σ0 s0 (S l (lg L)) s->eZ X R (G (b.aT a (.inRegion ops (Region.linearise.go .any ops f t L [])::kk)) cs) s:=by
  intro l L s a f t C y J p u m hh st;have hc:=h.cc;rw[h.seq f c L t y (bc _) hc (by
   have h2:=Q0 (n:=ops.size) (c:=c) y p;omega) (λk W=>⟨λQ=>by
    grind,λQ=>u k Q⟩)]
  exact hQ l _ s a C u (m.Jk λt σ s v H=>h.fin (x l) t σ s v (by
   unfold fY at H;cases hi:idx t with
   |none=>simpa[hi] using H
   |some k =>
    simp only[hi] at H ⊢;obtain⟨o,z,_⟩:=h.xA _ _ hi;rcases cx k c with h1|h1
    .grind
    .rw[h.Q1 l _ C u k h1 (ig.1 z).1];trivial)) hh st
 intro f
 induction f with
 |zero =>
  intro l L C y J p F s a m hh st t;have hc:=h.cc;exact fin l L s a 0 t C y J p (λi hi=>zV y J i (by omega)) m hh st
 |succ f ih =>
  intro l L C y J p F s a m hh st t;have hc:=h.cc;cases r:(ba .any ops L)[t % (ba .any ops L).length]? with
  |none=>exact fin l L s a _ t C y J p (λi hi=>J2 (back:=h.back) y (D2 r) i (by omega)) m hh st
  |some i =>
   have hi:=bM r;obtain⟨o,z,ZR,w⟩:=mem_ready.1 hi;have ur:i<ops.size:=(ig.1 z).1;rcases cx i c with E|E
   rotate_left
   .exact fin l L s a _ t C y J p (λk W=>h.S8 i o z E L F w k (by omega)) m hh st
   rw[oX,r];have O:¬L.getD i ae=ab:=by
    grind
   have B:((L.setIfInBounds i ab).toList.filter (λb=>!b)).length<=f:=by
    have h1:L.toList[i]?=aa ae:=by
     rw[uM,fQ (by omega:i<L.size)]
     simpa[dn,fQ (by omega:i<L.size)] using O
    have:=count_set h1;rw[uH];omega
   have M:∀ j U,ops[j]?=aa U->(L.setIfInBounds i ab).getD j ae=ab->∀ e∈U.after,cZ e=ab->(L.setIfInBounds i ab).getD e.on ae=ab:=by
    intro j U Na hj e he hb;rw[ew (by omega)] at hj ⊢
    grind
   have T:cp N (S l (lg L)) s (m6 ops.toList φ (x l) i) a:=Nz (h.SZ (x l) i o z) m w;have:=h.one l (lg L) i o C z E (by unfold lg;grind) w F s a T hh b kk cs R i (Region.linearise.go .any ops f (t / (ba .any ops L).length) (L.setIfInBounds i ab) []) hb (by simpa using z)
   simp only[oM] at this;refine this λq v s' H I A=>?_
   obtain⟨Y,Z,K⟩:=q;have V:=G5 (L:=L) (i:=i) (by omega)
   simp only at H I A;rw[<-V] at H I A K;exact ih Y _ K (by simp[y]) B (λk W=>by rw[ew (by omega)];rintro(e|e);omega;exact p k W e) M s' _ (G0 (λd hd=>h.Jl i o d z hd) h.xA z (by omega) (λj hj=>Z j hj) hh.len A m H) I (st.trans A) _
def AW.reg(hf:P.follows Departure.mixedOrders=ab){all:List aw}(c:Nat)(x:g->Nat->D)(S:g->(Nat->Bool)->List aW)(Inv:g->(Nat->Bool)->Prop)(M:g)(hI0:Inv M λ_=>ae)(h0:S M (λ_=>ae)=σ)
  (J:mv all=ab) (K:rV all 0=ab) (V:n3 N all=ab) (hc:c<=all.length)
  (S8:∀ i,c<=i->i<all.length->∀ L:Nat->Prop,(∀ i,i<all.length->L i->∀ e∈bP (all.getD i fV).after.toList,L e)->(∀ e∈bP (all.getD i fV).after.toList,L e)->∀ k,k<i->L k)
  (Q1:∀ n (D:Nat->Bool),Inv n D->(∀ i,i<c->D i=ab)->∀ i,c<=i->i<all.length->x n i=.any)
  (one:∀ n (D:Nat->Bool) i o,Inv n D->all[i]?=aa o->i<c->D i=ae->(∀ e∈bP o.after.toList,D e=ab)->(∀ j o',all[j]?=aa o'->D j=ab->∀ e∈bP o'.after.toList,D e=ab)->rU X N all o (m6 all φ (x n) i) (S n D) (λq:{ U:g // (∀ j,D j=ab->x U j=x n j)/\Inv U (cM i D) }=>x q.1 i) (λq=>S q.1 (cM i D)))
  {Q:Post} (hQ:∀ n D,Inv n D->(∀ i,i<c->D i=ab)->jA X N all (all.drop c) (Q .normal) (MK all φ (x n)) (S n D)) (id:Nat) :
  AW X N (.region id all.toArray ab) Q φ σ:=by
 have u:∀ i:Nat,all.toArray[i]?=all[i]?:=λi=>by simp
 let idx:Nat->Option Nat:=λt=>(bh all.length).find? (λi=>decide ((all.getD i fV).dst=aa t))
 have r:∀ t j,idx t=aa j->∃ o,all[j]?=aa o/\o.dst=aa t:=by
  grind
 have z:∀ i o d,all[i]?=aa o->o.dst=aa d->idx d=aa i:=by
  intro i o d f R;have hi:i<all.length:=(cg.1 f).1;cases hx:idx d with
  |none =>
   have:=List.find?_eq_none.1 hx i (by simpa using hi)
   simp[f,R] at this
  |some j =>
   obtain⟨p,TX,TY⟩:=r d j hx;rw[sQ J TX f TY R]
 have Js:∀ t,oY t all=ab↔∃ j,idx t=aa j:=by
  intro t
  constructor
  .intro h;obtain⟨i,o,h1,h2⟩:=pP h;exact⟨i,z i o t h1 h2⟩
  .rintro⟨j,hj⟩;obtain⟨o,h1,h2⟩:=r t j hj;exact rL h1 h2
 have C:∀ i o,all[i]?=aa o->all.getD i fV=o:=λi o h=>by simp[ai,h]
 have R:Us X N all.toArray φ x S Inv idx c:=by
  refine⟨?_,?_,?_,?_,?_,?_,λi o f Xr L hLc hLp k hk=>?_,by simpa using hc,λn D T hD i h1 h2=>Q1 n D T hD i h1 (by simpa using h2)⟩
  .intro i o f e B hb;rw[u] at f;have:=BO K i o f e.on (eC.2 ⟨e,by simpa using B,hb,rfl⟩)
   omega
  .intro i o d f R;rw[u] at f;exact⟨z i o d f R,ir (yl V i o f) d R⟩
  .grind
  .intro n D i o T f hic Uo W Ds;rw[u] at f;exact one n D i o T f hic Uo (λe B=>by
    obtain⟨e',q1,q2,rfl⟩:=eC.1 B;exact W e' (by simpa using q1) q2) λj o hj hDj e B=>by
    obtain⟨e',q1,q2,rfl⟩:=eC.1 B
    grind
  .intro x i o f t σ s v Z;rw[u] at f;show c8 σ s v (look (m6 all φ x i) t);unfold m6;rw[C i o f];rcases nc (m:=λj=>fI j (bP o.after.toList)) (φ:=uz all φ) (t:=t) (l:=zT all 0 x) (i:=0) with⟨j,y,h1,h2,H⟩|H
   .rw[H];rw[wh] at h1;cases hj:all[j]? with
    |none=>simp[hj] at h1
    |some oj =>
     simp only[hj,j4,de,kZ,br] at h1;rw[z j oj t hj h1.1] at Z;simp only at Z;rw[bg] at Z
     .rw[<-h1.2];exact Z
     .simp only[br] at h2;obtain⟨e,a,b,c⟩:=eC.1 (Bt h2);exact⟨e,by simpa using a,b,c⟩
   .rw[H,lE];split
    .trivial
    grind
  .intro x t σ s v Z;show c8 σ s v (look (MK all φ x) t);unfold MK;rcases nc (m:=λ_=>ab) (φ:=uz all φ) (t:=t) (l:=zT all 0 x) (i:=0) with⟨j,y,h1,h2,H⟩|H
   .rw[H];rw[wh] at h1
    grind
   .rw[H,lE];split
    .trivial
    grind
  .rw[u] at f;refine S8 i Xr (cg.1 f).1 (λk=>L.getD k ae=ab) (λi' hi' hl e B=>?_) (λe B=>?_) k hk
   .have Na:=bl hi';rw[C i' _ Na] at B;obtain⟨e',a,b,c⟩:=eC.1 B
    grind
   .rw[C i o f] at B;obtain⟨e',a,b,c⟩:=eC.1 B
    grind
 intro s a M4 hh b kk cs SS hb Xh;refine .next rfl λG F=>?_
 have F:=X.iq F;have E:=hh.rely F;have Y:=M4.rely F hh;have O:Step σ G σ { G with w:={ G.w with drawn:=G.w.drawn+1 } }:=Step.same rfl rfl rfl rfl;have Ba:aJ σ { G with w:={ G.w with drawn:=G.w.drawn+1 } }:=E.same rfl;have Xj:=F.stepW.trans (O.oo E);refine⟨_,{ G with w:={ G.w with drawn:=G.w.drawn+1 } },#[],lK,⟨⟨σ,σ,E,Ba,O⟩,.nil⟩,?_⟩;simp only[Region.schedule,hf,Bool.true_or,cj];have I:lg (Array.replicate all.toArray.size ae)=λ_=>ae:=by
  funext i
  simp[lg,dn,mM];split <;> simp
 refine R.arr hb (σ0:=σ) (s0:=s) (λn D s2 a2 T hD f2 h2 oz=>?_) all.toArray.size M _ (by rw[I];exact hI0) (by simp) (by simp) ?_ ?_ _ a ?_ (by rw[I,h0];exact Ba) (by rw[I,h0];exact Xj) _
 .refine hQ n D T hD s2 a2 f2 h2 b kk cs SS _ hb ?_ λφ3 σ3 s3 a3 q3 f3 H NG=>Xh .normal _ _ s3 a3 q3 f3 H (oz.trans NG)
  have:=Names.Ur all c;simpa using this
 .intro i _ hi;simp[dn,mM] at hi;split at hi <;> simp at hi
 .intro i o f hi;simp[dn,mM] at hi;split at hi <;> simp at hi
 .rw[I,h0];have A:=Y.mono (O.oo E) E.len;refine⟨A.size,A.defers,λt=>?_⟩
  unfold fY;cases hix:idx t with
  |none=>exact A.slot t
  |some j =>
   simp only;rw[aY]
   .exact A.slot t
   .simp[dn,mM];split <;> simp
def rU.to{all:List aw}{o:aw}{φ:Fr}{ι d:Type}{y:ι->D}{σ':ι->List aW}{z:d->D}{e:d->List aW}(h:rU X N all o φ σ y σ')(l:∀ j,∃ k,y j=z k/\σ' j=e k):rU X N all o φ σ z e:=by
 intro s a f hh b k cs S i rest hb hi hK;refine h s a f hh b k cs S i rest hb hi λj v s' r1 r2 r3=>?_
 obtain⟨q,p2,p3⟩:=l j
 grind
def OA.A9{all:List aw}{o:aw}{φ:Fr}{d:Type}{y:D}{σ':List aW}{z:d->D}{e:d->List aW}(h:OA X N all o φ σ y σ')(k:d)(h1:y=z k)(h2:σ'=e k):rU X N all o φ σ z e:=by
 subst h1 h2;exactλs a f hh b k' cs S i rest hb hi hK=>h s a f hh b k' cs S i rest hb hi λv s' r1 r2 r3=>hK k v s' r1 r2 r3
end
section
variable {P:aq}{X:Cx P}{N:Nat}{all:List aw}{φ:Fr}{σ:List aW}{o:aw}
def rU.lF{ι:Type}{x:ι->D}{σ':ι->List aW}(m:o.guard=af)(h:∀ s ρ,aJ σ s->(∀ y,c8 σ s (ρ y) (bX φ y))->∃ (j:ι)(s':St)(v:ak),(ay ρ o).run P s.w=.ok (.value v) s'.w/\c8 (σ' j) s' v (x j)/\aJ (σ' j) s'/\Step σ s (σ' j) s'/\eU s ((ay ρ o).events P s.w #[])):rU X N all o φ σ x σ':=by
 intro s a f hh b k cs S i rest hb hi hK;refine zK hb hi (dq m) λl d=>?_
 have c:=hh.rely d;obtain⟨j,s',v,h1,h2,g,e,n⟩:=h l a.eval c (dK (f.rely d hh));exact⟨_,s',v,h1,.inl rfl,⟨⟨σ,σ' j,c,g,e⟩,n⟩,hK j v s' h2 g (d.stepW.trans (e.oo c))⟩
def rU.sY{x:D}{σ':List aW}(h:OA X N all o φ σ x σ'):rU X N all o φ σ (λ_:Unit=>x) (λ_=>σ') :=
 λs a f hh b k cs S i rest hb hi hK=>h s a f hh b k cs S i rest hb hi λv s'=>hK () v s'
def OA.law{x:D}{σ':List aW}(h:bF P o (bX φ) σ x σ')(a:o.guard=af):OA X N all o φ σ x σ':=.lF (λ_ _ _ _=>dq a) h
def OA.eval{T:List (Nat×TI)}{CT:List (Nat×dg)}{ds:List (Nat×Bool)}{x:D}{obs:List Prop}(a:db P T)(hC:bD X CT)(h:Fw T CT ds all φ σ o=aa (x,af,obs))(b:ag obs):OA X N all o φ σ x σ:=fW a hC h b
def OA.cd{T:List (Nat×TI)}{CT:List (Nat×dg)}{x:D}(a:db P T)(hC:bD X CT)(h:Fw T CT [] all φ σ o=aa (x,af,[])):OA X N all o φ σ x σ:=fW a hC h av
def qC(X:Cx P)(N:Nat)(all:List aw)(φ:Fr)(σ:List aW)(x:Nat->D)(pre:Nat->Bool):List aw->Nat->Prop
 |[],_=>True
 |o::r,i=>(match pre i with|true=>OA X N all o (m6 all φ x i) σ (x i) σ|false=>True)/\qC X N all φ σ x pre r (i+1)
def qD(X:Cx P)(N:Nat)(all:List aw)(φ:Fr)(σ:List aW)(x:Nat->D)(m:Nat):List aw->Nat->Prop
 |[],_=>True
 |o::r,i=>(match aA i m with|true=>True|false=>OA X N all o (m6 all φ x i) σ (x i) σ)/\qD X N all φ σ x m r (i+1)
def qC.get{x:Nat->D}{pre:Nat->Bool}:∀ {l:List aw}{k:Nat},qC X N all φ σ x pre l k->∀ (i:Nat)(o:aw),l[i]?=aa o->pre (k+i)=ab->OA X N all o (m6 all φ x (k+i)) σ (x (k+i)) σ
 |[],_,_,i,o,h=>by simp at h
 |p::r,k,h,0,o,hi=>λa=>by
  simp at hi;subst hi;have h1:=h.1
  grind
 |p::r,k,h,i+1,o,hi=>λa=>by
  have:=qC.get h.2 i o (by simpa using hi) (by grind)
  grind
def qD.get{x:Nat->D}{m:Nat}:∀ {l:List aw}{k:Nat},qD X N all φ σ x m l k->∀ (i:Nat)(o:aw),l[i]?=aa o->k+i≠m->OA X N all o (m6 all φ x (k+i)) σ (x (k+i)) σ
 |[],_,_,i,o,h=>by simp at h
 |p::r,k,h,0,o,hi=>λa=>by
  simp at hi;subst hi;have h1:=h.1;simp only[iM] at a;have hb:aA k m=ae:=by
   cases hb:aA k m with
   |true=>exact absurd (bT hb) a
   |false=>rfl
  rw[hb] at h1;exact h1
 |p::r,k,h,i+1,o,hi=>λa=>by
  have:=qD.get h.2 i o (by simpa using hi) (by omega)
  grind
def qE{ι:Type}(pre:Nat->Bool)(x:Nat->D)(y:ι->Nat->D)(j:ι)(i:Nat):D:=match pre i with|true=>x i|false=>y j i
def zW{ι:Type}{m c:Nat}{pre:Nat->Bool}{x:Nat->D}{d:ι->Nat->D}{σ':ι->List aW}{S:ι->(Nat->Bool)->List aW}(z:pre m=ae)(u:xI pre m all 0=ab)(same:∀ j i,pre i=ab->d j i=x i)
  (one:∀ i o,all[i]?=aa o->pre i=ab->OA X N all o (m6 all φ x i) σ (x i) σ)
  (two:∀ j (D:Nat->Bool) i o,all[i]?=aa o->i≠m->i<c->D i=ae->(∀ k p,all[k]?=aa p->D k=ab->∀ e∈bP p.after.toList,D e=ab)->OA X N all o (m6 all φ (d j) i) (S j D) (d j i) (S j (cM i D)))
  (G1:∀ o,all[m]?=aa o->rU X N all o (m6 all φ x m) σ (λj=>d j m) σ') (B:∀ j (D:Nat->Bool),(∀ i,D i=ab->pre i=ab)->σ' j=S j (cM m D)) :
  ∀ (a:Option ι) (D:Nat->Bool) i o,(a.isSome=D m/\(a=af->∀ i,D i=ab->pre i=ab))->all[i]?=aa o->i<c->D i=ae->(∀ e∈bP o.after.toList,D e=ab)->(∀ j p,all[j]?=aa p->D j=ab->∀ e∈bP p.after.toList,D e=ab) ->
   rU X N all o (m6 all φ (a.elim x d) i) (a.elim σ λj=>S j D) (λq:{ f:Option ι // (∀ j,D j=ab->f.elim x d j=a.elim x d j)/\(f.isSome=cM i D m/\(f=af->∀ k,cM i D k=ab->pre k=ab)) }=>q.1.elim x d i) (λq=>q.1.elim σ λj=>S j (cM i D)):=by
 intro a D i o w r t v y n;have E:∀ {k},cM i D k=ab->k=i∨D k=ab:=λ{k} b=>by
  unfold cM at b;cases s:aA k i with
  |true=>exact .inl (bT s)
  |false=>rw[s] at b;exact .inr b
 have A:∀ {k},k≠i->cM i D k=D k:=λ{k} b=>by
  unfold cM;cases s:aA k i with
  |true=>exact absurd (bT s) b
  |false=>rfl
 by_cases l:i=m
 .subst l;cases a with
  |some j=>grind
  |none =>
   refine(G1 o r).to λj=>⟨⟨aa j,λk b=>same j k (w.2 rfl k b),?_,λh=>by cases h⟩,rfl,B j D (w.2 rfl)⟩
   unfold cM;rw[iL];rfl
 .cases a with
  |none =>
   have g:pre i=ab:=by
    cases g:pre i with
    |true=>rfl
    |false =>
     obtain⟨e,C,F⟩:=FO u i o r (by simpa using g) (by simpa using l)
     grind
   exact(one i o r g).A9 ⟨af,λ_ _=>rfl,by grind,λ_ k b=>by
    grind⟩ rfl rfl
  |some j=>exact(two j D i o r l t v n).A9 ⟨aa j,λ_ _=>rfl,by grind,λh=>by cases h⟩ rfl rfl
def r6{ι:Type}{m c:Nat}{pre:Nat->Bool}{a:Option ι}{D:Nat->Bool}(d:a.isSome=D m/\(a=af->∀ i,D i=ab->pre i=ab))(e:m<c)(b:∀ i,i<c->D i=ab):∃ j,a=aa j:=by
 cases a with
 |some j=>exact⟨j,rfl⟩
 |none=>grind
def AK.G1{ι:Type}(q:P.follows Departure.mixedOrders=ab)(m:Nat)(pre:Nat->Bool)(x:Nat->D)(y:ι->Nat->D)(σ':ι->List aW){ops:Array aw}{id:Nat}{K:List It}{Qf:Post}
  (b:mv ops.toList=ab) (c:rV ops.toList 0=ab) (d:n3 N ops.toList=ab) (g:Nat.blt m ops.toList.length=ab) (e:pre m=ae) (f:xI pre m ops.toList 0=ab)
  (one:qC X N ops.toList φ σ x pre ops.toList 0) (two:∀ j,qD X N ops.toList φ (σ' j) (qE pre x y j) m ops.toList 0)
  (G1:rU X N ops.toList (ops.toList.getD m fV) (m6 ops.toList φ x m) σ (λj=>qE pre x y j m) σ') (k:∀ j,AK X N Qf K .normal (MK ops.toList φ (qE pre x y j)) (σ' j)):AK X N Qf (.code (.region id ops ab)::K) .normal φ σ:=by
 have g:=c7 g;have:=AW.reg (X:=X) (N:=N) (φ:=φ) (σ:=σ) q (all:=ops.toList) ops.toList.length (λa:Option ι=>a.elim x (qE pre x y)) (λa _=>a.elim σ σ') (λa D=>a.isSome=D m/\(a=af->∀ i,D i=ab->pre i=ab)) af ⟨rfl,λ_ _ h=>by cases h⟩ rfl b c d (bc _)
  (λi h1 h2=>absurd h2 (ky.2 h1)) (λa D _ _ i h1 h2=>absurd h2 (ky.2 h1))
  (zW (S:=λj _=>σ' j) e f (λj i l=>by simp only[qE,l]) (λi o hi l=>by have:=one.get i o hi (by rwa [br]);rwa [br] at this) (λj D i o hi Dg _ _ _=>by have:=(two j).get i o hi (by rwa [br]);rwa [br] at this)
   (λo r=>by grind) (λ_ _ _=>rfl))
  (Q:=AK X N Qf K) (λa D p n=>by
   obtain⟨j,rfl⟩:=r6 p g n;rw[q8];exact .nil (k j)) id
 rw[oM] at this;exact this
end
end
end Go.AM
namespace Go.AM.R1
section
open Go.Proofs
variable {X:Cx ah}
abbrev bb(a:Bool)(bf:Option (Nat×Nat))(xs:Bs)(b:Nat):aW:=bB a (oS bf xs.length) bf xs b
def lX:∀ j,j<1->([0]:List Nat)[j]?=aa j:=λj a=>by
 have:j=0:=by omega
 subst this;rfl
def Aa(a:Bool)(bf:Option (Nat×Nat))(xs:Bs)(b:Nat)(d:xs.length<=9223372036854775807)(c:bf=af->xs=[]):Ev X 228 [.e (.one (.ptr 0 0))] [bb a bf xs b] (dI xs.length) [bb a bf xs b]:=by
 refine Ev.bQ Tryz.func228 rfl λf=>?_
 refine bm rfl av ?_;refine AK.law (bF.e9 tok rfl rfl rfl rfl rfl) rfl rfl ?_;cases bf with
 |none =>
  have:=c rfl;subst this;refine AK.law (bF.uu rfl rfl Tryz.underlying22 rfl (by simp)) rfl rfl ?_
  refine bm rfl av (AK.dA [0] rfl ?_ rfl rfl rfl lX);simp[ag]
 |some p =>
  refine AK.law (bF.uu rfl rfl Tryz.underlying22 rfl d) rfl rfl ?_;refine bm rfl av (AK.dA [0] rfl ?_ rfl rfl rfl lX);simp[ag]
def D9(g cap:Nat)(xs s:Bs)(b:Nat)(f:s.length<=9223372036854775807)(a:xs.length+s.length<=cap):Ev X 193 [.e (.one (.ptr 0 0)),dS s] [bb ab (aa (g,cap)) xs b] (.eN [.one (.c (.int .i64 s.length)),.one (.c .nU)]) [bb ab (aa (g,cap)) (xs++s) b]:=by
 refine Ev.bQ Tryz.func193 rfl λd=>?_
 refine bm rfl av ?_;refine AK.cQ (BY (oS (aa (g,cap)) xs.length) (aa (g,cap)) xs b) [0] rfl ?_;refine bm rfl av ?_;refine AK.law (bF.e9 tok rfl rfl rfl rfl rfl) rfl rfl ?_;refine bm rfl av ?_;refine AK.law (bF.MZ (l:=0) (g:=g) (cap:=cap) (xs:=xs) rfl Tryz.underlying22 Tryz.underlying9 (bz Tryz.type5) (by simp[Tryz.t5]) rfl rfl rfl rfl a) rfl rfl ?_
 refine bm rfl av ?_;refine AK.law (bF.zo tok rfl rfl rfl rfl rfl rfl rfl) rfl rfl ?_;have e:bb ab (aa (g,cap)) (xs++s) b=.dz (BB 239 5 ab (oS (aa (g,cap)) (xs.length+s.length)) (aa (g,cap)) (xs++s) b):=by simp[bb,bB]
 rw[e];refine bm rfl av (AK.dA [0] rfl ?_ rfl rfl rfl lX);simp[ag,ag.cat]
def Rh:Ev X 193 [.e (.one (.ptr 0 0)),dS []] [bb ab af [] 0] (.eN [.one (.c (.int .i64 0)),.one (.c .nU)]) [bb ab af [] 0]:=by
 refine Ev.bQ Tryz.func193 rfl λa=>?_
 refine bm rfl av ?_;refine AK.cQ (BY (oS af 0) af [] 0) [0] rfl ?_;refine bm rfl av ?_;refine AK.law (bF.e9 tok rfl rfl rfl rfl rfl) rfl rfl ?_;refine bm rfl av ?_;refine AK.law (bF.I6 rfl Tryz.underlying22 Tryz.underlying9 (bz Tryz.type5) rfl rfl) rfl rfl ?_;refine bm rfl av ?_;refine AK.law (bF.zo tok rfl rfl rfl rfl rfl rfl rfl) rfl rfl ?_;refine bm rfl av (AK.dA [0] rfl ?_ rfl rfl rfl lX);simp[ag,ag.cat]
abbrev dp:D:=.e (.one (.ptr 0 0))
abbrev MN:D:=.e (.one (.ptr 0 1))
def Ea(g cap:Nat)(xs:Bs)(c:Nat)(a:xs.length<=9223372036854775807)(b:cap≠0):Ev X 194 [.e (.one (.ptr 0 0))] [bb ab (aa (g,cap)) xs c] (dS xs) [bb ab (aa (g,cap)) xs xs.length]:=by
 refine Ev.bQ Tryz.func194 rfl λd=>?_
 refine aX [(1000001,ab)] 100 rfl av ?_;refine AK.G1 en 10 (λi=>bq i 9) (λi=>[dp,dp,MN,.e (.one (.v (.slice (aa ⟨g,0,af⟩) xs.length cap))),.e (.one (.v (.pointer (aa ⟨g,0,af⟩)))),dp,dp,MN,.e (.one (.v (.slice (aa ⟨g,0,af⟩) xs.length cap))),dI xs.length].getD i .any) (λ(_:Unit) _=>dS xs)
  (λ_=>[bb ab (aa (g,cap)) xs xs.length]) rfl rfl rfl rfl rfl rfl ?_ ?_ ?_ ?_
 .refine⟨.cd tok bD.nil rfl,.cd tok bD.nil rfl,.cd tok bD.nil rfl,?_,?_,.cd tok bD.nil rfl,.cd tok bD.nil rfl,.cd tok bD.nil rfl,?_,?_,av,av,av⟩
  .exact .law (bF.e9 (l:=0) tok rfl rfl rfl rfl rfl) rfl
  .exact .law (bF.Tt rfl rfl b) rfl
  .exact .law (bF.e9 (l:=0) tok rfl rfl rfl rfl rfl) rfl
  .exact .law (bF.uu rfl rfl Tryz.underlying22 rfl a) rfl
 .intro _;refine⟨.cd tok bD.nil rfl,.cd tok bD.nil rfl,.cd tok bD.nil rfl,?_,?_,.cd tok bD.nil rfl,.cd tok bD.nil rfl,.cd tok bD.nil rfl,?_,?_,av,.cd tok bD.nil rfl,av⟩
  .exact .law (bF.e9 (l:=0) tok rfl rfl rfl rfl rfl) rfl
  .exact .law (bF.Tt rfl rfl b) rfl
  .exact .law (bF.e9 (l:=0) tok rfl rfl rfl rfl rfl) rfl
  .exact .law (bF.uu rfl rfl Tryz.underlying22 rfl a) rfl
 .exact .sY (.law (Tq (l:=0) rfl Tryz.underlying267 (by kernel_rfl) rfl rfl rfl) rfl)
 .intro _;refine bm rfl av (AK.dA [0] rfl ?_ rfl rfl rfl lX);simp[ag]
def UD{o:aw}{a:an->D}{σ:List aW}{t ty:ar}{x y:an}(h:o.op=.binOp .add t x y ty){b:Int}(f:a x=dI 0)(e:a y=dI b)(d:bx .i64 b):bF ah o a σ (dI b) σ:=by
 have:=bF.binOp (P:=ah) (σ:=σ) h f e (c:=.int .i64 (0+b)) (obs:=[bx .i64 (0+b)]) rfl (by rw[Int.zero_add];exact d)
 rwa [Int.zero_add] at this
def cD.PE{ι:Type}{f:aV}{fn:Func}{c:Code}{args:List D}{σ:List aW}{σ':ι->List aW}{res:ι->D}(d:Tryz.prog.funcs[f]?=aa fn)(b:(fn.name== "runtime.NumGoroutine")=ae)(hb:fn.body=aa c)(a:bq args.length fn.ntmps=ab)
  (h:AK X fn.ntmps (λe φ σ1=>∃ j,bZ fn σ.length (res j) (σ' j) e φ σ1) [.code c] .normal (hU 0 args) σ):cD X f args σ res σ' :=
 cD.intro d b hb (c7 a) (AK.of_code h)
def NN:Ev X 194 [.e (.one (.ptr 0 0))] [bb ab af [] 0] (dS []) [bb ab af [] 0]:=by
 refine Ev.bQ Tryz.func194 rfl λa=>?_
 refine aX [(1000001,ab)] 100 rfl av ?_;refine AK.G1 en 10 (λi=>bq i 9) (λi=>[dp,dp,MN,.e (.one (.v (.slice af 0 0))),.e (.one (.v (.pointer af))),dp,dp,MN,.e (.one (.v (.slice af 0 0))),dI (0:Nat)].getD i .any) (λ(_:Unit) _=>dS [])
  (λ_=>[bb ab af [] 0]) rfl rfl rfl rfl rfl rfl ?_ ?_ ?_ ?_
 .refine⟨.cd tok bD.nil rfl,.cd tok bD.nil rfl,.cd tok bD.nil rfl,?_,?_,.cd tok bD.nil rfl,.cd tok bD.nil rfl,.cd tok bD.nil rfl,?_,?_,av,av,av⟩
  .exact .law (bF.e9 (l:=0) tok rfl rfl rfl rfl rfl) rfl
  .exact .law (bF.Ts rfl rfl) rfl
  .exact .law (bF.e9 (l:=0) tok rfl rfl rfl rfl rfl) rfl
  .exact .law (bF.uu rfl rfl Tryz.underlying22 rfl (by decide)) rfl
 .intro _;refine⟨.cd tok bD.nil rfl,.cd tok bD.nil rfl,.cd tok bD.nil rfl,?_,?_,.cd tok bD.nil rfl,.cd tok bD.nil rfl,.cd tok bD.nil rfl,?_,?_,av,.cd tok bD.nil rfl,av⟩
  .exact .law (bF.e9 (l:=0) tok rfl rfl rfl rfl rfl) rfl
  .exact .law (bF.Ts rfl rfl) rfl
  .exact .law (bF.e9 (l:=0) tok rfl rfl rfl rfl rfl) rfl
  .exact .law (bF.uu rfl rfl Tryz.underlying22 rfl (by decide)) rfl
 .exact .sY (.law (bF.Tv rfl rfl rfl) rfl)
 .intro _;refine bm rfl av (AK.dA [0] rfl ?_ rfl rfl rfl lX);simp[ag]
def NO(n:Nat)(d:0<n)(c:n<=140737488355328):cD (ι:={ p:Nat×Nat // n<=p.2 }) X 219 [.e (.one (.ptr 0 0)),dI n] [bb ab af [] 0] (λ_=>.eN []) (λj=>[bb ab (aa j.1) [] 0]):=by
 refine cD.PE Tryz.func219 rfl rfl rfl ?_;refine aX [(1000000,ab)] 100 rfl av ?_;have a:bx .i64 (n:Int):=by simp only[bx];omega
 have v0:D:=.e (.one (.v (.slice af 0 0)));refine AK.G1 (ι:={ p:Nat×Nat // n<=p.2 }) en 8 (λi=>bq i 7||(bq 9 i&&bq i 13)) (λi=>[dp,dp,MN,.e (.one (.v (.slice af 0 0))),dI (0:Nat),dI 0,dI n,dI n,.any,dp,dp,MN,.e (.one (.v (.slice af 0 0))),dI (0:Nat)].getD i .any)
  (λj i=>[.e (.one (.v (oS (aa j.1) n))),.any,.any,.any,.any,.any,.e (.one (.v (.slice (aa ⟨j.1.1,0,af⟩) 0 j.1.2))),.e (.one (.v (.slice (aa ⟨j.1.1,0,af⟩) 0 j.1.2)))].getD (i-8) .any)
  (λj=>[bB ab (.slice af 0 0) (aa j.1) [] 0]) rfl rfl rfl rfl rfl rfl ?_ ?_ ?_ ?_
 .refine⟨.cd tok bD.nil rfl,.cd tok bD.nil rfl,.cd tok bD.nil rfl,?_,?_,?_,.cd tok bD.nil rfl,?_,av,.cd tok bD.nil rfl,.cd tok bD.nil rfl,.cd tok bD.nil rfl,?_,?_,av,av,av⟩
  .exact .law (bF.e9 (l:=0) tok rfl rfl rfl rfl rfl) rfl
  .exact .law (bF.M0 rfl rfl Tryz.underlying22 rfl (by decide)) rfl
  .exact .law (Ki 0 rfl rfl rfl (by simp[bx]) (λw=>rfl) (λw=>rfl)) rfl
  .exact .law (UD rfl rfl rfl a) rfl
  .exact .law (bF.e9 (l:=0) tok rfl rfl rfl rfl rfl) rfl
  .exact .law (bF.uu rfl rfl Tryz.underlying22 rfl (by decide)) rfl
 .intro j;have b:j.1.2≠0:=by have:=j.2;omega
  refine⟨.cd tok bD.nil rfl,.cd tok bD.nil rfl,.cd tok bD.nil rfl,?_,?_,?_,.cd tok bD.nil rfl,?_,av,.cd tok bD.nil rfl,.cd tok bD.nil rfl,.cd tok bD.nil rfl,?_,?_,?_,.cd tok bD.nil rfl,av⟩
  .exact .law (bF.e9 (l:=0) tok rfl rfl rfl rfl rfl) rfl
  .exact .law (bF.M0 rfl rfl Tryz.underlying22 rfl (by decide)) rfl
  .exact .law (Ki 0 rfl rfl rfl (by simp[bx]) (λw=>rfl) (λw=>rfl)) rfl
  .exact .law (UD rfl rfl rfl a) rfl
  .exact .law (bF.e9 (l:=0) tok rfl rfl rfl rfl rfl) rfl
  .exact .law (bF.uu rfl rfl Tryz.underlying22 rfl (by decide)) rfl
  .exact .law (bF.Tu (k:=0) rfl Tryz.underlying22 (bz Tryz.type5) rfl rfl (gh _) j.2 b (c9 _ _ _)) rfl
 .exact .lF rfl (Tp (l:=0) (ps:=#[3]) Tryz.underlying22 Tryz.func230 (by kernel_rfl) (by kernel_rfl) (by kernel_rfl) (by kernel_rfl) rfl rfl rfl d c rfl)
 .intro j;refine bm rfl av ?_;refine AK.law (bF.e9 (l:=0) tok rfl rfl rfl rfl rfl) rfl rfl ?_;refine AK.law (bF.copyV rfl Tryz.underlying22 (bz Tryz.type5) rfl rfl) rfl rfl ?_;refine bm rfl av ?_;refine AK.law (bF.zo (l:=0) tok rfl rfl rfl rfl rfl rfl rfl) rfl rfl ?_;refine bm rfl av ?_;exact⟨j,bZ.s9 [0] rfl av rfl rfl rfl lX⟩
def FV(n:Nat)(b:0<n)(a:n<=140737488355328):cD (ι:={ p:Nat×Nat // n<=p.2 }) X 192 [.e (.one (.ptr 0 0)),dI n] [bb ae af [] 0] (λ_=>.eN []) (λj=>[bb ab (aa j.1) [] 0]):=by
 refine cD.PE Tryz.func192 rfl rfl rfl ?_;refine bm rfl av ?_;refine AK.cQ (BX (oS af 0) rfl af [] 0) [0] rfl ?_;refine aX [(7,ae),(1000003,ab)] 100 rfl ?_ ?_
 .simp[ag]
 refine AK.G1 en 4 (λi=>bq i 3||(bq 5 i&&bq i 9)||aA i 11) (λi=>[dp,dp,MN,.e (.one (.v (.slice af 0 0))),.any,dp,dp,MN,.e (.one (.v (.slice af 0 0))),dI (0:Nat),.any,dI n].getD i .any)
  (λ(_:Unit) i=>[dI (0:Nat),.any,.any,.any,.any,.any,dI (0-0),.any,dB ab].getD (i-4) .any)
  (λ_=>[bb ab af [] 0]) rfl rfl rfl rfl rfl rfl ?_ ?_ ?_ ?_
 .refine⟨.cd tok bD.nil rfl,.cd tok bD.nil rfl,.cd tok bD.nil rfl,?_,av,.cd tok bD.nil rfl,.cd tok bD.nil rfl,.cd tok bD.nil rfl,?_,?_,av,.cd tok bD.nil rfl,av,av⟩
  .exact .law (bF.e9 (l:=0) tok rfl rfl rfl rfl rfl) rfl
  .exact .law (bF.e9 (l:=0) tok rfl rfl rfl rfl rfl) rfl
  .exact .law (bF.uu rfl rfl Tryz.underlying22 rfl (by decide)) rfl
 .intro _;refine⟨.cd tok bD.nil rfl,.cd tok bD.nil rfl,.cd tok bD.nil rfl,?_,av,.cd tok bD.nil rfl,.cd tok bD.nil rfl,.cd tok bD.nil rfl,?_,?_,?_,.cd tok bD.nil rfl,?_,av⟩
  .exact .law (bF.e9 (l:=0) tok rfl rfl rfl rfl rfl) rfl
  .exact .law (bF.e9 (l:=0) tok rfl rfl rfl rfl rfl) rfl
  .exact .law (bF.uu rfl rfl Tryz.underlying22 rfl (by decide)) rfl
  .exact .eval (ds:=[]) tok bD.nil (obs:=[bx .i64 (((0:Nat):Int)-((0:Nat):Int))]) rfl (by simp[ag,bx])
  .exact .eval (ds:=[(21,ab)]) tok bD.nil (obs:=[decide ((0:Int)-0<(n:Int))=ab]) rfl (by simp[ag];omega)
 .exact .sY (.law (bF.M0 rfl rfl Tryz.underlying22 rfl (by decide)) rfl)
 .intro _;refine bm rfl av ?_;refine AK.cP (NO n b a) [0] rfl (λ_=>rfl) λj=>?_
  refine bm rfl av ?_;exact⟨j,bZ.s9 [0] rfl av rfl rfl rfl lX⟩
def Kj:Ev X 192 [.e (.one (.ptr 0 0)),dI (0:Nat)] [bb ae af [] 0] (.eN []) [bb ab af [] 0]:=by
 refine Ev.bQ Tryz.func192 rfl λa=>?_
 refine bm rfl av ?_;refine AK.cQ (BX (oS af 0) rfl af [] 0) [0] rfl ?_;refine aX [(7,ae),(1000003,ab)] 100 rfl ?_ ?_
 .simp[ag]
 refine AK.G1 en 4 (λi=>bq i 3||(bq 5 i&&bq i 9)||aA i 11) (λi=>[dp,dp,MN,.e (.one (.v (.slice af 0 0))),.any,dp,dp,MN,.e (.one (.v (.slice af 0 0))),dI (0:Nat),.any,dI (0:Nat)].getD i .any)
  (λ(_:Unit) i=>[dI (0:Nat),.any,.any,.any,.any,.any,dI (0-0),.any,dB ae].getD (i-4) .any)
  (λ_=>[bb ab af [] 0]) rfl rfl rfl rfl rfl rfl ?_ ?_ ?_ ?_
 .refine⟨.cd tok bD.nil rfl,.cd tok bD.nil rfl,.cd tok bD.nil rfl,?_,av,.cd tok bD.nil rfl,.cd tok bD.nil rfl,.cd tok bD.nil rfl,?_,?_,av,.cd tok bD.nil rfl,av,av⟩
  .exact .law (bF.e9 (l:=0) tok rfl rfl rfl rfl rfl) rfl
  .exact .law (bF.e9 (l:=0) tok rfl rfl rfl rfl rfl) rfl
  .exact .law (bF.uu rfl rfl Tryz.underlying22 rfl (by decide)) rfl
 .intro _;refine⟨.cd tok bD.nil rfl,.cd tok bD.nil rfl,.cd tok bD.nil rfl,?_,av,.cd tok bD.nil rfl,.cd tok bD.nil rfl,.cd tok bD.nil rfl,?_,?_,?_,.cd tok bD.nil rfl,?_,av⟩
  .exact .law (bF.e9 (l:=0) tok rfl rfl rfl rfl rfl) rfl
  .exact .law (bF.e9 (l:=0) tok rfl rfl rfl rfl rfl) rfl
  .exact .law (bF.uu rfl rfl Tryz.underlying22 rfl (by decide)) rfl
  .exact .eval (ds:=[]) tok bD.nil (obs:=[bx .i64 (((0:Nat):Int)-((0:Nat):Int))]) rfl (by simp[ag,bx])
  .exact .eval (ds:=[(21,ae)]) tok bD.nil (obs:=[decide ((0:Int)-0<((0:Nat):Int))=ae]) rfl (by simp[ag])
 .exact .sY (.law (bF.M0 rfl rfl Tryz.underlying22 rfl (by decide)) rfl)
 .intro _;refine bm rfl av ?_;exact bZ.s9 [0] rfl av rfl rfl rfl lX
def Kk{o:aw}{a:an->D}{σ:List aW}(h:o.op=.alloc 239):bF ah o a σ (.e (.one (.ptr σ.length 0))) (σ++[bb ae af [] 0]) :=
 bF.Qd h (λw=>by simp[zeroValue,typeInfo,bz Tryz.type239,Tryz.t239]) (λw es=>by simp)
def Kl{o:aw}{n:an->D}{σ:List aW}{x y z:an}{p:Array ar}{a b c:Int} (m:Int)(h:o.op=.call { callee:=.builtin .min,args:=#[x,y,z],argTypes:=p })(r:n x=dI a)(t:n y=dI b)(q:n z=dI c)(w:min (min a b) c=m)(u:bx .i64 m):bF ah o n σ (dI m) σ:=by
 refine .quiet λs ρ v d=>?_
 have f:=d x;have i:=d y;have l:=d z;rw[r] at f;rw[t] at i;rw[q] at l
 replace f:=fC f
 replace i:=fC i
 replace l:=fC l
 generalize k:ρ x=vx at f;generalize g:ρ y=vy at i;generalize j:ρ z=vz at l;cases f;cases i;cases l;have e:(if c<(if b<a then b else a) then c else if b<a then b else a)=m:=by
  grind
 exact⟨.int .i64 m,by simp[ay,h,resolve,invoke,builtin,k,g,j,Builtin.min_,Builtin.min2,e],.int u,by simp[ay,h,resolve,invoke,builtin,k,g,j,Builtin.min_,Builtin.min2]⟩
def Km(n:Nat)(l:2<=n)(q:n<=3):Ev X 208 [dS [46],dI n] [] (dS (List.replicate n 46)) []:=by
 refine Ev.bQ Tryz.func208 rfl λp=>?_
 have a:bD X [(227,Ri)]:=.cons t227 .nil;refine aE a [(13,ae),(15,ae),(18,ae),(30,ae),(33,ae),(40,ae),(44,ae),(45,ae),(46,ae),(47,ae),(48,ae),(96,ae),(1000035,ab)] 200 rfl ?_ ?_
 .have h:(n:Int)=2∨(n:Int)=3:=by omega
  have e:(iO [46] 0).toNat=46:=rfl;simp[ag,bx,e,h];omega
 refine AK.region ?_;refine AK.law (Kk rfl) rfl rfl ?_;refine aE a [] 200 rfl av ?_;refine AK.cP (FV n (by omega) (by omega)) [0] rfl (λ_=>rfl) λj=>?_
 obtain⟨⟨g,cap⟩,b⟩:=j;have b:n<=cap:=b;refine aE a [] 200 rfl av ?_;refine AK.cQ (D9 g cap [] [46] 0 (by simp) (by simp;omega)) [0] rfl ?_
 refine aE a [] 200 rfl av ?_;refine AK.jV (λk=>1<=k/\k<=n) (λk:Nat=>[(0,dS [46]),(7,dI n),(8,dI n),(9,.e (.one (.ptr 0 0)))]) (λk=>[bb ab (aa (g,cap)) (List.replicate k 46) (k-1)]) (λk=>n-k) 1 rfl ?_ rfl ?_ ⟨by omega,by omega⟩ ?_
 .simp[ag,ag.cat]
 .exact ag.cat.2 ⟨rfl,av⟩
 rintro k ⟨d,f⟩;refine aE a [] 200 rfl av ?_;refine AK.cQ (Aa ab (aa (g,cap)) (List.replicate k 46) (k-1) (by simp;omega) (by simp)) [0] rfl ?_
 by_cases o:k<n
 .refine aE a [(113,ab)] 200 rfl ?_ ?_
  .simp[ag];omega
  refine AK.cQ (Aa ab (aa (g,cap)) (List.replicate k 46) (k-1) (by simp;omega) (by simp)) [0] rfl ?_
  refine aE a [] 200 rfl ?_ ?_
  .simp[ag,bx];omega
  refine AK.cQ (Aa ab (aa (g,cap)) (List.replicate k 46) (k-1) (by simp;omega) (by simp)) [0] rfl ?_
  refine aE a [] 200 rfl av ?_;refine AK.law (Kl 1 rfl rfl rfl rfl (by simp;omega) (by simp[bx])) rfl rfl ?_
  refine aE a [] 200 rfl av ?_;refine AK.cQ (Ea g cap (List.replicate k 46) (k-1) (by simp;omega) (by omega)) [0] rfl ?_
  have i:rP (List.replicate k (46:UInt8)) af (aa 1)=[46]:=by
   obtain⟨m,rfl⟩:∃ m,k=m+1:=⟨k-1,by omega⟩
   simp[rP,List.replicate_succ]
  refine aE a [] 200 rfl ?_ ?_
  .simp[ag];omega
  rw[i];refine AK.cQ (D9 g cap (List.replicate k 46) [46] (List.replicate k 46).length (by simp) (by simp;omega)) [0] rfl ?_
  have c:List.replicate k (46:UInt8)++[46]=List.replicate (k+1) 46:=by rw[List.replicate_succ']
  rw[c];refine aE a [] 200 rfl av (AK.gm (k+1) rfl ?_ rfl ?_ ⟨by omega,by omega⟩ (by omega))
  .simp[ag,ag.cat]
  .refine ag.cat.2 ⟨?_,av⟩;simp[ag]
 .refine aE a [(113,ae)] 200 rfl ?_ (AK.leave rfl rfl ?_)
  .simp[ag];omega
  have e:k=n:=by omega
  subst e;refine aE a [] 200 rfl av ?_;refine AK.cQ (Ea g cap (List.replicate k 46) (k-1) (by simp;omega) (by omega)) [0] rfl ?_
  refine aE a [] 200 rfl av (AK.bo rfl ?_);simp[ag,ag.cat]
def X9:dD X 208 G6:=UE (Km 2 (by omega) (by omega)) (Km 3 (by omega) (by omega))
def UF:dD X 165 pf:=UG X9
def Room(bf:Option (Nat×Nat))(n:Nat):Prop:=match bf with|none=>n=0|some (_,cap)=>n<=cap/\0<cap
def _root_.Go.AM.cD.re{P:aq}{ι b:Type}{X:Cx P}{f:aV}{args:List D}{σ:List aW}{res:ι->D}{σ':ι->List aW}{a:b->D}{σ2:b->List aW}(h:cD X f args σ res σ')(g:ι->b)(d:∀ i,a (g i)=res i)(c:∀ i,σ2 (g i)=σ' i):cD X f args σ a σ2 :=
 ⟨h.1,λs vs h1 h2 S cs hS=>h.2 s vs h1 h2 S cs λi fr v s' k1 k2 k3 k4=>hS (g i) fr v s' k1 (by rw[c,d];exact k2) (by rw[c];exact k3) (by rw[c];exact k4)⟩
def Kn(n:Nat)(a:n<=140737488355328):cD (ι:={ bf:Option (Nat×Nat) // Room bf n }) X 192 [.e (.one (.ptr 0 0)),dI n] [bb ae af [] 0] (λ_=>.eN []) (λj=>[bb ab j.1 [] 0]):=by
 by_cases h:n=0
 .subst h;exact Kj.A9.re (λ_=>⟨af,rfl⟩) (λ_=>rfl) (λ_=>rfl)
 .exact(FV n (by omega) a).re (λp=>⟨aa p.1,p.2,by grind⟩) (λ_=>rfl) (λ_=>rfl)
def Eb(bf:Option (Nat×Nat))(xs s:Bs)(d:s.length<=9223372036854775807)(h:Room bf (xs.length+s.length)):Ev X 193 [.e (.one (.ptr 0 0)),dS s] [bb ab bf xs 0] (.eN [.one (.c (.int .i64 s.length)),.one (.c .nU)]) [bb ab bf (xs++s) 0]:=by
 cases bf with
 |none =>
  have h:xs.length+s.length=0:=h;have b:xs=[]:=gf (by omega)
  have a:s=[]:=gf (by omega)
  subst b;subst a;exact Rh
 |some p=>exact D9 p.1 p.2 xs s 0 d h.1
def shown(bf:Option (Nat×Nat))(xs:Bs):Nat:=match bf with|none=>0|some _=>xs.length
def NP(bf:Option (Nat×Nat))(xs:Bs)(a:xs.length<=9223372036854775807)(h:Room bf xs.length):Ev X 194 [.e (.one (.ptr 0 0))] [bb ab bf xs 0] (dS xs) [bb ab bf xs (shown bf xs)]:=by
 cases bf with
 |none =>
  have h:xs.length=0:=h;have b:xs=[]:=gf h;subst b;exact NN
 |some p=>exact Ea p.1 p.2 xs 0 a (by have:=h.2;omega)
def FW(l:List Bs)(i:Nat):Bs:=(l.take i).flatten
def Ko{l:List Bs}{i:Nat}(h:i<l.length):FW l (i+1)=FW l i++l.getD i []:=by
 unfold FW;rw[j3,bl h,zi]
 grind
def UH{l:List Bs}:FW l l.length=l.flatten:=by simp[FW]
def Kp{l:List Bs}(i:Nat):(FW l i).length<=l.flatten.length:=by
 have e:l.flatten=(l.take i).flatten++(l.drop i).flatten:=by rw[<-zi,j0]
 rw[e,bG];simp only[FW];omega
def NR(l:List Bs)(t:l.flatten.length<=140737488355328):Ev X 144 [cS.sl l,dS []] [] (dS l.flatten) []:=by
 refine Ev.bQ Tryz.func144 rfl λr=>?_
 have o:=r.sl 0 rfl
 by_cases f:l=[]
 .subst f;refine aX [(14,ab)] 100 rfl ?_ (AK.bo rfl ?_)
  .simp[ag]
  .simp[ag]
 by_cases q:l.length=1
 .obtain⟨x,rfl⟩:=List.length_eq_one_iff.1 q;refine aX [(14,ae),(16,ab)] 100 rfl ?_ (AK.bo rfl ?_)
  .simp[ag]
  .simp[ag,ag.cat,cS,hZ.fn]
 have u:2<=l.length:=by
  have:l.length≠0:=by simpa using f
  omega
 refine aX [(14,ae),(16,ae),(22,ae)] 100 rfl ?_ ?_
 .simp[ag,f];omega
 refine AK.jV (λi=>i<=l.length) (λi:Nat=>[(0,cS.sl l),(1,dS []),(5,dI (FW l i).length),(39,cS.sl l),(40,dI l.length),(41,dI i)]) (λ_=>[]) (λi=>l.length-i) 0 rfl ?_ rfl av (by omega) ?_
 .simp[ag,ag.cat,aR.same,FW]
 .intro i hi;have v:=Kp (l:=l) i
  by_cases h:i<l.length
  .have g:=Kp (l:=l) (i+1);rw[Ko h,bG] at g;refine aX [(42,ab),(49,ae)] 100 rfl ?_ (AK.gm (i+1) rfl ?_ rfl av (by omega) (by omega))
   .have e:(l.getD (i:Int).toNat cS.bC)=l.getD i []:=rfl;simp only[ag,bx,e]
    grind
   .have e:(l.getD (i:Int).toNat cS.bC)=l.getD i []:=rfl;rw[Ko h];rw[e];simp[ag,ag.cat,aR.same]
  .have e:i=l.length:=by omega
   subst e;refine aX [(42,ae),(1000018,ab)] 100 rfl ?_ (AK.leave rfl rfl ?_)
   .simp[ag]
   refine aX [(1000018,ab)] 100 rfl av ?_;refine AK.region ?_;refine AK.law (Kk rfl) rfl rfl ?_;refine dE rfl av ?_;rw[UH];refine AK.cP (Kn l.flatten.length t) [0] rfl (λ_=>rfl) λj=>?_
   obtain⟨bf,d⟩:=j;refine dE rfl ?_ ?_
   .exact⟨by omega,show (0:Int)<(l.length:Int) by omega⟩
   have room:∀ n,n<=l.flatten.length->Room bf n:=λn s=>by
    cases bf with
    |none =>
     have:l.flatten.length=0:=d;show n=0;omega
    |some p=>exact⟨ez s d.1,d.2⟩
   have m:FW l 1=l.getD 0 []:=by rw[Ko (by omega)];simp[FW]
   have b:=Kp (l:=l) 1;rw[m] at b;refine AK.cQ (Eb bf [] (l.getD 0 []) (by omega) (room _ (by simpa using b))) [0] rfl ?_
   refine dE rfl ?_ ?_
   .exact⟨by omega,show (1:Int)<=(l.length:Int) by omega⟩
   refine AK.jV (λi=>i+1<=l.length) (λi:Nat=>[(1,dS []),(8,.e (.one (.ptr 0 0))),(63,.e (.one (.c (.sl ae 1 (l.length-1) (jJ 1 (cS.fn l)))))),(64,dI (l.length-1:Nat)),(65,dI i)]) (λi=>[bb ab bf (FW l (i+1)) 0]) (λi=>l.length-i) 0 rfl ?_ rfl ?_ (by omega) ?_
   .simp[ag,ag.cat,cn,aR.same]
   .refine ag.cat.2 ⟨?_,av⟩;rw[br,m];exact rfl
   intro i hi;have k:=Kp (l:=l) (i+1)
   by_cases h:i+1<l.length
   .have a:=Kp (l:=l) (i+2);rw[Ko h,bG] at a;refine aX [(66,ab)] 100 rfl ?_ ?_
    .exact⟨by omega,by omega,ck (by omega)⟩
    refine AK.cQ (Eb bf (FW l (i+1)) [] (by simp) (room _ (by simpa using k))) [0] rfl ?_
    rw[ik];refine bm rfl av ?_;refine AK.cQ (Eb bf (FW l (i+1)) (l.getD (1+i) []) (by rw[ln 1 i];omega) (room _ (by rw[ln 1 i];exact a))) [0] rfl ?_
    refine bm rfl ?_ (AK.gm (i+1) rfl ?_ rfl ?_ (by omega) (by omega))
    .simp only[ag,bx];omega
    .simp[ag,ag.cat,aR.same]
    .refine ag.cat.2 ⟨?_,av⟩;rw[Ko h,ln 1 i];exact rfl
   .have e:i+1=l.length:=by omega
    refine aX [(66,ae)] 100 rfl ?_ (AK.leave rfl rfl ?_)
    .exact dY (by omega)
    rw[e,UH];refine bm rfl av ?_;refine AK.cQ (NP bf l.flatten (by omega) (room _ (by omega))) [0] rfl ?_
    refine bm rfl av (AK.bo rfl ?_);simp[ag,ag.cat]
def Ha{s:Bs}(h:b8 s=ab)(i:Nat)(hi:i<s.length):97<=cy s i/\cy s i<=122:=by
 have a:=List.all_eq_true.1 h (s.getD i 0) (by grind)
 simp only[eG,bO,bd] at a;unfold cy;omega
def B9(s:Bs)(i:Nat)(a:b8 s=ab)(k:3<=i)(hi:i<=s.length)(g:s.length<=4000000):Ev X 231 [dS s,dI i] [] (dB (k5 s i)) []:=by
 refine Ev.bQ Tryz.func231 rfl λe=>?_
 have f:=Ha a (i-1) (by omega)
 have j:=Ha a (i-2) (by omega)
 have h:=Ha a (i-3) (by omega)
 have d:((iO s ((i:Int)-1)).toNat:Int)=cy s (i-1):=by rw[cu,show ((i:Int)-1).toNat=i-1 by omega]
 have b:((iO s ((i:Int)-2)).toNat:Int)=cy s (i-2):=by rw[cu,show ((i:Int)-2).toNat=i-2 by omega]
 have c:((iO s ((i:Int)-3)).toNat:Int)=cy s (i-3):=by rw[cu,show ((i:Int)-3).toNat=i-3 by omega]
 refine bm rfl ?_ (AK.bo rfl ?_)
 .simp only[ag,bx,d,b,c];omega
 .simp only[ag,ag.cat,d,b,c,k5,dl,aF]
  grind
def Hb:dD X 231 (ow aS aI (λs i=>dB (k5 s i.toNat)) λs i=>[b8 s=ab,3<=i,i<=s.length,s.length<=4000000]):=.qG λs i h=>by
 obtain⟨b,d,c,a⟩:=h;obtain⟨m,rfl⟩:∃ m:Nat,i=m:=⟨i.toNat,by omega⟩
 exact B9 s m b (by omega) (by omega) a
def Ae{o:aw}{j:an->D}{σ:List aW}{x y:an}{k:Array ar}{a b:Int} (m:Int)(h:o.op=.call { callee:=.builtin .min,args:=#[x,y],argTypes:=k })(l:j x=dI a)(n:j y=dI b)(q:min a b=m)(p:bx .i64 m):bF ah o j σ (dI m) σ:=by
 refine .quiet λs ρ r c=>?_
 have d:=c x;have g:=c y;rw[l] at d;rw[n] at g
 replace d:=fC d
 replace g:=fC g
 generalize i:ρ x=vx at d;generalize f:ρ y=vy at g;cases d;cases g;have e:(if b<a then b else a)=m:=by
  rw[<-q];split <;> omega
 exact⟨.int .i64 m,by simp[ay,h,resolve,invoke,builtin,i,f,Builtin.min_,Builtin.min2,e],.int p,by simp[ay,h,resolve,invoke,builtin,i,f,Builtin.min_,Builtin.min2]⟩
def Kz{t:Bs}{f j:Nat}(h:t.length<=f+3+j)(c:j<=5):tb t f (5-j)=min (f+8) t.length:=by
 rcases cx j 5 with a|a
 .obtain⟨k,b⟩:∃ k,5-j=k+1:=⟨4-j,by omega⟩
  rw[b];simp only[tb];rw[bg (by omega)]
  omega
 .rw[show 5-j=0 by omega];rfl
def Hc(t:Bs)(f:Nat)(l:b8 t=ab)(n:f<=t.length)(r:t.length<=4000000):Ev X 221 [dS t,dI f] [] (dI (cutAt t f)) []:=by
 refine Ev.bQ Tryz.func221 rfl λq=>?_
 have a:bD X [(231,ow aS aI (λs i=>dB (k5 s i.toNat)) λs i=>[b8 s=ab,3<=i,i<=s.length,s.length<=4000000])]:=.cons Hb .nil
 refine aE a [] 100 rfl ?_ ?_
 .simp[ag,bx];omega
 refine AK.jV (λj=>j<=5/\tb t f (5-j)=cutAt t f) (λj:Nat=>[(0,dS t),(1,dI f),(5,dI (f+3+j))]) (λ_=>[]) (λj=>5-j) 0 rfl ?_ rfl av ⟨by omega,rfl⟩ ?_
 .simp[ag,ag.cat]
 rintro j ⟨p,b⟩
 by_cases h:j<5/\f+3+j<t.length
 .obtain⟨k,o⟩:∃ k,5-j=k+1:=⟨4-j,by omega⟩
  have d:f+(7-k)=f+3+j:=by omega
  rw[o] at b;simp only[tb,d] at b;rw[aY (by omega)] at b
  have e:((f:Int)+3+j).toNat=f+3+j:=by omega
  cases c:k5 t (f+3+j) with
  |true =>
   rw[c,bg rfl] at b;refine aE a [(11,ab),(16,ab),(22,ab)] 100 rfl ?_ (AK.hY (bZ.zero rfl ?_))
   .simp only[ag,bx,e,c,l,bd,eq_self,aG,aF];omega
   .simp[ag,ag.cat,<-b]
  |false =>
   rw[c,aY (by simp)] at b
   refine aE a [(11,ab),(16,ab),(22,ae)] 100 rfl ?_ (AK.gm (j+1) rfl ?_ rfl av ⟨by omega,by rw[<-b];congr 1;omega⟩ (by omega))
   .simp only[ag,bx,e,c,l,bd,eq_self,aG,aF];omega
   .simp[ag,ag.cat];omega
 .have e:cutAt t f=min (f+8) t.length:=by
   rw[<-b];rcases cx j 5 with g|g
   .exact Kz (by omega) (by omega)
   .rw[show 5-j=0 by omega];rfl
  have m:bx .i64 ((min (f+8) t.length:Nat):Int):=by simp only[bx];omega
  rcases cx j 5 with g|g
  .refine aE a [(11,ab),(16,ae)] 100 rfl ?_ (AK.leave rfl rfl ?_)
   .simp only[ag,bx,bd,bR];omega
   refine aE a [] 100 rfl ?_ ?_
   .simp only[ag,bx];omega
   refine AK.law (Ae ((min (f+8) t.length:Nat):Int) rfl rfl rfl (by omega) m) rfl rfl ?_
   refine aE a [] 100 rfl av (AK.bo rfl ?_);simp[ag,e]
  .refine aE a [(11,ae)] 100 rfl ?_ (AK.leave rfl rfl ?_)
   .simp only[ag,bx,bd,bR];omega
   refine aE a [] 100 rfl ?_ ?_
   .simp only[ag,bx];omega
   refine AK.law (Ae ((min (f+8) t.length:Nat):Int) rfl rfl rfl (by omega) m) rfl rfl ?_
   refine aE a [] 100 rfl av (AK.bo rfl ?_);simp[ag,e]
def Rt:dD X 221 (ow aS aI (λs i=>dI (cutAt s i.toNat)) λs i=>[b8 s=ab,0<=i,i<=s.length,s.length<=4000000]):=.qG λs i h=>by
 obtain⟨b,d,c,a⟩:=h;obtain⟨m,rfl⟩:∃ m:Nat,i=m:=⟨i.toNat,by omega⟩
 exact Hc s m b (by omega) a
end
end Go.AM.R1
namespace Go.AM
def qB{B:aW}{r:List aW}(h:B≠.rq)(k:mr r=ab):mr (B::r)=ab:=by
 cases B <;> first|exact k|exact absurd rfl h
section
variable {P:aq}{X:Cx P}{N:Nat}{Qf:Post}{φ:Fr}{σ:List aW}
def AK.iU{Q a:Post}(h:∀ e φ σ,Q e φ σ->a e φ σ):∀ {K:List It}{e:Exit}{φ:Fr}{σ:List aW},AK X N Q K e φ σ->AK X N a K e φ σ
 |[],e,φ,σ,q=>h e φ σ q
 |.code c::K,.normal,φ,σ,q=>AW.mono q λ_ _ _ q=>AK.iU h q
 |.code c::K,.exit _,φ,σ,q=>AK.iU (K:=K) h q
 |.code c::K,.ret,φ,σ,q=>AK.iU (K:=K) h q
 |.code c::K,.panic _,φ,σ,q=>AK.iU (K:=K) h q
 |.code c::K,.goto _,φ,σ,q=>AK.iU (K:=K) h q
 |.code c::K,.outgrown,φ,σ,q=>AK.iU (K:=K) h q
 |.blk id::K,.exit IM,φ,σ,q=>by
  simp only[AK] at q ⊢;split
  .rename_i e;rw[bg e] at q;exact AK.iU (K:=K) h q
  .rename_i e;rw[aY e] at q;exact AK.iU (K:=K) h q
 |.blk id::K,.normal,φ,σ,q=>AK.iU (K:=K) h q
 |.blk id::K,.ret,φ,σ,q=>AK.iU (K:=K) h q
 |.blk id::K,.panic _,φ,σ,q=>AK.iU (K:=K) h q
 |.blk id::K,.goto _,φ,σ,q=>AK.iU (K:=K) h q
 |.blk id::K,.outgrown,φ,σ,q=>AK.iU (K:=K) h q
 |.ops all rest::K,.normal,φ,σ,q=>jA.mono q λ_ _ q=>AK.iU h q
 |.ops all rest::K,.exit _,φ,σ,q=>AK.iU (K:=K) h q
 |.ops all rest::K,.ret,φ,σ,q=>AK.iU (K:=K) h q
 |.ops all rest::K,.panic _,φ,σ,q=>AK.iU (K:=K) h q
 |.ops all rest::K,.goto _,φ,σ,q=>AK.iU (K:=K) h q
 |.ops all rest::K,.outgrown,φ,σ,q=>AK.iU (K:=K) h q
def AK.QS{id:Nat}{A:Fr->List aW->Prop}{a b c:List It}(h1:kL id a=af)(h2:kL id b=aa c)(k:AK X N Qf c .normal φ σ) :
  AK X N (FK A (AK X N Qf b)) (.code (.exit id)::a) .normal φ σ :=
 AK.iU (λe d σ' q=>by cases e <;> exact q) (AK.leave (X:=X) (N:=N) (Qr:=Qf) (A:=A) (φ:=φ) (σ:=σ) h1 h2 k)
end
end Go.AM
namespace Go.AM.R1
section
open Go.Proofs
variable {X:Cx ah}
abbrev PG(t:Bs):C:=.fn (.func 220) [] [.rp [.str t]]
def NX(t:Bs):Ev X 196 [dS t] [] (.e (.one (.c (PG t)))) []:=by
 refine Ev.bQ Tryz.func196 rfl λa=>?_
 refine aX [] 5 rfl av ?_;refine AK.freeze 1 0 rfl rfl rfl ?_;refine bm rfl av (AK.bo rfl ?_);simp[ag]
def Hd{T:Type}(text:Bs)(u:b8 text=ab)(v:text.length<=4000000){j:Nat}{a:Fr}{l:Loop}(g B1 B2:T->aW)(R:Nat->T->Prop)(k:T)(r:R 0 k)(p:∀ t,g t≠.rq/\B1 t≠.rq/\B2 t≠.rq)
  (b:∀ f t,f<text.length->R f t->Yields (ι:={ d:T // R (cutAt text f) d }) X 3 [dI f,dI (cutAt text f)] [g t,B1 t,B2 t,.loop j a l] ab (λd=>[g d.1,B1 d.1,B2 d.1,.loop j a l])) :
  cD (ι:={ t:T // R text.length t }) X 220 [.e (.one (.ref 3)),.e (.one (.c (.rp [.str text])))] [g k,B1 k,B2 k,.loop j a l] (λ_=>.eN []) (λi=>[g i.1,B1 i.1,B2 i.1,.loop j a l]):=by
 refine cD.n7 Tryz.func220 rfl rfl rfl (AK.of_code ?_);have m:bD X [(221,ow aS aI (λs i=>dI (cutAt s i.toNat)) λs i=>[b8 s=ab,0<=i,i<=s.length,s.length<=4000000])]:=.cons Rt .nil
 refine aE m [] 100 rfl av ?_;show AW X _ (.loop _) _ _ _;refine AW.loop (S:=T×Nat) (λx=>x.2<=text.length/\R x.2 x.1) (λx=>[(0,.e (.one (.ref 3))),(1,.e (.one (.c (.rp [.str text])))),(3,dI x.2)]) (λx=>[g x.1,B1 x.1,B2 x.1,.loop j a l]) (λx=>text.length-x.2) (k,0) ⟨gh _,r⟩ (dC rfl (by simp[ag,ag.cat])) rfl ?_
 rintro⟨t,f⟩ ⟨q,n⟩;simp only at q n;refine AK.of_code ?_
 by_cases h:f<text.length
 .have o:=nt text f h;refine aE m [(8,ab)] 100 rfl ?_ ?_
  .simp only[ag,u,bd,eq_self,aG,aF];omega
  refine AK.yield (b f t h n) rfl rfl rfl rfl rfl rfl λd=>?_
  refine aE m [(16,ae)] 100 rfl ?_ ?_
  .simp[ag]
  refine⟨(d.1,cutAt text f),⟨o.2.1,d.2⟩,?_,dC rfl (by simp[ag,ag.cat]),rfl⟩
  simp only;omega
 .have e:f=text.length:=by omega
  subst e;refine aE m [(8,ae)] 100 rfl ?_ ?_
  .simp[ag]
  refine AK.QS rfl rfl ?_;exact⟨⟨t,n⟩,.inr rfl,rfl,qB (p t).1 (qB (p t).2.1 (qB (p t).2.2 rfl)),[],.eN [],[],rfl,rfl,rfl,av⟩
def FX{l:List Bs}{i:Nat}(h:i<l.length):l.getD i []=l[i]:=by simp[ai,bl h]
def Rl(a b:List Bs):Ev X 146 [cS.sl a,cS.sl b] [] (dB (a==b)) []:=by
 refine Ev.bQ Tryz.func146 rfl λm=>?_
 have k:=m.sl 0 rfl
 by_cases g:a.length=b.length
 .refine aX [(10,ae)] 100 rfl (by simp[ag,g]) ?_
  refine AK.jV (λi=>i<=a.length/\∀ j,j<i->a.getD j []=b.getD j []) (λi:Nat=>[(0,cS.sl a),(1,cS.sl b),(12,dI a.length),(13,dI i)]) (λ_=>[]) (λi=>a.length-i) 0 rfl ?_ rfl av ⟨by omega,by omega⟩ ?_
  .simp[ag.cat,ag,aR.same]
  rintro i ⟨hi,c⟩
  by_cases h:i<a.length
  .by_cases d:a.getD i []=b.getD i []
   .refine aX [(14,ab),(24,ae)] 100 rfl ?_ (AK.gm (i+1) rfl ?_ rfl av ?_ ?_)
    .simp only[ag,bt];have e:(a.getD i cS.bC==b.getD i cS.bC)=ab:=gR.2 d;exact⟨by simp only[bx];omega,by rw[e];rfl,by omega,by omega,by omega,by omega,ck (by omega)⟩
    .simp[ag.cat,ag,aR.same]
    .refine⟨by omega,λj f=>?_⟩
     rcases qR.1 f with f|rfl
     .exact c j f
     .exact d
    .omega
   .refine aX [(14,ab),(24,ab)] 100 rfl ?_ (AK.hY (bZ.zero rfl ?_))
    .simp only[ag,bt];have e:(a.getD i cS.bC==b.getD i cS.bC)=ae:=dv.2 d;exact⟨by rw[e];rfl,by omega,by omega,by omega,by omega,ck (by omega)⟩
    .have:(a==b)=ae:=dv.2 (by rintro rfl;exact d rfl)
     simp[ag,this]
  .refine aX [(14,ae)] 100 rfl (by simp[ag];omega) (AK.leave rfl rfl ?_)
   refine bm rfl av (AK.bo rfl ?_);have:a=b:=pC g λj d l=>by rw[<-FX d,<-FX l];exact c j (by omega)
   simp[ag,this]
 .refine aX [(10,ab)] 100 rfl ?_ (AK.bo rfl ?_)
  .simp[ag];omega
  .have:(a==b)=ae:=dv.2 (by rintro rfl;exact g rfl)
   simp[ag,this]
def lC:∀ (l:List UInt8)(c:UInt8),Lib.indexByte l c<l.length∨Lib.indexByte l c=-1
 |[],c=>.inr (by rw[Lib.indexByte.eq_def])
 |b::l,c=>by
  have d:=lC l c;rw[Lib.indexByte.eq_def];simp only[eQ];split
  .left;omega
  .split
   .right;rfl
   .rename_i e a
    left
    simp at a;omega
set_option maxRecDepth 20000 in
def AU(s:Bs)(c:UInt8):Ev X 239 [dS s,dU c.toNat] [] (dI (Lib.indexByte s c)) []:=by
 refine Ev.bQ Tryz.func239 rfl λq=>?_
 have B:=q.str 0 rfl;refine bm rfl av ?_;refine AK.one (x:=dI (Lib.indexByte s c)) (σ':=[]) ?_ rfl ?_
 .refine OA.lF (λ_ _ _ _=>dq (by rfl)) ?_
  refine bF.nR λst ρ t k=>?_
  have o:=fC (k (.tmp 5));have p:=fC (k (.tmp 6));generalize g:ρ (.tmp 5)=v1 at o;generalize i:ρ (.tmp 6)=v2 at p;cases o with
  |str e1 l1 =>
  cases p with
  |int l2 =>
  have j:ρ (.func 246)=.func (.func 246) #[] #[]:=by
   have:=fC (k (.func 246));generalize ρ (.func 246)=v at this;cases this with
   |fn fs cs a b z r C c2 d1 d2 =>
    have:fs=[]:=gf a;subst this;have:cs=[]:=gf b;subst this;rfl
  have f:(callFunc 246 #[.string ‹ByteArray›,.int .u8 c.toNat]).run ah st.w=.ok (.value (.int .i64 (Lib.indexByte s c))) st.w:=by
   rw[run_callFunc_extern Tryz.func246 (by kernel_rfl) (by kernel_rfl) (by kernel_rfl) (e:=Extern.BytealgIndexByte.indexByte) (by kernel_rfl),Lib.run_indexByteString]
   subst e1;simp
  have l:cK ah (Extern.BytealgIndexByte.indexByte #[.string ‹ByteArray›,.int .u8 c.toNat]):=by
   refine cK.bind (m:=Extern.Bytes.bytesOf (.string ‹ByteArray›)) (λ_ _=>rfl) λb=>cK.bind (m:=Extern.Bytes.asByte (.int .u8 c.toNat)) (λ_ _=>?_) λd=>?_
   .simp[Extern.Bytes.asByte]
   .skip
    split <;> exact .pure
  have h:=lM Tryz.func246 (by kernel_rfl) (by kernel_rfl) (by kernel_rfl) (e:=Extern.BytealgIndexByte.indexByte) (by kernel_rfl) _ l st.w #[]
  refine⟨.int .i64 (Lib.indexByte s c),?_,Rd.int ?_,?_⟩
  rotate_left 2
  .intro u n;simp[ay,resolve,Deferred.ofValue,invoke,g,i,j,h] at n;subst n;exact .inr ⟨_,rfl⟩
  .simp[ay,resolve,Deferred.ofValue,invoke,g,i,j,f]
  .have y:=Lib.indexByte_ge s c;have A:=lC s c;simp only[bx];omega
 .refine bm rfl av (AK.bo rfl ?_);simp[ag]
end
end Go.AM.R1
namespace Go.AM
abbrev OQ(a b:Bs)(c:Bool):D:=.eN [.one (.c (.str a)),.one (.c (.str b)),.one (.c (.bool c))]
namespace R1
open Go.Proofs
variable {X:Cx ah}
def xX(s:Bs) (c:Int)(h:0<=c/\c<=255):Ev X 239 [dS s,dU c] [] (dI (Lib.indexByte s (UInt8.ofNat (Int.toNat c)))) []:=by
 have e:c=((UInt8.ofNat c.toNat).toNat:Int):=by
  rw[UInt8.toNat_ofNat'];omega
 have:=AU (X:=X) s (UInt8.ofNat c.toNat);rw[<-e] at this;exact this
def Sp:dg:=λargs σ=>match args,σ with
 |[.e (.one (.c (.str a))),.e (.one (.c (.int .u8 b)))],[]=>aa (dI (Lib.indexByte a (UInt8.ofNat (Int.toNat b))),[],[0<=b/\b<=255])
 |_,_=>af
def t239:dD X 239 Sp:=by
 intro args σ res σ' obs h a;unfold Sp at h;split at h
 .cases h;exact(xX _ _ (a)).args (λ_ _ r=>r)
 .cases h
def VE:List (Nat×dg):=(239,Sp)::ct7
def L6:bD X VE:=bD.cons t239 (Zj)
def iB(s:Bs):Int:=Lib.indexByte s 47
def L8(s:Bs):Ev X 232 [dS s,dS [47]] [] (dI (iB s)) []:=by
 refine Ev.bQ Tryz.func232 rfl λa=>?_
 by_cases h:s=[47]
 .subst h;refine aE L6 [(18,ae),(22,ab)] 100 rfl ?_ (AK.bo rfl ?_)
  .simp[ag]
  .simp[ag,iB,Lib.indexByte.eq_def]
 .refine aE L6 [(18,ae),(22,ae),(26,ab)] 100 rfl ?_ (AK.bo rfl ?_)
  .simp[ag,cu,cy];exactλe=>h e.symm
  .simp[ag,iB,iO]
def Sq:dg:=λargs σ=>match args,σ with
 |[.e (.one (.c (.str a))),.e (.one (.c (.str [47])))],[]=>aa (dI (iB a),[],[])
 |_,_=>af
def t232:dD X 232 Sq:=by
 intro args σ res σ' obs h a;unfold Sq at h;split at h
 .cases h;exact L8 _
 .cases h
def VF:List (Nat×dg):=(232,Sq)::VE
def L9:bD X VF:=bD.cons t232 (L6)
def jy(s:Bs):Bs:=if 0<=iB s then s.take (iB s).toNat else s
def mI(s:Bs):Bs:=if 0<=iB s then s.drop ((iB s).toNat+1) else []
def jY(s:Bs):Bool:=decide (0<=iB s)
def Ma(s:Bs):Ev X 222 [dS s,dS [47]] [] (OQ (jy s) (mI s) (jY s)) []:=by
 refine Ev.bQ Tryz.func222 rfl λb=>?_
 have d:=b.str 0 rfl;have a:=lC s 47
 change iB s<s.length∨iB s=-1 at a
 by_cases h:0<=iB s
 .have c:(iB s+1).toNat=(iB s).toNat+1:=by omega
  refine aE L9 [(12,ab)] 100 rfl ?_ (AK.bo rfl ?_)
  .simp[ag,h,bx];omega
  .simp[ag,ag.cat,jy,mI,jY,h,rP,c]
 .refine aE L9 [(12,ae)] 100 rfl ?_ (AK.bo rfl ?_)
  .simp[ag];omega
  .simp[ag,ag.cat,jy,mI,jY,h]
def Sr:dg:=λargs σ=>match args,σ with
 |[.e (.one (.c (.str a))),.e (.one (.c (.str [47])))],[]=>aa (OQ (jy a) (mI a) (jY a),[],[])
 |_,_=>af
def t222:dD X 222 Sr:=by
 intro args σ res σ' obs h a;unfold Sr at h;split at h
 .cases h;exact Ma _
 .cases h
def VG:List (Nat×dg):=(222,Sr)::VF
def PX:bD X VG:=bD.cons t222 (L9)
def Ss(s:Bs):Ev X 197 [dS s,dS [47]] [] (OQ (jy s) (mI s) (jY s)) []:=by
 refine Ev.bQ Tryz.func197 rfl λa=>?_
 refine aE PX [] 100 rfl av (AK.bo rfl ?_);simp[ag,ag.cat]
def Su:dg:=λargs σ=>match args,σ with
 |[.e (.one (.c (.str a))),.e (.one (.c (.str [47])))],[]=>aa (OQ (jy a) (mI a) (jY a),[],[])
 |_,_=>af
def t197:dD X 197 Su:=by
 intro args σ res σ' obs h a;unfold Su at h;split at h
 .cases h;exact Ss _
 .cases h
def cq(s:Bs):Bool:=decide (s.length=1)&&decide (97<=cy s 0)&&decide (cy s 0<=101)
def uF(s:Bs):Ev X 198 [dS s] [] (dB (cq s)) []:=by
 refine Ev.bQ Tryz.func198 rfl λc=>?_
 by_cases a:s.length=1
 .by_cases b:97<=cy s 0
  .refine aX [(5,ab),(9,ab)] 100 rfl ?_ (AK.bo rfl ?_)
   .simp only[ag,bd];simp[a,cu,b]
   .show decide (cy s 0<=101)=cq s;simp[cq,a,b]
  .refine aX [(5,ab),(9,ae)] 100 rfl ?_ (AK.bo rfl ?_)
   .simp only[ag,bR];simp[a,cu];omega
   .simp[ag,cq,b]
 .refine aX [(5,ae)] 100 rfl ?_ (AK.bo rfl ?_)
  .simp[ag];omega
  .simp[ag,cq,a]
def Sv:dg:=λargs σ=>match args,σ with
 |[.e (.one (.c (.str a)))],[]=>aa (dB (cq a),[],[])
 |_,_=>af
def t198:dD X 198 Sv:=by
 intro args σ res σ' obs h a;unfold Sv at h;split at h
 .cases h;have _:=a;exact(uF _ ).args (λ_ _ r=>r)
 .cases h
def VH:List (Nat×dg):=(197,Su)::(198,Sv)::VG
def Gp:bD X VH:=bD.cons t197 (bD.cons t198 (PX))
def eH(s:Bs):Bool:=cq (jy s)&&(!jY s||cq (mI s))
def E5(s:Bs):Ev X 148 [dS s] [] (dB (eH s)) []:=by
 refine Ev.bQ Tryz.func148 rfl λc=>?_
 cases a:cq (jy s) with
 |false =>
  refine aE Gp [(13,ae)] 100 rfl ?_ (AK.bo rfl ?_)
  .simp[ag,a]
  .simp[ag,eH,a]
 |true =>
  cases b:jY s with
  |false =>
   refine aE Gp [(13,ab),(15,ae)] 100 rfl ?_ (AK.bo rfl ?_)
   .simp[ag,a,b]
   .simp[ag,eH,a,b]
  |true =>
   refine aE Gp [(13,ab),(15,ab)] 100 rfl ?_ (AK.bo rfl ?_)
   .simp[ag,a,b]
   .simp[ag,eH,a,b]
def Sw:dg:=λargs σ=>match args,σ with
 |[.e (.one (.c (.str a)))],[]=>aa (dB (eH a),[],[])
 |_,_=>af
def t148:dD X 148 Sw:=by
 intro args σ res σ' obs h a;unfold Sw at h;split at h
 .cases h;have _:=a;exact(E5 _ ).args (λ_ _ r=>r)
 .cases h
def C0(s:Bs):Ev X 195 [dS s] [] (dB (b8 s)) []:=by
 refine Ev.bQ Tryz.func195 rfl λe=>?_
 have k:=e.str 0 rfl;refine bm rfl av ?_;refine AK.jV (λi=>i<=s.length/\∀ j,j<i->eG (s.getD j 0)=ab) (λi:Nat=>[(0,dS s),(5,dI s.length),(6,dI i)]) (λ_=>[]) (λi=>s.length-i) 0 rfl ?_ rfl av ⟨by omega,by omega⟩ ?_
 .simp[ag.cat,ag]
 rintro i ⟨hi,a⟩
 by_cases h:i<s.length
 .generalize c:s.getD i 0=b
  by_cases f:b.toNat<97
  .refine aX [(7,ab),(12,ab)] 100 rfl ?_ (AK.hY (bZ.zero rfl ?_))
   .simp only[ag,kt,bd,c];omega
   .rw[ag,kE h (by rw[c];simp only[eG,qV,bR];omega)]
  .by_cases g:b.toNat>122
   .refine aX [(7,ab),(12,ae),(17,ab)] 100 rfl ?_ (AK.hY (bZ.zero rfl ?_))
    .simp only[ag,kt,bd,bR,c];omega
    .rw[ag,kE h (by rw[c];simp only[eG,qV,bR];omega)]
   .refine aX [(7,ab),(12,ae),(17,ae)] 100 rfl ?_ (AK.gm (i+1) rfl ?_ rfl av ?_ ?_)
    .simp only[ag,kt,bd,bR,c,bx];omega
    .simp[ag.cat,ag]
    .refine⟨by omega,λj d=>?_⟩
     rcases qR.1 d with d|rfl
     .exact a j d
     .rw[c];simp only[eG,bO,bd];omega
    .omega
 .refine aX [(7,ae)] 100 rfl (by simp[ag];omega) (AK.leave rfl rfl ?_)
  refine bm rfl av (AK.bo rfl ?_);rw[ag,sA (λj d=>a j (by omega))]
def Sx:dg:=λargs σ=>match args,σ with
 |[.e (.one (.c (.str a)))],[]=>aa (dB (b8 a),[],[])
 |_,_=>af
def t195:dD X 195 Sx:=by
 intro args σ res σ' obs h a;unfold Sx at h;split at h
 .cases h;have _:=a;exact(C0 _ ).args (λ_ _ r=>r)
 .cases h
def VI:List (Nat×dg):=(148,Sw)::(195,Sx)::VH
def Mb:bD X VI:=bD.cons t148 (bD.cons t195 (Gp))
def wD(s:Bs):Ev X 145 [dS s] [] (dB (dN s)) []:=by
 refine Ev.bQ Tryz.func145 rfl λb=>?_
 by_cases a:s.length<=40
 .refine aE Mb [(5,ab)] 100 rfl ?_ (AK.bo rfl ?_)
  .simp[ag];omega
  .simp[ag,dN,a]
 .refine aE Mb [(5,ae)] 100 rfl ?_ (AK.bo rfl ?_)
  .simp[ag];omega
  .simp[ag,dN,a]
def Sy:dg:=λargs σ=>match args,σ with
 |[.e (.one (.c (.str a)))],[]=>aa (dB (dN a),[],[])
 |_,_=>af
def t145:dD X 145 Sy:=by
 intro args σ res σ' obs h a;unfold Sy at h;split at h
 .cases h;have _:=a;exact(wD _ ).args (λ_ _ r=>r)
 .cases h
def k8(s p:Bs):Bool:=decide (p.length<=s.length)&&(s.take p.length==p)
def C1(s p:Bs):Ev X 200 [dS s,dS p] [] (dB (k8 s p)) []:=by
 refine Ev.bQ Tryz.func200 rfl λb=>?_
 by_cases a:p.length<=s.length
 .refine aX [(9,ab)] 100 rfl ?_ (AK.bo rfl ?_)
  .simp[ag,a]
  .simp[ag,k8,a,rP]
 .refine aX [(9,ae)] 100 rfl ?_ (AK.bo rfl ?_)
  .simp[ag];omega
  .simp[ag,k8,a]
def Sz:dg:=λargs σ=>match args,σ with
 |[.e (.one (.c (.str a))),.e (.one (.c (.str b)))],[]=>aa (dB (k8 a b),[],[])
 |_,_=>af
def t200:dD X 200 Sz:=by
 intro args σ res σ' obs h a;unfold Sz at h;split at h
 .cases h;have _:=a;exact(C1 _ _ ).args (λ_ _ r=>r)
 .cases h
def VJ:List (Nat×dg):=(145,Sy)::(200,Sz)::VI
def PY:bD X VJ:=bD.cons t145 (bD.cons t200 (Mb))
def Ik(s p:Bs):Ev X 151 [dS s,dS p] [] (dB (k8 s p)) []:=by
 refine Ev.bQ Tryz.func151 rfl λa=>?_
 refine aE PY [] 100 rfl av (AK.bo rfl ?_);simp[ag]
def SA:dg:=λargs σ=>match args,σ with
 |[.e (.one (.c (.str a))),.e (.one (.c (.str b)))],[]=>aa (dB (k8 a b),[],[])
 |_,_=>af
def t151:dD X 151 SA:=by
 intro args σ res σ' obs h a;unfold SA at h;split at h
 .cases h;have _:=a;exact(Ik _ _ ).args (λ_ _ r=>r)
 .cases h
def VK:List (Nat×dg):=(151,SA)::VJ
def PZ:bD X VK:=bD.cons t151 (PY)
end R1
def hZ.Mc{α:Type}(c:hZ α)(l:List α)(k n:Nat)(h:k+n<=l.length):c.list n (jJ k (c.fn l))=(l.drop k).take n:=by
 apply pC
 .simp[hZ.list];omega
 .intro i h1 h2;have hi:i<n:=by simpa[hZ.list] using h1
  simp[hZ.list,jJ,hZ.fn,sH,ai,bl (by omega:k+i<l.length),c.inv]
def hZ.Md{α:Type}(c:hZ α)(l:List α){k n:Nat}:c.fits n (jJ k (c.fn l)):=λi _=>by simp[jJ,hZ.fn,sH,c.inv]
abbrev dR(p x:Bs):D:=.e (.one (.c (.rp [.str p,.str x])))
namespace R1
open Go.Proofs
variable {X:Cx ah}
def under(p q:Bs):Bool:=k8 p (q++[47])
def Me(a:bE)(p x:Bs)(h:a.1.length<=4000000):Ev X 150 [dP a,dR p x] [] (dB (under p a.1)) []:=by
 refine Ev.bQ Tryz.func150 rfl λb=>?_
 refine aE PZ [] 100 rfl ?_ (AK.bo rfl ?_)
 .simp[ag];omega
 .simp[ag,under]
def SB:dg:=λargs σ=>match args,σ with
 |[.e (.agg [.c (.str a0),.c (.str a1)]),.e (.one (.c (.rp [.str p,.str x])))],[]=>aa (dB (under p a0),[],[a0.length<=4000000/\a1=a1/\x=x])
 |_,_=>af
def t150:dD X 150 SB:=by
 intro args σ res σ' obs h a;unfold SB at h;split at h
 .rename_i c b p x
  cases h;exact Me (c,b) p x a.1
 .cases h
def VL:List (Nat×dg):=(150,SB)::VK
def y0:bD X VL:=bD.cons t150 (PZ)
abbrev Mf(p x:Bs):D:=.e (.one (.c (.fn (.func 150) [] [.rp [.str p,.str x]])))
def uG(t:List bE)(p:Bs):Int:=match t.findIdx? (λf=>under p f.1) with|some i=>i|none=>-1
def OR{t:List bE}{p:Bs}{i:Nat}(hi:i<t.length)(h:under p (fu t i)=ab)(a:∀ j,j<i->under p (fu t j)=ae):uG t p=i:=by
 have:t.findIdx? (λf=>under p f.1)=aa i:=by
  rw[vm];refine⟨hi,?_,λj b=>?_⟩
  .rw[fileAt hi];exact h
  .rw[fileAt (by omega:j<t.length)];simp[a j b]
 rw[uG,this]
def y3{t:List bE}{p:Bs}(a:∀ j,j<t.length->under p (fu t j)=ae):uG t p=-1:=by
 have:t.findIdx? (λf=>under p f.1)=af:=by
  rw[uI];intro f c;obtain⟨j,b,rfl⟩:=dX c;rw[fileAt b];exact a j b
 rw[uG,this]
def OS(t:List bE)(p x:Bs)(d:∀ j,j<t.length->(fu t j).length<=4000000):Ev X 199 [cF.sl t,Mf p x] [] (dI (uG t p)) []:=by
 refine Ev.bQ Tryz.func199 rfl λe=>?_
 have c:=e.sl 0 rfl;refine aE y0 [] 100 rfl av ?_;refine AK.jV (λi=>i<=t.length/\∀ j,j<i->under p (fu t j)=ae) (λi:Nat=>[(0,cF.sl t),(1,Mf p x),(7,dI t.length),(8,dI i)]) (λ_=>[]) (λi=>t.length-i) 0 rfl ?_ rfl av ⟨by omega,by omega⟩ ?_
 .simp[ag.cat,ag,aR.same]
 rintro i ⟨hi,a⟩
 by_cases h:i<t.length
 .have f:=d i h;cases b:under p (fu t i) with
  |true =>
   refine aE y0 [(9,ab),(16,ab)] 100 rfl ?_ (AK.hY (bZ.zero rfl ?_))
   .simp[-ai,ag,h,gZ,b];omega
   .simp[ag,OR h b a]
  |false =>
   refine aE y0 [(9,ab),(16,ae)] 100 rfl ?_ (AK.gm (i+1) rfl ?_ rfl av ?_ ?_)
   .simp[-ai,ag,h,gZ,b,bx];omega
   .simp[ag.cat,ag,aR.same]
   .grind
   .omega
 .refine aE y0 [(9,ae)] 100 rfl (by simp[ag];omega) (AK.leave rfl rfl ?_)
  refine aE y0 [] 100 rfl av (AK.bo rfl ?_);simp[ag,y3 (λj g=>a j (by omega))]
def AV(t:List bE):Prop:=∀ j,j<t.length->(fu t j).length<=4000000
def SC:dg:=λargs σ=>match args,σ with
 |[d,.e (.one (.c (.fn (.func 150) [] [.rp [.str p,.str x]])))],[]=>match lh 2 d with
  |none=>af
  |some (n,es)=>aa (dI (uG (cF.list n es) p),[],[cF.fits n es,AV (cF.list n es),x=x])
 |_,_=>af
def t199:dD X 199 SC:=by
 intro args σ res σ' obs h a;unfold SC at h;split at h
 .rename_i d p x
  split at h
  .cases h
  rename_i n es hd
  cases h;exact(OS _ p x a.2.1).args (λ_ vs=>cv.imp (λ_=>cF.kn hd a.1) (cv.imp (λ_ r=>r) (λ_ r=>r)) vs)
 .cases h
def VM:List (Nat×dg):=(199,SC)::VL
def P0:bD X VM:=bD.cons t199 (y0)
def OT(t:List bE)(p x:Bs)(a:AV t):Ev X 149 [cF.sl t,Mf p x] [] (dB (decide (0<=uG t p))) []:=by
 refine Ev.bQ Tryz.func149 rfl λb=>?_
 refine aE P0 [] 100 rfl ?_ (AK.bo rfl ?_)
 .simp[ag,cF.aH,cF.list_fn,a]
 .simp[ag,cF.list_fn]
def SD:dg:=λargs σ=>match args,σ with
 |[d,.e (.one (.c (.fn (.func 150) [] [.rp [.str p,.str x]])))],[]=>match lh 2 d with
  |none=>af
  |some (n,es)=>aa (dB (decide (0<=uG (cF.list n es) p)),[],[cF.fits n es,AV (cF.list n es),x=x])
 |_,_=>af
def t149:dD X 149 SD:=by
 intro args σ res σ' obs h a;unfold SD at h;split at h
 .rename_i d p x
  split at h
  .cases h
  rename_i n es hd
  cases h;exact(OT _ p x a.2.1).args (λ_ vs=>cv.imp (λ_=>cF.kn hd a.1) (cv.imp (λ_ r=>r) (λ_ r=>r)) vs)
 .cases h
def Zk:List (Nat×dg):=(149,SD)::VM
def qn:bD X Zk:=bD.cons t149 (P0)
def je(t:List bE)(i:Nat):Bool :=
 eH (fu t i)&&dN (Aw t i)&&(i==0||!(bk (fu t i) (fu t (i-1))||fu t i==fu t (i-1)))&&(bh i).all λj=>!under (fu t i) (fu t j)
def oe(t:List bE):Bool:=(bh t.length).all (je t)&&decide (t.length<=6)
def kF{t:List bE}{i:Nat}(hi:i<t.length)(h:je t i=ae):oe t=ae:=by
 cases a:oe t with
 |false=>rfl
 |true =>
  simp only[oe,bO] at a
  grind
def tZ{s:Bs}(h:eH s=ab):s.length<=3:=by
 simp only[eH,cq,bO,mP,bd,jg] at h;obtain⟨⟨⟨d,_⟩,_⟩,a⟩:=h;have c:=lC s 47
 change iB s<s.length∨iB s=-1 at c
 by_cases b:0<=iB s
 .simp only[jy,b,cj,List.length_take] at d;rcases a with a|a
  .simp[jY,b] at a
  .have:=a.1.1;simp only[mI,b,cj,mO] at this;omega
 .simp only[jy,b,b5] at d;omega
def E6{t:List bE}{p:Bs}{i:Nat}(hi:i<=t.length):decide (0<=uG (t.take i) p)=!(bh i).all λj=>!under p (fu t j):=by
 have e:∀ j,j<i->fu (t.take i) j=fu t j:=by
  intro j b;simp[fu,ai,b]
 cases g:(bh i).all λj=>!under p (fu t j) with
 |true =>
  have:=b6.1 g;rw[y3 (λj b=>by
   grind)]
  simp
 |false =>
  have c:∃ j,j<i/\under p (fu t j)=ab:=by
   grind
  have:∃ k:Nat,uG (t.take i) p=k:=by
   unfold uG;cases d:(t.take i).findIdx? (λf=>under p f.1) with
   |some k=>exact⟨k,rfl⟩
   |none =>
    obtain⟨j,b,h⟩:=c;rw[uI] at d;have a:j<(t.take i).length:=by simp;omega
    have:=d _ (nH a);rw[fileAt a] at this
    grind
  grind
def El(t:List bE):Ev X 116 [cF.sl t] [] (dB (oe t)) []:=by
 refine Ev.bQ Tryz.func116 rfl λy=>?_
 have w:=y.sl 0 rfl;refine aE qn [] 100 rfl av ?_;refine AK.bJ 0 (λi=>i<=t.length/\∀ j,j<i->je t j=ab) (λi:Nat=>[(0,cF.sl t),(5,cF.sl t),(6,dI t.length),(7,dI i)]) (λ_=>[]) (λi=>t.length-i) 0 rfl ?_ rfl av rfl ⟨by omega,by omega⟩ ?_
 .simp[ag.cat,ag,aR.same]
 rintro i ⟨hi,l⟩
 by_cases h:i<t.length
 .cases d:eH (fu t i) with
  |false =>
   refine aE qn [(8,ab),(14,ae)] 200 rfl ?_ (AK.ee (bZ.zero rfl ?_))
   .simp[-ai,ag,h,gZ,d]
   .simp[ag,kF h (by simp[je,d])]
  |true =>
   cases f:dN (Aw t i) with
   |false =>
    refine aE qn [(8,ab),(14,ab),(19,ae)] 200 rfl ?_ (AK.ee (bZ.zero rfl ?_))
    .simp[-ai,ag,h,gZ,pw,d,f]
    .simp[ag,kF h (by simp[je,f])]
   |true =>
    have q:AV (t.take i):=by
     intro j z;simp only[List.length_take] at z;have e:fu (t.take i) j=fu t j:=by simp[fu,ai,(by omega:j<i)]
     rw[e];have:=l j (by omega)
     simp only[je,bO] at this;have:=tZ this.1.1.1;omega
    have k:cF.list ((i:Int).toNat-0) (jJ 0 (cF.fn t))=t.take i:=by rw[cF.Mc t 0 _ (by simp;omega)];simp
    cases m:(i==0||!(bk (fu t i) (fu t (i-1))||fu t i==fu t (i-1))) with
    |false =>
     have a:je t i=ae:=by simp only[je,m];simp
     have o:i≠0:=by rintro rfl;simp at m
     have s:(bk (fu t i) (fu t (i-1))||fu t i==fu t (i-1))=ab:=by
      grind
     have b:bx .i64 ((i:Int)-1):=by simp only[bx];omega
     have u:((i:Int)-1).toNat=i-1:=by omega
     refine aE qn [(8,ab),(14,ab),(19,ab),(24,ab),(34,ab)] 200 rfl ?_ (AK.ee (bZ.zero rfl ?_))
     .simp only[ag,gZ,pw,bt,u,s,d,f,bd,b];simp;omega
     .simp[ag,kF h a]
    |true =>
     have a:je t i=(bh i).all λj=>!under (fu t i) (fu t j):=by simp only[je,m,d,f];simp
     apply AK.join [(0,cF.sl t),(3,dI i),(5,cF.sl t),(6,dI t.length),(7,dI i),(4,.e (.one (.ptr 0 0)))] [.cells 129 [.c (.str (fu t i)),.c (.str (Aw t i))]]
     .intro v
      by_cases o:i=0
      .refine aE qn [(8,ab),(14,ab),(19,ab),(24,ae),(1000006,ab)] 200 rfl ?_ (v _ _ rfl ?_)
       .simp only[ag,gZ,pw,bt,d,f,bd,bR];simp;omega
       .simp[ag.cat,ag,aR.same]
      .have s:(bk (fu t i) (fu t (i-1))||fu t i==fu t (i-1))=ae:=by
        grind
       have b:bx .i64 ((i:Int)-1):=by simp only[bx];omega
       have u:((i:Int)-1).toNat=i-1:=by omega
       refine aE qn [(8,ab),(14,ab),(19,ab),(24,ab),(34,ae),(1000006,ab)] 200 rfl ?_ (v _ _ rfl ?_)
       .simp only[ag,gZ,pw,bt,u,s,d,f,bd,b];simp;omega
       .simp[ag.cat,ag,aR.same]
     .refine AK.freeze 4 0 rfl rfl rfl ?_;have r:=E6 (t:=t) (p:=fu t i) (i:=i) hi;have g:cF.fits ((i:Int).toNat-0) (jJ 0 (cF.fn t)):=cF.Md t;cases x:(bh i).all λj=>!under (fu t i) (fu t j) with
      |false =>
       rw[x] at r a;refine aE qn [(41,ab)] 200 rfl ?_ (AK.ee (bZ.zero rfl ?_))
       .simp only[ag,cn]
        grind
       .simp[ag,kF h a]
      |true =>
       rw[x] at r a;refine aE qn [(41,ae)] 200 rfl ?_ (AK.aQ (i+1) rfl ?_ ?_ ?_ ?_)
       .simp only[ag,cn];have n:decide (0<=uG (cF.list ((i:Int).toNat-0) (jJ 0 (cF.fn t))) (fu t i))=ae:=by rw[k];exact r
        exact⟨by simp only[bx];omega,g,by rw[k];exact q,av,n,by omega,by omega⟩
       .simp[ag.cat,ag,aR.same]
       .trivial
       .grind
       .omega
 .have:i=t.length:=by omega
  subst this;refine aE qn [(8,ae)] 100 rfl (by simp[ag]) (AK.leaveD rfl rfl ?_)
  refine aE qn [] 100 rfl av (AK.bo rfl ?_);simp only[ag,oe]
  grind
end R1
end Go.AM
namespace Go.AM.R1
section
open Go.Proofs
variable {X:Cx ah}
def ly(t:Bs):List Bs:=if dN t then pieces t else []
def PH(t:Bs)(f:Nat)(acc:List Bs):Prop:=∃ k,fb t t.length 0=acc++fb t k f/\t.length<=f+k/\acc.length<=f
def FZ:dD X 145 (kN aS (λs=>dB (dN s)) λ_=>[]):=.oH λs _=>wD s
def KA:dg:=λargs σ=>match args,σ with
 |[.e (.one (.c (.str t)))],[]=>aa (.e (.one (.c (PG t))),[],[])
 |_,_=>af
def Ru:dD X 196 KA:=by
 intro args σ res σ' obs h a;unfold KA at h;split at h
 .cases h;exact NX _
 .cases h
def He(t:Bs):Ev X 147 [dS t] [] (cS.sl (ly t)) []:=by
 refine(cD.DX (ι:=Unit) (σ':=λ_=>[]) (res:=λ_=>cS.sl (ly t)) Tryz.func147 rfl rfl rfl λr=>?_).ux
 have l:bD X [(145,kN aS (λs=>dB (dN s)) λ_=>[])]:=.cons FZ .nil
 refine qe.seq (AW.top (AK.of_code ?_));refine aE l [] 100 rfl av ?_;refine qe.seq (AW.top (AK.of_code ?_));cases b:dN t with
 |false =>
  refine aE l [(8,ab)] 100 rfl ?_ (AK.ret ⟨(),bZ.zero rfl ?_⟩)
  .simp[ag,b]
  .simp[ag,ag.cat,ly,b]
 |true =>
  have g:=b;simp only[dN,bO,bd] at g;refine aE l [(8,ae)] 100 rfl ?_ ?_
  .simp[ag,b]
  refine qe.seq (AW.top (AK.of_code ?_));refine aE l [] 100 rfl av ?_;refine qe.seq (qe.seq (AW.top (AK.of_code (AK.gi 1 0 9 1 (cS.fn []) rfl rfl ?_))));refine aE (.cons Ru .nil) [] 100 rfl av ?_;refine qe.block ?_;refine qe.rangeFunc (capD:=gj [.rp [.str t]]) (cp.callee rfl) (Hd (T:=List Bs) t g.2 (by omega) (λ_=>.cells 9 [.c (.str t)]) (λacc=>.cells 139 [.vec 2 1 acc.length (cS.fn acc)]) (λacc=>.vec 9 1 acc.length (cS.fn acc)) (PH t) [] ?_ (λt=>⟨by simp,by simp,by simp⟩) ?_) (λi=>⟨rfl,by simp⟩) λi=>⟨.normal,rfl,?_⟩
  .exact⟨t.length,by simp,by omega,by simp⟩
  .rintro f acc hf hR;have h:=nt t f hf;refine Yields.intro (j:=af) rfl rfl rfl rfl (AK.of_code ?_);refine bm rfl av ?_;refine⟨rfl,rfl,AK.of_code ?_⟩;refine bm rfl ?_ ?_
   .obtain⟨k,_,_,p⟩:=hR;have v:=h.1;have u:=h.2.1;refine⟨rfl,rfl,?_,Int.natCast_nonneg _,Int.ofNat_le.2 (Nat.le_of_lt v),Int.ofNat_le.2 u⟩;show (acc.length+1)*16<=_;omega
   have n:PH t (cutAt t f) (acc++[(t.drop f).take (cutAt t f-f)]):=by
    obtain⟨k,m,q,p⟩:=hR;obtain⟨k',rfl⟩:∃ k',k=k'+1:=⟨k-1,by omega⟩
    refine⟨k',?_,by omega,by grind⟩
    rw[m];simp only[fb];rw[bg hf];simp
   refine⟨rfl,rfl,⟨_,n⟩,mD rfl ?_⟩;have e:rP t (aa (f:Int)) (aa (cutAt t f:Int))=(t.drop f).take (cutAt t f-f):=by simp[rP,List.drop_take]
   have o:aR (acc.length+1) (cJ acc.length (cS.fn acc) λi=>[[C.str (rP t (aa (f:Int)) (aa (cutAt t f:Int)))]].getD i []) (cS.fn (acc++[(t.drop f).take (cutAt t f-f)])):=by
    rw[e];exact hZ.cm cS acc _
   have a:acc.length+1=(acc++[(t.drop f).take (cutAt t f-f)]).length:=by simp
   refine ag.cat.2 ⟨by simp[ag,ag.cat],ag.cat.2 ⟨ag.cat.2 ⟨⟨a,o⟩,av⟩,ag.cat.2 ⟨⟨a,o⟩,ag.cat.2 ⟨rfl,av⟩⟩⟩⟩
  .obtain⟨acc,k,m,q,p⟩:=i;have d:fb t k t.length=[]:=by cases k <;> simp[fb]
   rw[d,ik] at m;have e:ly t=acc:=by simp only[ly,b,cj,pieces,m]
   rw[e];show qe X _ _ _ _ _;refine AW.top (AK.of_code ?_);refine bm rfl av ?_;refine AK.ret ⟨(),bZ.zero rfl ?_⟩;exact⟨rfl,aR.same⟩
def NY:dD X 147 (kN aS (λs=>cS.sl (ly s)) λ_=>[]):=.oH λs _=>He s
def UM:dD X 144 (ow (aL cS) aS (λl _=>dS l.flatten) λl s=>[s=[],l.flatten.length<=140737488355328]):=.qG λl s h=>by
 obtain⟨rfl,h⟩:=h;exact NR l h
def NZ:dg:=ow (aL cS) (aL cS) (λa b=>dB (a==b)) λ_ _=>[]
def Yc:dD X 146 NZ:=.qG λa b _=>Rl a b
def Ek(l:List Bs)(h:l.flatten.length<=140737488355328):Ev X 115 [cS.sl l] [] (Ac (fM l)) []:=by
 refine Ev.bQ Tryz.func115 rfl λd=>?_
 have c:bD X [(144,ow (aL cS) aS (λl _=>dS l.flatten) λl s=>[s=[],l.flatten.length<=140737488355328]),(145,kN aS (λs=>dB (dN s)) λ_=>[]),(146,NZ),(147,kN aS (λs=>cS.sl (ly s)) λ_=>[])]:=.cons UM (.cons FZ (.cons Yc (.cons NY .nil)))
 have el:cS.list l.length (cS.fn l)=l:=cS.list_fn l;cases a:dN l.flatten with
 |false =>
  refine aE c [(8,ae),(9,ab),(16,ab)] 100 rfl ?_ (AK.bo rfl ?_)
  .simp only[ag,el,a,cS.aH,eq_self,aG,aF];simp[h,-List.length_flatten]
  .simp[ag,ag.cat,fM,a]
 |true =>
  cases b:(pieces l.flatten==l) with
  |false =>
   refine aE c [(8,ab),(9,ae),(14,ae),(16,ab)] 100 rfl ?_ (AK.bo rfl ?_)
   .simp only[ag,el,cS.list_fn,a,cS.aH];simp[h,ly,a,b,-List.length_flatten]
   .simp[ag,ag.cat,fM,b]
  |true =>
   refine aE c [(8,ab),(9,ae),(14,ab),(16,ae)] 100 rfl ?_ (AK.bo rfl ?_)
   .simp only[ag,el,cS.list_fn,a,cS.aH];simp[h,ly,a,b,-List.length_flatten]
   .simp[ag,ag.cat,fM,a,b,el]
end
section
open Go.Proofs Go.Conc Go.Conc.Lib Go.ConcR.Gen
open Go.ConcN (WgLive PayAt Has RW AtR0)
open Go.ConcN.Gen
open Go.ConcR (KK WgAt stA smA rd wr mk Payload DC0)
def KE:KB=#[{ dst:=af,op:=.defer { callee:=.value (.func 141),args:=#[.tmp 0],argTypes:=#[190] },type:=0,pos:= "l12_snap.go:81",after:=#[],guard:=af }]:=by kernel_rfl
def bW(a:ak):aO:={ baseD 140 with defers:=[dcall 141 #[a]] }
abbrev tW(v0 v1 v2 v3 v4 v5:ak):Array ak:=#[v0,v1,v2,v3,v4,v5,aj,aj,aj,aj,aj,aj,aj]
def Rw(v0 v1 v2 v3 v4 v5:ak)(w:az):Goes ah ae (λ_ _=>True) DC0 (λg _=>g=G ((bW v0).aT ⟨tW v0 v1 v2 v3 v4 v5,[]⟩ [.code (.region 1 KC ab)]) [uC]) 8 (born ah (wE #[v0,v1,v2,v3,v4,v5])) w:=by
 have a:True:=av;have b:True->True->True:=λ_ _=>trivial
 refine Goes.step rfl (λw1 h1=>?_)
 rw[Hi];simp only[goes_go];refine⟨⟨rfl,rfl⟩,?_⟩;clear h1;rw[KE]
 u_c aD b a
 u_reg b a
 u_defer b a
 u_c aC b a
 exact Goes.stop λ_ _=>rfl
def Yd(T:Array ak):QuitsD ah 2 0 (G { (baseD 140).at ⟨T,[]⟩ [] with mode:=.returning } [uC]):=by
 have a:Tryz.f140.results=#[]:=by kernel_rfl
 refine QuitsD.ctl (g':=G uC []) rfl (λw=>?_) ?_
 .simp[G,aK,unwind,doReturn,results,Frame.at,baseD,uC,Tryz.func140,a,seen,GStep.after,goexitEntry]
 refine QuitsD.ctl (g':={ G uC [] with status:=.finished }) rfl (λw=>?_) ⟨rfl,rfl⟩
 simp[G,aK,unwind,uC,goexitEntry,Frame.catches];rfl
section
variable {Y:Lay}{n:Nat}{val:Nat->Nat->ak}
def tailW(x:Nat)(d:Y.kc=2)(T:Array ak)(w:az)(a:WgLive 190 Y.Wg w/\Has Y.C (Y.kc*x+1-1) (val x 0) w) :
  ∃ m,Goes ah ae (RW 190 Y.Wg Y.C (2*n) 0 (Y.kc*x+1-1)) DC0 (AtR0 ah 190 Y.Wg Y.C (2*n) 0 (Y.kc*x+1) (val x 0)) m (G ((bW (.pointer (aa ⟨Y.Wg,0,af⟩))).aT ⟨T,[]⟩ [.inRegion uB.toArray []]) [uC]) w:=by
 refine⟨26,?_⟩;have e:(bW (.pointer (aa ⟨Y.Wg,0,af⟩))).aT ⟨T,[]⟩ [.inRegion uB.toArray []]=(baseD 140).at ⟨T,[dcall 141 #[.pointer (aa ⟨Y.Wg,0,af⟩)]]⟩ [.inRegion uB.toArray []]:=rfl;rw[e]
 u_c aC kn_rely a
 u_c stepG_end kn_rely a
 u_in kn_rely a
 rw[stepG_unwind_enter (c:=body_done PI) rfl Cd.f_done (by kernel_rfl) (by kernel_rfl)]
 simp only[goes_go];refine⟨by u_nil,?_⟩
 have b:=UP (P:=ah) (L:=PI) (Wg:=Y.Wg) (C:=Y.C) (n:=2*n) (Low:=0) (x:=Y.kc*x+1) (val:=val x 0) (c:={ (baseD 140).at ⟨T,[]⟩ [] with mode:=.returning }) (cs:=[uC]) Cd rfl (Yd T) _ a;exact b
def rd_str{M:Mem}{v:ak}{l:Bs}(h:Rd M v (.str l)):v=.string ⟨l.toArray⟩:=by
 cases h with
 |str h1 h2=>rw[<-h1]
def rd_bool{M:Mem}{v:ak}{b:Bool}(h:Rd M v (.bool b)):v=.bool b:=by cases h;rfl
def Tb:aw:=oW af (.store 193 (.tmp 12) (.tmp 11)) 0 #[⟨6,.data⟩,⟨5,.data⟩,⟨5,.chain⟩,⟨0,.phase⟩,⟨1,.phase⟩,⟨2,.phase⟩,⟨3,.phase⟩,⟨4,.phase⟩,⟨5,.phase⟩]
def UQ{x:Nat}(hx:x<n)(z:Y.kc=2){k:Int}{ps:List bw}{I:Int}(F:val x 0=.string ⟨((du k ps I).getD []).toArray⟩)(A:val x 1=.bool (du k ps I).isSome){s:St}{T:Array ak}
  (m:c8 [] s (T.getD 12 aj) (xW k ps I n x Y.C 6)) (p:c8 [] s (T.getD 11 aj) (Wm (du k ps I))) :
  JG ah 190 Y (2*n) val x (G ((bW (.pointer (aa ⟨Y.Wg,0,af⟩))).aT ⟨T,[]⟩ [.inRegion uB.toArray [7]]) [uC]) s:=by
 have m:T.getD 12 aj=.pointer (aa ⟨Y.C,x*2,af⟩):=Rd.fX m;have p:T.getD 11 aj=.agg #[val x 0,val x 1]:=by
  obtain⟨vs,Z,f⟩:=p
  match vs,f with
  |[],f=>exact f.elim
  |[_],f=>exact f.2.elim
  |_::_::_::_,f=>exact f.2.2.elim
  |[u0,u1],f =>
   rw[Z,rd_str f.1,rd_bool f.2.1,F,A]
 refine⟨rfl,λw1 hr JN KF=>?_⟩
 obtain⟨cs,c,L⟩:=JN;have O:Y.kc*x=x*2:=by rw[z];omega
 have H:∀ v∈[val x 0,val x 1],v.oneCell'=ab:=by
  intro v U;simp only[eY,qY,or_false] at U;rcases U with rfl|rfl
  .rw[F];rfl
  .rw[A];rfl
 have d:x*2+0+[val x 0,val x 1].length<=cs.size:=by simp;omega
 have q:=run_storeCells_at ah Y.C (x*2) 193 [val x 0,val x 1] 0 cs w1 c d H;simp only[iM,eQ,gA,br] at q;generalize r:(cs.toList.take (x*2)++[val x 0,val x 1]++cs.toList.drop (x*2+2)).toArray=new at q;have M:new.size=cs.size:=by
  grind
 have w:=setRow_heap w1 Y.C cs new 193 (0,0) c;have u:∀ o,(w1.setRow Y.C new).cell? ⟨Y.C,o,af⟩=new[o]?:=λo=>cell_setRow_same w1 Y.C o cs new 193 (0,0) c
 have K:∀ o,w1.cell? ⟨Y.C,o,af⟩=cs[o]?:=λo=>by simp[aZ,c]
 have N:∀ i,i<2->new[x*2+i]?=aa (val x i):=by
  intro i hi;rw[<-r];have Q:(cs.toList.take (x*2)).length=x*2:=by simp;simp at d;omega
  rw[ij];simp only[iH];rw[gg (by omega),Q]
  match i,hi with
  |0,_=>simp
  |1,_=>simp
 have V:∀ o,(o<x*2∨x*2+2<=o)->new[o]?=cs[o]?:=by
  intro o J;rw[<-r];have Q:(cs.toList.take (x*2)).length=x*2:=by simp;simp at d;omega
  rw[ij];simp only[iH];rcases J with J|J
  .grind
  .rw[gg (by omega),Q,gg (by simp;omega)]
   simp only[eQ,gA,oO];rw[show x*2+2+(o-x*2-(0+1+1))=o by omega]
   simp
 have B:(Value.agg #[val x 0,val x 1]).cells=#[val x 0,val x 1]:=rfl;have D:(ay (⟨T,[]⟩:Act).eval Tb).run ah w1=.ok .skip (w1.setRow Y.C new):=by
  have t:(⟨T,[]⟩:Act).eval (.tmp 12)=.pointer (aa ⟨Y.C,x*2,af⟩):=m;have y:(⟨T,[]⟩:Act).eval (.tmp 11)=.agg #[val x 0,val x 1]:=p;simp[ay,Tb,oW,t,y,Instr.storeAt,Instr.sureAddr,storeVar,(tok 193 i193 rfl).run_sizeOf,i193,B,q]
 have g:∀ e∈(ay (⟨T,[]⟩:Act).eval Tb).events ah w1 #[],∃ j,j<2/\e=GD Y.C (x*2+j):=by
  intro R g;have t:(⟨T,[]⟩:Act).eval (.tmp 12)=.pointer (aa ⟨Y.C,x*2,af⟩):=m;have y:(⟨T,[]⟩:Act).eval (.tmp 11)=.agg #[val x 0,val x 1]:=p;have e:ay (⟨T,[]⟩:Act).eval Tb=(do storeVar 193 ⟨Y.C,x*2,af⟩ (.agg #[val x 0,val x 1]);pure .skip):=by simp[ay,Tb,oW,t,y,Instr.storeAt,Instr.sureAddr]
  rw[e] at g;have E:R∈(storeCells ⟨Y.C,x*2,af⟩ [val x 0,val x 1]).events ah w1 #[]:=by
   simp only[storeVar,aP,(tok 193 i193 rfl).run_sizeOf,i193,B,aU,events_sizeOf,cT,b5,bS,b7,Sem.events_pure] at g;simpa[q] using g
  rcases eD [val x 0,val x 1] 0 cs w1 #[] c d H R E with P|⟨j,_,hj,rfl⟩
  .simp at P
  grind
 have l:WgLive 190 Y.Wg (w1.setRow Y.C new):=by
  obtain⟨st,S,h⟩:=KF;refine⟨st,S,?_⟩;show (w1.setRow Y.C new).heap[Y.Wg]?=_;rw[setRow_other w1 Y.C Y.Wg new ?_]
  .exact h
  .intro e;have f:w1.heap[Y.Wg]?=aa (Go.ConcR.wgBlock 190 st S):=h;rw[e,c] at f;simp[Go.ConcR.wgBlock] at f;exact absurd f.2 (by decide)
 refine⟨_,w1.setRow Y.C new,_,Fh (b:=bW (.pointer (aa ⟨Y.Wg,0,af⟩))) (a:=⟨T,[]⟩) (k:=[]) (ops:=uB.toArray) (i:=7) (rest:=[]) (o:=Tb) rfl rfl (by simp[bW,baseD]) D,?_,?_,?_⟩
 .refine⟨rfl,rfl,rfl,by simp,λb X=>setRow_other w1 Y.C b new X,⟨new,w,by rw[M,L]⟩,λo J=>?_,λi hi=>?_⟩
  .grind
  .rw[z] at hi;rw[u,O];exact N i hi
 .intro e W;obtain⟨j,hj,rfl⟩:=g e (Go.Conc.mem_seen W);exact⟨x*2+j,rfl,by omega,by omega⟩
 .exact tailW x z T _ ⟨l,by show (w1.setRow Y.C new).cell? _=_;grind⟩
def worker{k:Int}(j:dD (Cx.work ah) 142 (lY k)){x:Nat}(m:x<n)(l:Y.kc=2){ps:List bw}{d:Int}(i:val x 0=.string ⟨((du k ps d).getD []).toArray⟩)(e:val x 1=.bool (du k ps d).isSome)
  {s:St} (y:aJ [] s) (F:s.β=[]) {v1 v2 v3 v4 v5:ak} (o:Rd s.M v1 (.rp [.int .i64 k])) (p:Rd s.M v2 (.rp [.sl ae 2 ps.length (cP.fn ps)])) (r:Rd s.M v3 (.rp [.int .i64 d]))
  (u:Rd s.M v4 (.rp [.val (.slice (aa ⟨Y.C,0,af⟩) n n)])) (v:Rd s.M v5 (.rp [.int .i64 x])) :
  eb (Cx.work ah) E0 (JG ah 190 Y (2*n) val x) (born ah (wE #[.pointer (aa ⟨Y.Wg,0,af⟩),v1,v2,v3,v4,v5])) s:=by
 refine eb.goes (X:=Cx.work ah) (R:=λ_ _=>True) (D:=DC0) (Stop:=λg _=>g=G ((bW (.pointer (aa ⟨Y.Wg,0,af⟩))).aT ⟨tW (.pointer (aa ⟨Y.Wg,0,af⟩)) v1 v2 v3 v4 v5,[]⟩ [.code (.region 1 KC ab)]) [uC])
  (λb=>aJ [] b/\b.M=s.M) (λb s2 h q=>⟨h.1.rely q,q.M.trans h.2⟩) (λ_ _ _ _=>trivial) ?_ (λb h=>b9.vU h.1.mem) ?_ 8 _ s ⟨y,rfl⟩ (Rw _ _ _ _ _ _ _)
 .rintro b es h w' ⟨rfl,rfl⟩;exact⟨rfl,.inl (.quiet h.1)⟩
 .rintro g b ⟨f,B⟩ rfl;rw[N2];refine eZ.toE (λ_ _ _ h=>h) ?_
  refine(UO j ps d n x Y.C m (.pointer (aa ⟨Y.Wg,0,af⟩))).region (by kernel_rfl) (by simp[bW,baseD]) ⟨by simp[tW],⟨[],av⟩,λt=>?_⟩ rfl f λs2 a w c z A st=>.stop ?_
  .rw[<-B] at o p r u v
   match t with
   |0=>exact Rd.val rfl
   |1=>exact o
   |2=>exact p
   |3=>exact r
   |4=>exact u
   |5=>exact v
   |t+6=>trivial
  .obtain⟨T,E⟩:=a;obtain rfl:E=[]:=z;exact UQ m l i e (c 12) (c 11)
end
end
section
open Go.Proofs Go.Conc Go.Conc.Lib
open Go.ConcN (WgLive PayAt Has RW AtR0)
open Go.ConcR (KK WgAt stA smA rd wr mk Payload DC0)
def wF:Code->Code|.seq a _=>a|c=>c
def kP:Code->Code|.seq _ a=>a|c=>c
def UR:Code->Code|.block _ a=>a|c=>c
def Ye:Code->Code|.loop a=>a|c=>c
def Rx:Code->Array aw|.region _ o _=>o|_=>#[]
noncomputable def En:Code:=(Tryz.f114.body).getD .skip
noncomputable def iy:Code:=Ye (UR (kP (wF (kP (kP (kP En))))))
noncomputable def cR4:Code:=wF iy
noncomputable def Ry:Code:=UR (wF (kP (kP iy)))
noncomputable def cR5:Code:=wF Ry
noncomputable def Ag:Array aw:=Rx (wF (kP Ry))
noncomputable def xL:Array aw:=Rx (kP (kP Ry))
noncomputable def MO:Code:=kP (kP (kP iy))
noncomputable def nu:Code:=kP (kP (kP (kP En)))
noncomputable def xM:Array aw:=Rx (wF nu)
noncomputable def qm:Code:=kP nu
def Ce:iy=.seq cR4 (.seq (.cond (.tmp 21) .skip (.exit 0)) (.seq (.block 1 (.seq cR5 (.seq (.region 6 Ag ae) (.region 7 xL ae)))) MO)):=by kernel_rfl
def KG:nu=.seq (.region 9 xM ae) qm:=by kernel_rfl
def NQ(j:Fr)(σ1:List aW):Post:=λe φ σ=>e=.normal/\rZ φ j/\σ=σ1
structure At (σ0:List aW)(s0:St)(φ:Fr)(σ:List aW)(a:Act)(s:St):Prop where
 fr:cp 45 σ s φ a
 hh:aJ σ s
 st:cw σ0 s0 σ s
section
variable {σ0:List aW}{s0:St}{φ j:Fr}{σ σ1:List aW}{a:Act}{s:St}
def At.rely(h:At σ0 s0 φ σ a s){d:St}(c:b9 s d):At σ0 s0 φ σ a d:=⟨h.fr.rely c h.hh,h.hh.rely c,h.st.trans c.stepW⟩
structure MP (b:Nat)(s:St):Prop where
 own:¬s.own b
 β:∀ L∈s.β,b∉L.bs
 M:∀ o,s.M b o=af
 lt:b<s.w.heap.size
def MP.step{b:Nat}(h:MP b s0)(st:cw σ0 s0 σ s):MP b s :=
 ⟨by rw[st.own];exact h.own,λL c hb=>by
  rcases st.uo L c b hb with h1|⟨d,e,h1⟩
  .have:=h.lt;omega
  .exact h.β d e h1,λo=>by rw[st.jk b h.lt h.β];exact h.M o,cC h.lt st.size⟩
def At.apart{Wg:Nat}(d:MP Wg s0):Apart Wg (At σ0 s0 φ σ a) :=
 ⟨λ_ _ h e=>h.rely e,λ_ h=>⟨σ,h.hh⟩,λ_ h=>let c:=d.step h.st;⟨c.own,c.β,c.M⟩⟩
variable {X:Cx ah}{S:au->St->Prop}{b:aO}{k:List Item}{cs:List aO}
def At.ctl(h:At σ0 s0 φ σ a s){g g':au}(e:g.status=.running)(d:∀ w,aK ah X.main g w=.go g' w #[])(kk:∀ c,At σ0 s0 φ σ a c->eZ X S g' c):eZ X S g s :=
 .ctl h.hh e d λc h1=>kk c (h.rely h1)
def At.code(h:At σ0 s0 φ σ a s)(hb:b.kind≠.early){c:Code}(f:AW X 45 c (NQ j σ1) φ σ)(kk:∀ a1 s1,At σ0 s0 j σ1 a1 s1->eZ X S (G (b.aT a1 k) cs) s1):eZ X S (G (b.aT a (.code c::k)) cs) s:=by
 refine f s a h.fr h.hh b k cs S hb ?_;rintro e l σ' s' a' ⟨rfl,hl,rfl⟩ g i d;exact kk a' s' ⟨g.le hl,i,h.st.trans d⟩
end
def eZ.live{Wg:Nat}{E:St->St->Array Event->Prop}{S:au->St->Prop}{g:au}{s:St}(h:eZ (Cx.lead ah 190 Wg) S g s)(f:Clear (λb=>b=Wg) s)(hl:WgLive 190 Wg s.w) :
  eb (Cx.lead ah 190 Wg) E (λg s=>S g s/\WgLive 190 Wg s.w) g s:=by
 induction h with
 |stop h=>exact⟨.leaf,h,hl⟩
 |@step g s q ns ne hr h1 h2 _ m =>
  refine .step hr λe c=>?_
  have i:=c.2 hl;have d:Clear (λb=>b=Wg) e:=⟨λb hb=>by rw[c.1.own];exact f.own b hb,λb hb=>by rw[c.1.β];exact f.β b hb,λb hb o=>by rw[c.1.M];exact f.M b hb o,λb hb=>cC (f.lt b hb) c.1.size⟩
  obtain⟨⟨σ,σ',hh,n,st⟩,l⟩:=h2 e c;refine⟨_,_,_,h1 e c,.inl ⟨⟨σ,σ',hh,n,st⟩,l⟩,m e c (d.step st) ?_⟩;obtain⟨x,y,p⟩:=i;exact⟨x,y,by show (ns e).w.heap[Wg]?=_;rw[st.eB Wg (d.lt Wg rfl) (d.β Wg rfl)];exact p⟩
 |ghost hg _ m=>exact .ghost hg (m (f.ghost hg) (by rw[hg.w];exact hl))
 |forget hx _ _ _=>exact hx.elim
 |xw hj _ _=>exact hj.elim
def MP.clear{Wg:Nat}{s:St}(h:MP Wg s):Clear (λb=>b=Wg) s:=⟨λb e=>e▸h.own,λb e=>e▸h.β,λb e=>e▸h.M,λb e=>e▸h.lt⟩
section
variable (k:Int)(ps:List bw)(ns:List Int)(C Wg:Nat)
def mX(i:Nat):Fr:=[(3,.e (.one (.c (.rp [.int .i64 k])))),(4,.e (.one (.c (.rp [.sl ae 2 ps.length (cP.fn ps)])))),(8,.e (.one (.c (.rp [.val (.slice (aa ⟨C,0,af⟩) ns.length ns.length)])))),(9,.e (.one (.v (.pointer (aa ⟨Wg,0,af⟩))))),
 (18,cI.sl ns),(19,dI ns.length),(20,dI i)]
variable {k ps ns C Wg}{X:Cx ah}{σ:List aW}
def pR4{i:Nat}(hi:i<=ns.length):AW X 45 cR4 (NQ ((21,dB (decide (i<ns.length)))::mX k ps ns C Wg i) σ) (mX k ps ns C Wg i) σ:=by
 refine AK.of_code ?_
 by_cases h:i<ns.length
 .refine aX [(21,ab)] 100 rfl ?_ ⟨rfl,dC rfl ?_,rfl⟩
  .simp[ag];omega
  .simp[ag.cat,ag,h,aR.same]
 .refine aX [(21,ae)] 100 rfl ?_ ⟨rfl,dC rfl ?_,rfl⟩
  .simp[ag];omega
  .simp[ag.cat,ag,h,aR.same]
abbrev d5:List aW:=[.dead,.dead,.dead,.dead,.dead]
def pR5{i:Nat}(hi:i<ns.length):AW X 45 cR5 (NQ ((10,.e (.one (.ptr 5 0)))::(11,.e (.one (.ptr 6 0)))::mX k ps ns C Wg i) [.dead,.dead,.dead,.dead,.dead,.cells 3 [.c (.int .i64 i)],.cells 3 [.c (.int .i64 (ns.getD i 0))]]) (mX k ps ns C Wg i) d5:=by
 refine AK.of_code ?_;refine bm rfl ?_ ⟨rfl,dC rfl ?_,?_⟩
 .simp[ag];omega
 .simp[ag.cat,ag,aR.same]
 .simp[cI]
def pR8{i:Nat}(hi:i<ns.length)(c:ns.length<=4000000):AW X 45 MO (NQ (mX k ps ns C Wg (i+1)) d5) (mX k ps ns C Wg i) d5:=by
 refine AK.of_code ?_;refine bm rfl ?_ ⟨rfl,dC rfl ?_,rfl⟩
 .simp[ag,bx];omega
 .simp[ag.cat,ag,aR.same]
variable {σ0:List aW}{s0:St}{S:au->St->Prop}{b:aO}{kk:List Item}{cs:List aO}
abbrev d7:List aW:=[.dead,.dead,.dead,.dead,.dead,.dead,.dead]
variable (k ps ns C Wg) in
abbrev qI(i:Nat):Fr:=(11,.e (.one (.c (.rp [.int .i64 (ns.getD i 0)]))))::(10,.e (.one (.c (.rp [.int .i64 i]))))::mX k ps ns C Wg i
noncomputable abbrev te(kk:List Item):List Item:=.code (.region 7 xL ae)::.inBlock 1::.code MO::.inLoop iy::.inBlock 0::kk
def vg{P:aq}{main:Bool}{b:aO}{a:Act}{k:List Item}{cs:List aO}{w:az}{c x y:Code}(h:c=.seq x y):aK P main (G (b.aT a (.code c::k)) cs) w=.go (G (b.aT a (.code x::.code y::k)) cs) w:=by
 subst h;exact nQ
def toAdd{i:Nat}(hi:i<ns.length)(m:b.kind≠.early){a:Act}{s:St}(h:At σ0 s0 (mX k ps ns C Wg i) d5 a s)
  (K:∀ n l,At σ0 s0 (qI k ps ns C Wg i) d7 n l->eZ X S (G (b.aT n (.inRegion Ag [0]::te kk)) cs) l) :
  eZ X S (G (b.aT a (.code iy::.inLoop iy::.inBlock 0::kk)) cs) s:=by
 refine h.ctl rfl (λw=>vg Ce) λs h=>?_
 refine h.code m (pR4 (Nat.le_of_lt hi)) λa s h=>?_
 refine h.ctl rfl (λw=>nQ) λs h=>?_
 have o:a.eval (.tmp 21)=.bool ab:=by
  have:=h.fr.slot 21;simp only[hi,j7] at this;exact rd_bool (fC this)
 refine h.ctl rfl (λw=>uY o) λs h=>?_
 refine h.ctl rfl (λw=>Ff) λs h=>?_
 refine h.ctl rfl (λw=>nQ) λs h=>?_
 refine h.ctl rfl (λw=>ru) λs h=>?_
 refine h.ctl rfl (λw=>nQ) λs h=>?_
 have h:At σ0 s0 (mX k ps ns C Wg i) d5 a s:=⟨h.fr.le (dC rfl (by simp[ag.cat,ag,aR.same])),h.hh,h.st⟩
 refine h.code m (pR5 hi) λa s h=>?_
 obtain⟨l,w1,q,d,e⟩:=cp.freeze 10 5 (E:=3) (cs:=[.c (.int .i64 i)]) (cc:=[.int .i64 i]) rfl rfl rfl h.fr h.hh;refine .ghost (.of h.hh d w1 (e.oo h.hh)) ?_;obtain⟨s2,w2,p,g,f⟩:=cp.freeze 11 6 (E:=3) (cs:=[.c (.int .i64 (ns.getD i 0))]) (cc:=[.int .i64 (ns.getD i 0)]) rfl rfl rfl q d;refine .ghost (.of d g w2 (f.oo d)) ?_;have h:At σ0 s0 (qI k ps ns C Wg i) d7 a s2:=⟨p.le (dC rfl (by simp[ag.cat,ag,aR.same])),g,h.st.trans ((e.oo h.hh).trans (f.oo d))⟩
 refine h.ctl rfl (λw=>nQ) λs h=>?_
 refine h.ctl rfl (λw=>pL) λs h=>?_
 exact K a s h
def o6:aw:={ dst:=aa 25,op:=.call { callee:=.value (.func 139),args:=#[.tmp 9,.const (.int .i64 1)],argTypes:=#[190,3] },type:=0,pos:= "l12_snap.go:79",after:=#[],guard:=af }
def F1:Ag=#[o6]:=by kernel_rfl
def KH{i:Nat}(g:b.kind≠.early){a:Act}{s:St}(h:At σ0 s0 (qI k ps ns C Wg i) d7 a s)
  (K:∀ c,At σ0 s0 (qI k ps ns C Wg i) d7 a c->eZ X S (G (Frame.enter ah 139 #[.pointer (aa ⟨Wg,0,af⟩),.int .i64 1] .normal) (b.aT a (.inRegion Ag [0]::te kk)::cs)) c) :
  eZ X S (G (b.aT a (.inRegion Ag [0]::te kk)) cs) s:=by
 refine .next rfl λc e=>?_
 have d:=h.rely (X.iq e);have l:a.eval (.tmp 9)=.pointer (aa ⟨Wg,0,af⟩):=Rd.fX (d.fr.slot 9);have p:(ay a.eval o6).run ah c.w=.ok (.enter 139 #[.pointer (aa ⟨Wg,0,af⟩),.int .i64 1]) c.w:=by
  have:=run_call_body (P:=ah) (a:=a) (w:=c.w) (o:=o6) (f:=139) (fn:=Tryz.f139) rfl Tryz.func139 (by kernel_rfl) (by kernel_rfl)
  rw[this,<-l];simp only[List.map_toArray,rh,List.map_nil];rfl
 have m:(ay a.eval o6).events ah c.w #[]=#[]:=events_call_body (P:=ah) (a:=a) (w:=c.w) (o:=o6) (f:=139) (fn:=Tryz.f139) rfl Tryz.func139 (by kernel_rfl) (by kernel_rfl) #[]
 have n:listed ah b.fn a o6 c.w=#[]:=by unfold listed;rw[m];exact seen_none _ _
 refine⟨_,c,#[],?_,.quiet d.hh,K c d⟩;have:=oQ (P:=ah) (main:=X.main) (b:=b) (a:=a) (k:=te kk) (cs:=cs) (w:=c.w) (ops:=Ag) (i:=0) (rest:=[]) (o:=o6) (by rw[F1];rfl) rfl g p
 rw[n] at this;exact this
def US:aw:={ dst:=aa 26,op:=.makeFunc (.func 140) #[] #[.tmp 9,.tmp 3,.tmp 4,.tmp 11,.tmp 8,.tmp 10],type:=1,pos:= "l12_snap.go:80",after:=#[],guard:=af }
def N4:aw:={ dst:=af,op:=.go { callee:=.value (.tmp 26),args:=#[],argTypes:=#[] },type:=0,pos:= "l12_snap.go:80",after:=#[⟨0,.data⟩],guard:=af }
def F2:xL=[US,N4].toArray:=by kernel_rfl
variable (k ps ns C Wg) in
abbrev Eo(i:Nat):AM.C:=.fn (.func 140) [] [.val (.pointer (aa ⟨Wg,0,af⟩)),.rp [.int .i64 k],.rp [.sl ae 2 ps.length (cP.fn ps)],.rp [.int .i64 (ns.getD i 0)],.rp [.val (.slice (aa ⟨C,0,af⟩) ns.length ns.length)],.rp [.int .i64 i]]
def UT{i:Nat}:OA X 45 [US,N4] US ((25,.any)::qI k ps ns C Wg i) d7 (.e (.one (.c (Eo k ps ns C Wg i)))) d7:=by
 have h:Fw tt [] [] [US,N4] ((25,.any)::qI k ps ns C Wg i) d7 US=aa (.e (.one (.c (Eo k ps ns C Wg i))),af,[]):=rfl;exact fW tok bD.nil h av
def Yf{i:Nat}(n:b.kind≠.early){a:Act}{s:St}(h:At σ0 s0 (qI k ps ns C Wg i) d7 a s)
  (K:∀ v m c,At σ0 s0 (qI k ps ns C Wg i) d7 m c->Rd c.M v (Eo k ps ns C Wg i)->m.tmps.getD 26 aj=v->eZ X S (G (b.aT m (.inRegion xL [1]::.inBlock 1::.code MO::.inLoop iy::.inBlock 0::kk)) cs) c) :
  eZ X S (G (b.aT (a.put (aa 25) (.tuple #[])) (.inRegion Ag []::te kk)) cs) s:=by
 have o:At σ0 s0 ((25,.any)::qI k ps ns C Wg i) d7 (a.put (aa 25) (.tuple #[])) s:=⟨h.fr.put (by decide) av,h.hh,h.st⟩
 refine o.ctl rfl (λw=>iS) λs h=>?_
 refine h.ctl rfl (λw=>pL) λs h=>?_
 rw[F2];refine UT s _ h.fr h.hh b _ cs S 0 [1] n rfl λv c l g e=>?_
 have l:Rd c.M v (Eo k ps ns C Wg i):=fC l;have p:=((h.fr.mono e h.hh.len).put (d:=26) (v:=v) (x:=.any) (by decide) av)
 have f:26<(a.put (aa 25) (.tuple #[])).tmps.size:=by rw[h.fr.size];decide
 refine K v _ c ⟨p.le (dC rfl ?_),g,h.st.trans e⟩ l (JQ f);simp[ag.cat,ag,aR.same]
def Rz{i:Nat}(hi:i<ns.length)(q:ns.length<=4000000)(d:b.kind≠.early)(e:σ0.length<=5){a:Act}{s:St}(h:At σ0 s0 (qI k ps ns C Wg i) d7 a s)
  (K:∀ m l,At σ0 s0 (mX k ps ns C Wg (i+1)) d5 m l->eZ X S (G (b.aT m (.code iy::.inLoop iy::.inBlock 0::kk)) cs) l) :
  eZ X S (G (b.aT a (.inRegion xL []::.inBlock 1::.code MO::.inLoop iy::.inBlock 0::kk)) cs) s:=by
 have g:cp 45 (d5++[.dead,.dead]) s (mX k ps ns C Wg i) a:=h.fr.le (dC rfl (by simp[ag.cat,ag,aR.same]))
 have c:aJ (d5++[.dead,.dead]) s:=h.hh;have f:cw σ0 s0 (d5++[.dead,.dead]) s:=h.st;have o:eK s (s.cut d5.length):=⟨rfl,λ_ _ _ h=>h,λ_ _ _=>rfl,c.mem,λb d=>d.imp id λ⟨L,p,d⟩=>⟨L,iI p,d⟩⟩
 refine .ghost o ?_;have h:At σ0 s0 (mX k ps ns C Wg i) d5 a (s.cut d5.length):=⟨⟨g.size,g.defers.imp λ_ n=>n.drop rfl,λt=>(g.slot t).drop (pU rfl)⟩,c.drop rfl,f.drop e⟩
 refine h.ctl rfl (λw=>iS) λs h=>?_
 refine h.ctl rfl (λw=>qv) λs h=>?_
 refine h.code d (pR8 hi q) λa s h=>?_
 exact h.ctl rfl (λw=>x9) λs h=>K a s h
end
def wG{b:aO}(c:b.roundOf=af)(a:Act)(t:List Item):b.aT a t=b.at ⟨a.tmps,a.defers++b.defers⟩ t:=by
 cases b;simp only at c;subst c;rfl
section
variable {k:Int}{ps:List bw}{ns:List Int}{Y:Lay}{val:Nat->Nat->ak}{σ0:List aW}{s0:St}{b:aO}{kk:List Item}{cs:List aO}
def PL{a:Act}{w:az}{d c c2 c3 c4 c5:ak}(f:a.tmps.getD 26 aj=.func (.func 140) #[] #[d,c,c2,c3,c4,c5]):(ay a.eval N4).run ah w=.ok (.spawn (wE #[d,c,c2,c3,c4,c5])) w/\(ay a.eval N4).events ah w #[]=#[]:=by
 have e:a.eval (.tmp 26)=.func (.func 140) #[] #[d,c,c2,c3,c4,c5]:=f
 constructor
 .simp[ay,N4,resolve,Deferred.ofValue,e,wE]
 .simp[ay,N4,resolve,Deferred.ofValue,e]
def UU(r:dD (Cx.work ah) 142 (lY k))(m:Y.kc=2)(e:b.roundOf=af)(z:b.kind≠.early){i:Nat}(hi:i<ns.length)
  (p:val i 0=.string ⟨((du k ps (ns.getD i 0)).getD []).toArray⟩) (g:val i 1=.bool (du k ps (ns.getD i 0)).isSome) {v:ak} {a:Act} {s:St} (h:At σ0 s0 (qI k ps ns Y.C Y.Wg i) d7 a s) (B:WgLive 190 Y.Wg s.w)
  (D:Rd s.M v (Eo k ps ns Y.C Y.Wg i)) (x:a.tmps.getD 26 aj=v) {Next:au->St->Prop}
  (K:∀ c,At σ0 s0 (qI k ps ns Y.C Y.Wg i) d7 a c->WgLive 190 Y.Wg c.w->Next (G (b.aT a (.inRegion xL []::.inBlock 1::.code MO::.inLoop iy::.inBlock 0::kk)) cs) c) :
  AtGo ah 190 Y (2*ns.length) val i Next (G (b.aT a (.inRegion xL [1]::.inBlock 1::.code MO::.inLoop iy::.inBlock 0::kk)) cs) s:=by
 refine⟨rfl,λc d=>?_⟩
 have u:=h.rely d.1;have q:Rd c.M v (Eo k ps ns Y.C Y.Wg i):=by rw[d.1.M];exact D
 cases q with
 |fn fs cc QK Wi f1 f2 g1 g2 r1 r2 =>
 have t:fs=[]:=gf QK;subst t;have n:cc=[f2 0,f2 1,f2 2,f2 3,f2 4,f2 5]:=by
  apply iK
  intro j;have Wi:cc.length=6:=Wi
  match j with
  |0=>exact g2 0 (by omega)
  |1=>exact g2 1 (by omega)
  |2=>exact g2 2 (by omega)
  |3=>exact g2 3 (by omega)
  |4=>exact g2 4 (by omega)
  |5=>exact g2 5 (by omega)
  |j+6=>grind
 subst n;have y:f2 0=.pointer (aa ⟨Y.Wg,0,af⟩):=Rd.fX (r2 0 _ rfl);obtain⟨A,E⟩:=PL (a:=a) (w:=c.w) x;have f:Go.Conc.listed ah b.fn ⟨a.tmps,a.defers++b.defers⟩ N4 c.w=#[]:=by
  unfold Go.Conc.listed;have:=(PL (a:=⟨a.tmps,a.defers++b.defers⟩) (w:=c.w) x).2;rw[this];exact seen_none _ _
 have l:=stepG_spawn (P:=ah) (main:=ab) (b:=b) (a:=⟨a.tmps,a.defers++b.defers⟩) (k:=.inBlock 1::.code MO::.inLoop iy::.inBlock 0::kk) (cs:=cs) (w:=c.w) (ops:=xL) (i:=1) (rest:=[]) (o:=N4) (by rw[F2];rfl) rfl z A rfl
 refine⟨G (b.aT a (.inRegion xL []::.inBlock 1::.code MO::.inLoop iy::.inBlock 0::kk)) cs,born ah (wE #[f2 0,f2 1,f2 2,f2 3,f2 4,f2 5]),?_,rfl,?_,K c u (d.2 B)⟩
 .rw[wG e,wG e,l,f];rfl
 .rw[y];exact worker r hi m p g (s:=c.child) ⟨u.hh.mem,rfl,by simp,by simp[St.child],by simp[St.child],by simp[St.child]⟩ rfl (r2 1 _ rfl) (r2 2 _ rfl) (r2 3 _ rfl) (r2 4 _ rfl) (r2 5 _ rfl)
def o9:aw:={ dst:=aa 28,op:=.call { callee:=.value (.func 143),args:=#[.tmp 9],argTypes:=#[190] },type:=0,pos:= "l12_snap.go:85",after:=#[],guard:=af }
def F3:xM=#[o9]:=by kernel_rfl
variable {X:Cx ah}{S:au->St->Prop}
def RA(g:b.kind≠.early){C Wg:Nat}{a:Act}{s:St}(h:At σ0 s0 (mX k ps ns C Wg ns.length) d5 a s)
  (K:∀ j c,At σ0 s0 (mX k ps ns C Wg ns.length) d5 j c->eZ X S (G (Frame.enter ah 143 #[.pointer (aa ⟨Wg,0,af⟩)] .normal) (b.aT j (.inRegion xM [0]::.code qm::kk)::cs)) c) :
  eZ X S (G (b.aT a (.code iy::.inLoop iy::.inBlock 0::.code nu::kk)) cs) s:=by
 refine h.ctl rfl (λw=>vg Ce) λs h=>?_
 refine h.code g (pR4 (bc _)) λa s h=>?_
 refine h.ctl rfl (λw=>nQ) λs h=>?_
 have n:a.eval (.tmp 21)=.bool ae:=by
  have:=h.fr.slot 21;simp only[Nat.lt_irrefl,mg] at this;exact rd_bool (fC this)
 refine h.ctl rfl (λw=>uY n) λs h=>?_
 refine h.ctl rfl (λw=>zl (k':=.code nu::kk) rfl) λs h=>?_
 refine h.ctl rfl (λw=>vg KG) λs h=>?_
 refine h.ctl rfl (λw=>pL) λs h=>?_
 have h:At σ0 s0 (mX k ps ns C Wg ns.length) d5 a s:=⟨h.fr.le (dC rfl (by simp[ag.cat,ag,aR.same])),h.hh,h.st⟩
 refine .next rfl λc e=>?_
 have d:=h.rely (X.iq e);have q:a.eval (.tmp 9)=.pointer (aa ⟨Wg,0,af⟩):=Rd.fX (d.fr.slot 9);have p:(ay a.eval o9).run ah c.w=.ok (.enter 143 #[.pointer (aa ⟨Wg,0,af⟩)]) c.w:=by
  have:=run_call_body (P:=ah) (a:=a) (w:=c.w) (o:=o9) (f:=143) (fn:=Tryz.f143) rfl Tryz.func143 (by kernel_rfl) (by kernel_rfl)
  grind
 have l:(ay a.eval o9).events ah c.w #[]=#[]:=events_call_body (P:=ah) (a:=a) (w:=c.w) (o:=o9) (f:=143) (fn:=Tryz.f143) rfl Tryz.func143 (by kernel_rfl) (by kernel_rfl) #[]
 have m:Go.Conc.listed ah b.fn a o9 c.w=#[]:=by unfold Go.Conc.listed;rw[l];exact seen_none _ _
 refine⟨_,c,#[],?_,.quiet d.hh,K a c d⟩;have:=oQ (P:=ah) (main:=X.main) (b:=b) (a:=a) (k:=.code qm::kk) (cs:=cs) (w:=c.w) (ops:=xM) (i:=0) (rest:=[]) (o:=o9) (by rw[F3];rfl) rfl g p
 rw[m] at this;exact this
section
variable (k ps ns Y σ0 s0 b kk cs)
def Wn(g:au)(s:St):Prop:=∃ a,FU ah PI Y (At σ0 s0 (mX k ps ns Y.C Y.Wg ns.length) d5 a) (b.aT a (.inRegion xM [0]::.code qm::kk)) cs g s
def TF(g:au)(s:St):Prop:=∃ a,TW ah PI Y (At σ0 s0 (mX k ps ns Y.C Y.Wg ns.length) d5 a) (G (b.aT (a.put (aa 28) (.tuple #[])) (.inRegion xM []::.code qm::kk)) cs) g s
end
def anF(f:MP Y.Wg s0)(c:b.roundOf=af){g:au}{s:St}(h:Wn k ps ns Y σ0 s0 b kk cs g s) :
  eb (Cx.lead ah 190 Y.Wg) (Es Y.Wg) (AtW1 ah 190 Y (TF k ps ns Y σ0 s0 b kk cs) (Wn k ps ns Y σ0 s0 b kk cs)) g s:=by
 obtain⟨a,h⟩:=h;have e:(xM[0]?).bind (·.dst)=aa 28:=by rw[F3];rfl
 rw[wG c] at h;refine Uz (P:=ah) (L:=PI) (b₀:=b) (a₀:=⟨a.tmps,a.defers++b.defers⟩) (ops₀:=xM) (i₀:=0) (rest₀:=[]) (k₀:=.code qm::kk) (cs:=cs) Cd (At.apart f) (λg s d=>⟨a,?_⟩) (λg s i=>⟨a,?_⟩) h
 .rw[wG c];rw[e] at d;exact d
 .rw[wG c];exact i
def Hj{P:aq}{ty:ar}{N n:Nat}{a:au->St->Prop}:∀ (r:Nat){g:au}{s:St},eb (Cx.lead P ty Y.Wg) (Es Y.Wg) (λg s=>Spawns P ty Y N val n a r g s) g s->Spawns P ty Y N val n a r g s
 |0,_,_,h=>eb.bind h λ_ _ x=>x
 |_+1,_,_,h=>eb.bind h λ_ _ x=>x
def N5(z:dD (Cx.work ah) 142 (lY k))(A:Y.kc=2)(m:MP Y.Wg s0)(f:b.roundOf=af)(l:b.kind≠.early)(n:σ0.length<=5)(I:ns.length<=4000000)
  (x:∀ i,i<ns.length->val i 0=.string ⟨((du k ps (ns.getD i 0)).getD []).toArray⟩) (p:∀ i,i<ns.length->val i 1=.bool (du k ps (ns.getD i 0)).isSome) :
  ∀ (r:Nat),r<=ns.length->∀ (a:Act) (s:St),At σ0 s0 (mX k ps ns Y.C Y.Wg (ns.length-r)) d5 a s->WgLive 190 Y.Wg s.w ->
   Spawns ah 190 Y (2*ns.length) val ns.length (Wn k ps ns Y σ0 s0 b kk cs) r (G (b.aT a (.code iy::.inLoop iy::.inBlock 0::.code nu::kk)) cs) s:=by
 intro r
 induction r with
 |zero =>
  intro _ a s h c;rw[ll] at h;have:=eZ.live (E:=Es Y.Wg) (RA (X:=Cx.lead ah 190 Y.Wg) (kk:=kk) (cs:=cs) (S:=λg s=>∃ a,g=G (Frame.enter ah 143 #[.pointer (aa ⟨Y.Wg,0,af⟩)] .normal) (b.aT a (.inRegion xM [0]::.code qm::kk)::cs)/\At σ0 s0 (mX k ps ns Y.C Y.Wg ns.length) d5 a s) l h λe o d=>.stop ⟨e,rfl,d⟩) (m.step h.st).clear c
  refine eb.bind this ?_;rintro g s ⟨⟨a,rfl,h⟩,c⟩;exact UB (P:=ah) (L:=PI) (Y:=Y) Cd (At.apart m) (λg s B=>⟨a,B⟩) ⟨h,c⟩
 |succ r D =>
  intro J a s h c;have hi:ns.length-(r+1)<ns.length:=by omega
  generalize q:ns.length-(r+1)=i at h hi;have:=eZ.live (E:=Es Y.Wg) (toAdd (X:=Cx.lead ah 190 Y.Wg) (kk:=.code nu::kk) (cs:=cs) (S:=λg s=>∃ a,g=G (Frame.enter ah 139 #[.pointer (aa ⟨Y.Wg,0,af⟩),.int .i64 1] .normal) (b.aT a (.inRegion Ag [0]::te (.code nu::kk))::cs)/\At σ0 s0 (qI k ps ns Y.C Y.Wg i) d7 a s) hi l h λe o d=>KH l d λs2 h2=>.stop ⟨e,rfl,h2⟩) (m.step h.st).clear c
  refine eb.bind this ?_;rintro g s ⟨⟨a,rfl,h⟩,c⟩;have H:(Ag[0]?).bind (·.dst)=aa 25:=by rw[F1];rfl
  rw[wG f];refine X6 (P:=ah) (L:=PI) (Y:=Y) (F:=At σ0 s0 (qI k ps ns Y.C Y.Wg i) d7 a) Cd (At.apart m) (λs y=>?_) ⟨h,c⟩
  rw[H];have:=eZ.live (E:=Es Y.Wg) (Yf (X:=Cx.lead ah 190 Y.Wg) (kk:=.code nu::kk) (cs:=cs) (S:=λg s=>∃ v a,g=G (b.aT a (.inRegion xL [1]::.inBlock 1::.code MO::.inLoop iy::.inBlock 0::.code nu::kk)) cs/\At σ0 s0 (qI k ps ns Y.C Y.Wg i) d7 a s/\Rd s.M v (Eo k ps ns Y.C Y.Wg i)/\a.tmps.getD 26 aj=v) l y.1 λv e o d u j=>.stop ⟨v,e,rfl,d,u,j⟩) (m.step y.1.st).clear y.2
  rw[wG f] at this;refine eb.bind this ?_;rintro g s ⟨⟨v,a,rfl,h,u,j⟩,c⟩;rw[q];refine⟨.leaf,UU z A f l hi (x i hi) (p i hi) h c u j λo d t=>?_⟩
  refine Hj r ?_;have:=eZ.live (E:=Es Y.Wg) (Rz (X:=Cx.lead ah 190 Y.Wg) (kk:=.code nu::kk) (cs:=cs) (S:=λg s=>∃ a,g=G (b.aT a (.code iy::.inLoop iy::.inBlock 0::.code nu::kk)) cs/\At σ0 s0 (mX k ps ns Y.C Y.Wg (i+1)) d5 a s) hi I l n d λe o d=>.stop ⟨e,rfl,d⟩) (m.step d.st).clear t
  refine eb.bind this ?_;rintro g s ⟨⟨a,rfl,h⟩,c⟩;refine⟨.leaf,D (by omega) a s ?_ c⟩
  grind
end
end
end Go.AM.R1
namespace Go.AM
section
open Go.Conc
def aJ.UW{σ:List aW}{s:St}(hh:aJ σ s){l:Nat}{B:aW}{L:Loc}(m:σ[l]?=aa B)(k:s.β[l]?=aa L)(p:(∃ E cs,B=.cells E cs)∨∃ H,B=.dz H) :
  aJ (σ.set l .dead) { s with β:=s.β.set l ⟨L.v,[]⟩ }/\Step σ s (σ.set l .dead) { s with β:=s.β.set l ⟨L.v,[]⟩ }:=by
 have g:l<σ.length:=(cg.1 m).1;have f:l<s.β.length:=(cg.1 k).1;have a:∀ l',(s.β.set l ⟨L.v,[]⟩)[l']?=if l=l' then aa ⟨L.v,[]⟩ else s.β[l']?:=by
  intro l'
  by_cases e:l=l'
  .subst e;rw[bg rfl,eX f]
  .rw[aY e,fE e]
 have c:∀ L'∈s.β.set l ⟨L.v,[]⟩,∀ b∈L'.bs,L'∈s.β:=by
  intro L' ga b hb;obtain⟨l',d⟩:=List.mem_iff_getElem?.1 ga;rw[a] at d;split at d
  .cases d;simp at hb
  .exact bM d
 have st:Step σ s (σ.set l .dead) { s with β:=s.β.set l ⟨L.v,[]⟩ }:=by
  refine⟨bc _,λ_ _ _=>rfl,λ_ _ _ h=>h,λ_ _ _ _=>rfl,λL' ga b hb=>.inr ⟨L',c L' ga b hb,hb⟩,?_,rfl,rfl,rfl,rfl⟩
  intro l' B' L' l7 ga
  by_cases e:l=l'
  .subst e;rw[m] at l7;cases l7;rw[k] at ga;cases ga;refine⟨.dead,⟨L.v,[]⟩,by rw[eX g],by rw[a,bg rfl],?_⟩
   rcases p with⟨E,cs,rfl⟩|⟨H,rfl⟩ <;> rfl
  .exact⟨B',L',by rw[fE e];exact l7,by rw[a,aY e];exact ga,.refl _ _⟩
 refine⟨⟨hh.mem,by simp[hh.len],?_,?_,λL' ga b hb=>hh.lt L' (c L' ga b hb) b hb,λb hb=>⟨(hh.own b hb).1,λL' ga rl=>(hh.own b hb).2 L' (c L' ga b rl) rl⟩⟩,st⟩
 .intro l' B' L' l7 ga
  by_cases e:l=l'
  .subst e;rw[eX g] at l7;cases l7;trivial
  .rw[fE e] at l7;rw[a,aY e] at ga;exact(hh.box l' B' L' l7 ga).carry st.ext hh.len λb hb=>⟨rfl,λo=>rfl⟩
 .intro n q L1 L2 h1 h2 b j i;rw[a] at h1 h2;split at h1
  .cases h1;simp at j
  .split at h2
   .cases h2;simp at i
   .exact hh.fT n q L1 L2 h1 h2 b j i
def c8.closed{σ σ':List aW}{s s':St}(e:s'.M=s.M){v:ak}{d:D}(h:c8 σ s v d)(a:uw 0 d=ab):c8 σ' s' v d:=by
 have h1:=c8.drop (σ1:=[]) (rest:=σ) h a;refine c8.mono (σ:=[]) (s:=s.cut 0) ⟨λb o v c=>by rw[e];exact c,λl B L f _=>by simp at f⟩ (by simp[St.cut]) h1
end
end Go.AM
namespace Go.AM.R1
section
open Go.Proofs Go.Conc Go.Conc.Lib
open Go.ConcN (WgLive PayAt Has RW AtR0)
open Go.ConcR (KK WgAt stA smA rd wr mk Payload DC0)
noncomputable def UX:Code:=wF (kP (kP (kP En)))
noncomputable def cR3:Code:=wF UX
noncomputable def Yg:Code:=kP (kP (kP En))
def RB:Yg=.seq (.seq cR3 (.block 0 (.loop iy))) nu:=by kernel_rfl
section
variable {σ0:List aW}{s0:St}{φ:Fr}{σ:List aW}{a:Act}{s:St}{S:au->St->Prop}
def At.goes{Wg:Nat}{j:au}:∀ (m:Nat)(g:au)(s:St),At σ0 s0 φ σ a s->WgLive 190 Wg s.w->Goes ah ab (fg 190 Wg) DC0 (λg _=>g=j) m g s.w ->
  (∀ c,At σ0 s0 φ σ a c->eZ (Cx.beside ah) S j c)->eZ (Cx.beside ah) S g s
 |0,g,s,h,_,f,K=>by
  obtain rfl:g=j:=f s.w (.refl _);exact K s h
 |m+1,g,s,h,hl,f,K=>by
  rcases f with f|⟨n,f⟩
  .obtain rfl:g=j:=f s.w (.refl _);exact K s h
  .refine .next n λc b=>?_
   have h1:=h.rely b.1;obtain⟨d,l⟩:=b.2;have i:WgLive 190 Wg c.w:=by rw[l];exact hl
   have h2:=f c.w (λ_=>i)
   cases e:aK ah ab g c.w with
   |go g' w' es =>
    rw[e,goes_go] at h2;obtain⟨⟨rfl,rfl⟩,o⟩:=h2;exact⟨g',c,#[],e,.quiet h1.hh,At.goes m g' c h1 i o K⟩
   |_=>rw[e] at h2;exact h2.elim
def kz{σ:List aW}{s:St}(b:∀ B∈σ,B=.dead){ds:List Deferred}{ls:List Nat}(h:oE σ s ds ls):ds=[]:=by
 cases ds with
 |nil=>rfl
 |cons d ds =>
  cases ls with
  |nil=>exact h.elim
  |cons l ls =>
   have:=b _ (bM h.1.1);cases this
end
section
variable {k:Int}{ps:List bw}{ns:List Int}{C:Nat}{xs:List ak}
variable (k ps ns C) in
def N6:Fr:=[(2,cI.sl ns),(3,.e (.one (.ptr 0 0))),(4,.e (.one (.ptr 1 0))),(8,.e (.one (.ptr 3 0))),(9,.e (.one (.ptr 4 0)))]
variable (k ps ns C xs) in
def Ah:List aW:=[.cells 3 [.c (.int .i64 k)],.cells 23 [.c (.sl ae 2 ps.length (cP.fn ps))],.dz (ia 193 2 (.row C ns.length) ns.length xs),.cells 182 [.c (.val (.slice (aa ⟨C,0,af⟩) ns.length ns.length))],.cells 190 [.c (.int .u64 0),.c (.int .u32 0)]]
variable (k ps ns) in
def M5(x i:Nat):ak:=if i=0 then .string ⟨((du k ps (ns.getD x 0)).getD []).toArray⟩ else .bool (du k ps (ns.getD x 0)).isSome
variable (k ps ns) in
def lZ:List ak:=ns.flatMap λn=>[.string ⟨((du k ps n).getD []).toArray⟩,.bool (du k ps n).isSome]
variable (k ps ns C) in
def Ep:List aW:=[.dead,.dead,.dz (ia 193 2 (.row C ns.length) ns.length (lZ k ps ns)),.dead,.dead]
def pR3{X:Cx ah}:AW X 45 cR3 (NQ ((18,cI.sl ns)::(19,dI ns.length)::(20,dI 0)::N6 ns) (Ah k ps ns C xs)) (N6 ns) (Ah k ps ns C xs):=by
 refine AK.of_code ?_;refine bm rfl av ⟨rfl,dC rfl ?_,rfl⟩;simp[ag.cat,ag,aR.same]
def wH:(lZ k ps ns).length=ns.length*2:=by
 unfold lZ
 induction ns with
 |nil=>rfl
 |cons n r b=>grind
def Ai:∀ {ns:List Int}{x i:Nat},x<ns.length->i<2->(lZ k ps ns)[2*x+i]?=aa (M5 k ps ns x i)
 |[],x,i,h,_=>by simp at h
 |n::r,0,i,_,hi=>by
  match i,hi with
  |0,_=>rfl
  |1,_=>rfl
 |n::r,x+1,i,h,hi=>by
  have:=Ai (ns:=r) (x:=x) (i:=i) (by simpa using h) hi
  unfold lZ at this ⊢;rw[List.flatMap_cons,gg (by simp;omega)]
  rw[show 2*(x+1)+i - [Value.string ⟨((du k ps n).getD []).toArray⟩,Value.bool (du k ps n).isSome].length=2*x+i by simp;omega]
  rw[this];simp[M5]
def _root_.Go.AM.cp.seen{N b:Nat}{d:D}{σ:List aW}{s:St}{φ:Fr}{a:Act}(f:cp N σ s φ a)(h:c8 σ s (a.tmps.getD b aj) d):cp N σ s ((b,d)::φ) a:=by
 refine⟨f.size,f.defers,λt=>?_⟩
 simp only[look];cases hb:aA b t with
 |false=>exact f.slot t
 |true=>rw[<-bT hb];exact h
abbrev KI(n C:Nat):Fr:=[(8,.e (.one (.c (.rp [.val (.slice (aa ⟨C,0,af⟩) n n)]))))]
variable (k ps ns C) in
abbrev UY:Fr:=(8,.e (.one (.c (.rp [.val (.slice (aa ⟨C,0,af⟩) ns.length ns.length)]))))::(4,.e (.one (.c (.rp [.sl ae 2 ps.length (cP.fn ps)]))))::(3,.e (.one (.c (.rp [.int .i64 k]))))::(18,cI.sl ns)::(19,dI ns.length)::(20,dI 0)::[(9,.e (.one (.ptr 4 0)))]
def UZ(hfe:dD (Cx.work ah) 142 (lY k)){Q:Post}(hn:ns.length<=4000000)(U0:qe (Cx.beside ah) 45 qm Q (KI ns.length C) (Ep k ps ns C)):qe (Cx.beside ah) 45 Yg Q (N6 ns) (Ah k ps ns C xs):=by
 intro so ao hf hho b kk cs S hb MM hQ;have h:At (Ah k ps ns C xs) so (N6 ns) (Ah k ps ns C xs) ao so:=⟨hf,hho,.refl _ _⟩;refine h.ctl rfl (λw=>vg RB) λs h=>?_
 refine h.ctl rfl (λw=>nQ) λs h=>?_
 refine h.code hb pR3 λa s h=>?_
 obtain⟨s1,w1,f1,I,Qo⟩:=cp.freeze 3 0 (E:=3) (cs:=[.c (.int .i64 k)]) (cc:=[.int .i64 k]) rfl rfl rfl h.fr h.hh;refine .ghost (.of h.hh I w1 (Qo.oo h.hh)) ?_;obtain⟨s2,w2,f2,J,oz⟩:=cp.freeze 4 1 (E:=23) (cs:=[.c (.sl ae 2 ps.length (cP.fn ps))]) (cc:=[.sl ae 2 ps.length (cP.fn ps)]) rfl rfl rfl f1 I;refine .ghost (.of I J w2 (oz.oo I)) ?_;obtain⟨s3,w3,f3,JU,NG⟩:=cp.freeze 8 3 (E:=182) (cs:=[.c (.val (.slice (aa ⟨C,0,af⟩) ns.length ns.length))]) (cc:=[.val (.slice (aa ⟨C,0,af⟩) ns.length ns.length)]) rfl rfl rfl f2 J;refine .ghost (.of J JU w3 (NG.oo J)) ?_;have h:At (Ah k ps ns C xs) so (UY k ps ns C)
   [.dead,.dead,.dz (ia 193 2 (.row C ns.length) ns.length xs),.dead,.cells 190 [.c (.int .u64 0),.c (.int .u32 0)]] a s3 :=
  ⟨f3.le (dC rfl (by simp[ag.cat,ag,aR.same])),JU,h.st.trans ((Qo.oo h.hh).trans ((oz.oo I).trans (NG.oo J)))⟩
 clear Qo oz NG f1 f2 f3 I J JU;refine h.ctl rfl (λw=>ru) λs h=>?_
 refine h.ctl rfl (λw=>Fg) λs h=>?_
 have hlen:=h.hh.len;simp only[eQ,gA] at hlen;obtain⟨K,z⟩:∃ L,s.β[2]?=aa L:=⟨_,bl (by omega)⟩
 obtain⟨L4,W⟩:∃ L,s.β[4]?=aa L:=⟨_,bl (by omega)⟩
 obtain⟨ch,hH,Jb,Qa,Wl⟩:=h.hh.box 2 _ K rfl z;obtain⟨zs,TH,U1,TJ⟩:=ia.lookup hH;obtain⟨hv2,_,ZP,_,_,_⟩:=hH;have O:C∈K.bs:=(Qa C).2 (by rw[U1];rfl)
 have U2:=Jb C _ U1;obtain⟨Wg,vs,A,U,I9,hM4⟩:=h.hh.box 4 _ L4 rfl W;have Yh:vs=[.int .u64 0,.int .u32 0]:=by
  match vs,I9 with
  |[],r=>exact r.elim
  |[_],r=>exact r.2.elim
  |_::_::_::_,r=>exact r.2.2.elim
  |[u0,u1],r =>
   have r0:Rd s.M u0 (.int .u64 0):=r.1;have r1:Rd s.M u1 (.int .u32 0):=r.2.1;cases r0;cases r1;rfl
 subst Yh;have Dg:C≠Wg:=by
  grind
 have hv9:a.tmps.getD 9 aj=.pointer (aa ⟨Wg,0,af⟩):=by
  obtain⟨_,L,bb,q1,q2,q3⟩:=h.fr.slot 9
  grind
 obtain⟨g1,t1⟩:=h.hh.UW (l:=2) rfl z (.inr ⟨_,rfl⟩);have Yi:(s.β.set 2 ⟨K.v,[]⟩)[4]?=aa L4:=by grind
 obtain⟨g2,t2⟩:=g1.UW (l:=4) (B:=.cells 190 [.c (.int .u64 0),.c (.int .u32 0)]) rfl Yi (.inl ⟨_,_,rfl⟩);generalize Wo:({ s with β:=(s.β.set 2 ⟨K.v,[]⟩).set 4 ⟨L4.v,[]⟩ }:St)=sB at g2 t2;have eβ:sB.β=(s.β.set 2 ⟨K.v,[]⟩).set 4 ⟨L4.v,[]⟩:=by rw[<-Wo]
 have eM:sB.M=s.M:=by rw[<-Wo]
 have P:sB.w=s.w:=by rw[<-Wo]
 have eo:sB.own=s.own:=by rw[<-Wo]
 have hhB:aJ d5 sB:=g2;have MQ:=(t1.oo h.hh).trans (t2.oo g1);have Yj:sB.β[2]?=aa ⟨K.v,[]⟩:=by grind
 have u:∀ L∈sB.β,∀ x∈L.bs,∃ l,l≠2/\l≠4/\s.β[l]?=aa L:=by
  intro L d x f;rw[eβ] at d;obtain⟨l,hl⟩:=List.mem_iff_getElem?.1 d
  grind
 have BE:C<s.w.heap.size:=h.hh.lt K (bM z) C O;have zI:Wg<s.w.heap.size:=h.hh.lt L4 (bM W) Wg (by rw[A];simp)
 have Yk:MP C sB:=⟨by rw[eo];exactλho=>(h.hh.own C ho).2 K (bM z) O,λL d f=>by
  obtain⟨l,n2,n4,hl⟩:=u L d C f;exact n2 (h.hh.fT l 2 L K hl z C f O),λo=>by rw[eM];exact Wl C O o,by rw[P];exact BE⟩
 have X:MP Wg sB:=⟨by rw[eo];exactλho=>(h.hh.own Wg ho).2 L4 (bM W) (by rw[A];simp),λL d f=>by
  obtain⟨l,n2,n4,hl⟩:=u L d Wg f;exact n4 (h.hh.fT l 4 L L4 hl W Wg f (by rw[A];simp)),λo=>by rw[eM];exact hM4 o,by rw[P];exact zI⟩
 have fB:cp 45 d5 sB (mX k ps ns C Wg 0) a:=by
  have q:=h.fr.mono MQ h.hh.len;have q9:cp 45 d5 sB ((9,.e (.one (.v (.pointer (aa ⟨Wg,0,af⟩)))))::UY k ps ns C) a:=q.seen (by rw[hv9];exact Rd.val rfl)
  exact q9.le (dC rfl (by simp[ag.cat,ag,aR.same]))
 have Z:(xs++zs).toArray.size=2*ns.length:=by grind
 have Nv:∀ x,(s.own x∨∃ L∈s.β,x∈L.bs)->x<s.w.heap.size:=λx f=>f.elim (λq=>(h.hh.own x q).1) λ⟨L,d,q⟩=>h.hh.lt L d x q
 refine .xw (T:=λg' s'=>∃ a4 m,At (Ah k ps ns C xs) so (KI ns.length C) (Ep k ps ns C) a4 s'/\WgLive 190 Wg s'.w/\Goes ah ab (fg 190 Wg) DC0 (λg _=>g=G (b.aT (a4.put (aa 28) (.tuple #[])) (.inRegion xM []::.code qm::kk)) cs) m g' s'.w)
  (To.fork (n:=ns.length) (ty:=190) (val:=M5 k ps ns) (N:=2*ns.length) (s0:=sB) 2 (by omega) Wg C (by omega) Dg (.of h.hh hhB P MQ) rfl ⟨K,bM z,O⟩ ⟨L4,bM W,by rw[A];simp⟩ Nv ?_ U ⟨_,U2,Z⟩ ?_) ?_
 .rintro x (rfl|rfl)
  .exact⟨Yk.own,Yk.β,Yk.M⟩
  .exact⟨X.own,X.β,X.M⟩
 .intro Y hYW hYC hYk;subst hYW hYC;refine⟨TF k ps ns Y d5 sB b kk cs,Wn k ps ns Y d5 sB b kk cs,λg s f=>anF X MM f,?_,?_⟩
  .refine N5 hfe hYk X MM hb (by decide) hn (λi hi=>rfl) (λi hi=>rfl) ns.length (bc _) a sB ⟨by rw[pG];exact fB,hhB,.refl _ _⟩ ⟨_,_,by rw[P];exact U⟩
  .rintro g' s' ⟨a4,⟨j,KF⟩,m,hgo⟩ hm' U3 RD Yl ya;obtain⟨o1,o2,o3⟩:=ya Y.C (.inl rfl);obtain⟨l8,V,ac9⟩:=U3;have Wf:l8=(lZ k ps ns).toArray:=by
    apply Array.ext_getElem?
    intro o;have eo':(lZ k ps ns).toArray[o]?=(lZ k ps ns)[o]?:=by simp
    rw[eo'];rcases cx o (2*ns.length) with ho|ho
    .have q1:=RD (o / 2) (by omega) (o % 2) (by omega)
     have q2:=Ai (k:=k) (ps:=ps) (ns:=ns) (x:=o / 2) (i:=o % 2) (by omega) (by omega)
     rw[show 2*(o / 2)+o % 2=o by omega] at q1 q2
     rw[q2];simpa[aZ,V] using q1
    .rw[uK (by omega),qq (by rw[wH];omega)]
   subst Wf;have A8:s'.β.length=5:=j.hh.len;obtain⟨B2',L2',p1,p2,p3⟩:=j.st.box 2 .dead ⟨K.v,[]⟩ rfl Yj;have adb:L2'.v=.nilFunc:=by
    cases p1;exact(show L2'.v=K.v from p3).trans hv2
   have R:∀ (l:Nat) (B:aW),d5[l]?=aa B->B=.dead:=by
    intro l B p
    match l,p with
    |0,p|1,p|2,p|3,p|4,p=>cases p;rfl
   have D:∀ l,(s'.β.set 2 ⟨.nilFunc,[Y.C]⟩)[l]?=if l=2 then aa ⟨.nilFunc,[Y.C]⟩ else s'.β[l]?:=by
    grind
   have F:∀ L∈s'.β.set 2 ⟨.nilFunc,[Y.C]⟩,L=⟨.nilFunc,[Y.C]⟩∨L∈s'.β:=λL d=>by
    grind
   have Wh:aJ (Ep k ps ns Y.C) { s' with β:=s'.β.set 2 ⟨.nilFunc,[Y.C]⟩ }:=by
    refine⟨j.hh.mem,by simp[A8,Ep],?_,?_,?_,λx f=>⟨(j.hh.own x f).1,λL d y=>?_⟩⟩
    .intro l B L p d;rw[D] at d
     by_cases e:l=2
     .subst e;rw[bg rfl] at d;cases d;cases p;refine⟨λb'=>if b'=Y.C then aa (.cells (lZ k ps ns++[]).toArray 193 (0,0)) else af,⟨rfl,?_,wH,bc _,by omega,[],by simp[wH],rfl⟩,λb' ob H=>?_,λb'=>?_,λb' H o=>?_⟩
      .intro x f;simp only[lZ,List.mem_flatMap] at f;obtain⟨_,_,f⟩:=f;simp only[eY,qY,or_false] at f;rcases f with rfl|rfl <;> rfl
      .by_cases e:b'=Y.C
       .subst e;simp only[cj] at H;cases H;rw[ik];exact V
       .simp[e] at H
      .by_cases e:b'=Y.C <;> simp[e]
      .simp at H;subst H;exact o3 o
     .match l,p,e with
      |0,p,_|1,p,_|3,p,_|4,p,_=>cases p;trivial
      |2,_,e=>exact absurd rfl e
    .intro l l' L L' d ga x f QH;rw[D] at d ga
     by_cases e:l=2
     .grind
     .rw[aY e] at d
      by_cases e':l'=2
      .grind
      .rw[aY e'] at ga;exact j.hh.fT l l' L L' d ga x f QH
    .intro L d x f;rcases F L d with rfl|d
     .simp at f;subst f;exact Yl
     .exact j.hh.lt L d x f
    .rcases F L d with rfl|d
     .simp at y;subst y;exact o1 f
     .exact(j.hh.own x f).2 L d y
   have Ym:cw [.dead,.dead,.dz (ia 193 2 (.row Y.C ns.length) ns.length xs),.dead,.cells 190 [.c (.int .u64 0),.c (.int .u32 0)]] s (Ep k ps ns Y.C) { s' with β:=s'.β.set 2 ⟨.nilFunc,[Y.C]⟩ }:=by
    have q:=j.st;refine⟨by have:=q.size;rw[P] at this;exact this,λx f=>by have:=q.eB x (by rw[eo];exact f);rw[P] at this;exact this,λx o v f=>q.mem x o v (by rw[eM];exact f),λx f hnx o=>?_,λL d x f=>?_,?_,by rw[q.os,P],by rw[q.tape,P],by rw[q.output,P],by rw[q.own,eo]⟩
    .rw[q.jk x (by rw[P];exact f) (λL d y=>by
      obtain⟨l,_,_,hl⟩:=u L d x y
      grind) o,eM]
    .rcases F L d with rfl|d
     .grind
     .rcases q.uo L d x f with r1|⟨L0,r1,r2⟩
      .rw[P] at r1;exact .inl r1
      .obtain⟨l,_,_,hl⟩:=u L0 r1 x r2
       grind
    .intro l B L p d;obtain⟨B1,L1,r1,r2,r3⟩:=MQ.box l B L p d;obtain⟨B3,L3,u1,u2,u3⟩:=q.box l B1 L1 r1 r2;have eB1:=R l B1 r1;have eB3:=R l B3 u1;subst eB1 eB3
     by_cases e:l=2
     .subst e;cases p;rw[z] at d;cases d;exact⟨_,⟨.nilFunc,[Y.C]⟩,rfl,by rw[D,bg rfl],hv2.symm⟩
     .refine⟨.dead,L3,?_,by rw[D,aY e];exact u2,r3.trans u3⟩
      match l,u1,e with
      |0,_,_|1,_,_|3,_,_|4,_,_=>rfl
      |2,_,e=>exact absurd rfl e
   refine⟨{ s' with β:=s'.β.set 2 ⟨.nilFunc,[Y.C]⟩ },⟨a4,m,⟨⟨j.fr.size,⟨[],?_⟩,λt=>?_⟩,Wh,h.st.trans Ym⟩,KF,hgo⟩,rfl,hm',λSh Wp hnC=>⟨Wp.own,λx f L d y=>?_,Wp.M,Wp.lt⟩⟩
   .obtain⟨ls,Q6⟩:=j.fr.defers;rw[kz (λB p=>by simp at p;exact p) Q6]
    trivial
   .have fq:cp 45 d5 s' (KI ns.length Y.C) a4:=j.fr.le (dC rfl (by simp[ag.cat,ag]))
    exact c8.closed (s:=s') (s':={ s' with β:=s'.β.set 2 ⟨.nilFunc,[Y.C]⟩ }) rfl (fq.slot t) (pU rfl)
   .rcases F L d with rfl|d
    .simp at y;subst y;exact hnC f
    .exact Wp.β x f L d y
 .rintro g' s' ⟨a4,m,h4,hl4,hgo⟩;refine At.goes m g' s' h4 hl4 hgo λs1 h1=>?_
  have h2:At (Ah k ps ns C xs) so ((28,.any)::KI ns.length C) (Ep k ps ns C) (a4.put (aa 28) (.tuple #[])) s1:=⟨h1.fr.put (by decide) av,h1.hh,h1.st⟩
  refine h2.ctl rfl (λw=>iS) λs2 h3=>?_
  refine U0 s2 _ (h3.fr.le (dC rfl (by simp[ag.cat,ag]))) h3.hh b kk cs S hb MM λe φ' σ' s' a' q f' h' qd=>hQ e φ' σ' s' a' q f' h' (h3.st.trans qd)
end
end
section
open Go.Proofs
abbrev Yn(a:List Bs)(b:Bool):D:=.eN [.one (.c (.sl ae 1 a.length (cS.fn a))),.one (.c (.bool b))]
def eg(k:Int)(ps:List bw)(ns:List Int):Option (List Bs):=if ns.all (λn=>(du k ps n).isSome) then aa (ns.map λn=>(du k ps n).getD []) else af
noncomputable def cR0:Code:=wF En
noncomputable def cR1:Code:=wF (kP En)
noncomputable def cR2:Code:=wF (kP (kP En))
def N7:Tryz.f114.body=aa (.seq cR0 (.seq cR1 (.seq cR2 Yg))):=by kernel_rfl
def RE(k:Int)(ps:List bw)(ns:List Int)(i:Nat):List AM.C:=[.str ((du k ps (ns.getD i 0)).getD []),.bool (du k ps (ns.getD i 0)).isSome]
def uD(k:Int)(ps:List bw)(ns:List Int):List Bs:=ns.map λn=>(du k ps n).getD []
def Cf{b p:Bs}(h:fa b=aa p):p.length<=8:=by
 unfold fa at h;split at h
 .rename_i a
  cases h;simp only[bO,bL,bd] at a;omega
 .cases h
def Hk{k:Int}{x:cz}{p:Bs}(h:chunk k x=aa p):p.length<=8:=by
 unfold chunk at h;split at h
 .rename_i q a
  split at h
  .cases h;exact Cf a
  .cases h
 .cases h
def yw{k:Int}{ps:List bw}{n:Int}:((du k ps n).getD []).length<=8:=by
 cases h:du k ps n with
 |none=>simp
 |some p =>
  obtain⟨q,_,a⟩:=List.exists_of_findSome?_eq_some h;unfold dW at a;split at a
  .simpa using Hk a
  .cases a
def RF{k:Int}{ps:List bw}{ns:List Int}{i:Nat}(hi:i<ns.length){M:Mem}{j:Nat}{c:AM.C}{x:ak}(a:(RE k ps ns i)[j]?=aa c)(b:(lZ k ps ns)[i*2+j]?=aa x):Rd M x c:=by
 have d:j<2:=(cg.1 a).1;have:=Ai (k:=k) (ps:=ps) hi d;rw[jD,this] at b;cases b
 match j,d with
 |0,_ =>
  cases a;have:=yw (k:=k) (ps:=ps) (n:=ns.getD i 0);exact .str rfl (by omega)
 |1,_=>cases a;exact .bool
def _root_.Go.AM.qe.le{P:aq}{X:Cx P}{N:Nat}{Q:Post}{φ b:Fr}{σ:List aW}{c:Code}(h:qe X N c Q b σ)(hl:rZ φ b):qe X N c Q φ σ:=λs a f hh=>h s a (f.le hl) hh
def Cc{k:Int}(g:dD (Cx.work ah) 142 (lY k))(ps:List bw)(ns:List Int)(t:ns.length<=4000000) :
  Ev (Cx.beside ah) 114 [dI k,cP.sl ps,cI.sl ns] [] (Yn ((eg k ps ns).getD []) (eg k ps ns).isSome) []:=by
 refine cD.ux (cD.DX (ι:=Unit) Tryz.func114 rfl N7 rfl λv=>?_)
 show qe _ 45 _ _ _ _;refine qe.seq (AW.top (AK.of_code ?_));refine bm rfl av ?_;show qe _ 45 _ _ _ _;refine qe.seq (AW.top (AK.of_code ?_));refine bm rfl av ?_;refine AK.Jd (E:=193) (n:=ns.length) tok rfl rfl rfl rfl rfl rfl (by show _*24<=_;omega) (by omega) rfl rfl λC xs=>?_
 refine bm rfl av ?_;show qe _ 45 _ _ _ _;refine qe.seq (AW.top (AK.of_code ?_));refine bm rfl av ?_;show qe _ 45 _ _ _ _;have a:qe (Cx.beside ah) 45 qm (λe φ σ1=>∃ _:Unit,bZ Tryz.f114 0 (Yn ((eg k ps ns).getD []) (eg k ps ns).isSome) [] e φ σ1) (KI ns.length C) (Ep k ps ns C):=by
  refine AW.top (AW.mono (Q:=bZ Tryz.f114 0 (Yn ((eg k ps ns).getD []) (eg k ps ns).isSome) []) (AK.of_code ?_) λ_ _ _ q=>⟨(),q⟩)
  refine bm rfl (show _<=_ by omega) ?_
  refine AK.Dz 29 2 (bf:=.row C ns.length) (n:=ns.length) (k:=2) (RE k ps ns) rfl rfl (λi hi=>⟨rfl,λM j c x u r=>?_⟩) ?_
  .exact RF hi u r
  refine AK.ix 12 9 1 rfl rfl ?_;refine AK.bJ 6 (λi=>i<=ns.length/\∀ j,j<i->(du k ps (ns.getD j 0)).isSome=ab) (λi:Nat=>[(29,.e (.one (.c (.sl ae 2 ns.length (RE k ps ns))))),(30,dI ns.length),(31,dI i),(12,.e (.one (.vec 5 1 (uD k ps (ns.take i)).length (cS.fn (uD k ps (ns.take i))))))]) (λi=>[.dead,.dead,.dead,.dead,.dead,.vec 9 1 (uD k ps (ns.take i)).length (cS.fn (uD k ps (ns.take i)))]) (λi=>ns.length-i) 0 rfl ?_ rfl ?_ rfl ⟨by omega,by omega⟩ ?_
  .simp[ag.cat,ag,aR,aR.same,uD]
  .simp[ag.cat,ag,aR,uD]
  rintro i ⟨hi,p⟩
  by_cases h:i<ns.length
  .cases o:(du k ps (ns.getD i 0)).isSome with
   |true =>
    have d:uD k ps (ns.take (i+1))=uD k ps (ns.take i)++[(du k ps (ns.getD i 0)).getD []]:=by
     unfold uD;rw[j3,bl h,me]
     grind
    have s:(uD k ps (ns.take i)).length<=4000000:=by simp[uD];omega
    refine aX [(32,ab),(37,ae)] 200 rfl ?_ (AK.aQ (i+1) rfl ?_ ?_ ?_ ?_)
    .simp[-ai,ag,h,RE,o,bx];have:i9.bytes=16:=rfl;rw[this];omega
    .rw[d];simp[-ai,ag.cat,ag,aR.same,RE];exact cS.cm _ _
    .rw[d];simp[-ai,ag.cat,ag,aR.same,RE];exact cS.cm _ _
    .grind
    .omega
   |false =>
    refine aX [(32,ab),(37,ab)] 200 rfl ?_ (AK.ee (bZ.zero rfl ?_))
    .simp[-ai,ag,h,RE,o]
    .have m:eg k ps ns=af:=by
      unfold eg;rw[aY]
      grind
     simp[ag.cat,ag,m]
  .have l:i=ns.length:=by omega
   subst l;refine aX [(32,ae)] 200 rfl (by simp[ag]) (AK.leaveD rfl rfl ?_)
   refine dE rfl av (AK.bo rfl ?_);have b:eg k ps ns=aa (uD k ps ns):=by
    unfold eg;rw[bg]
    .rfl
    .rw[List.all_eq_true];intro n f;obtain⟨j,w,rfl⟩:=lH.1 f
     grind
   simp[ag.cat,ag,b,aR.same]
 exact qe.le (σ:=Ah k ps ns C xs) (UZ (xs:=xs) g t a) (dC rfl (by simp[ag.cat,ag,aR.same]))
end
end Go.AM.R1
namespace Go.AM.R1
def jS(a:UInt8)(s:Bs):iB (a::s)=if a=47 then 0 else if iB s=-1 then -1 else iB s+1:=by
 unfold iB;rw[Lib.indexByte.eq_def];simp
def vh:iB []=-1:=by unfold iB;rw[Lib.indexByte.eq_def]
def HP(s:Bs):eH s=dr s:=by
 by_cases g:s.length<=3
 .match s,g with
  |[],_=>simp[eH,dr,cq,jy,vh]
  |[a],_ =>
   by_cases d:a=47
   .subst d;simp[eH,dr,cq,jy,mI,jY,jS,l3,cy]
   .simp[eH,dr,cq,jy,jY,jS,vh,d,l3,cy]
  |[a,b],_ =>
   by_cases d:a=47
   .subst d;simp[eH,dr,cq,jy,mI,jY,jS]
   .by_cases e:b=47
    .subst e;simp[eH,dr,cq,jy,mI,jY,jS,d]
    .simp[eH,dr,cq,jy,jY,jS,vh,d,e]
  |[a,b,c],_ =>
   by_cases d:a=47
   .subst d;simp[eH,dr,cq,jy,mI,jY,jS,l3,cy]
   .by_cases e:b=47
    .subst e;simp[eH,dr,cq,jy,mI,jY,jS,d,l3,cy]
    .have f:¬(b.toNat:Int)=47:=by
      intro h;apply e;apply pD.1;simp;omega
     by_cases i:c=47
     .subst i;simp[eH,dr,cq,jy,mI,jY,jS,d,e,l3,cy]
     .simp[eH,dr,cq,jy,jY,jS,vh,d,e,i,f,l3,cy]
  |_::_::_::_::_,h=>simp at h
 .have j:dr s=ae:=by unfold dr;grind
  rw[j];cases k:eH s with
  |false=>rfl
  |true=>exact absurd (tZ k) g
end Go.AM.R1
namespace Go.AM
def sk(a:Bs):bk a []=ae:=by rw[Op.bytesLess.eq_def]
def wV(b:UInt8)(l:Bs):bk [] (b::l)=ab:=by rw[Op.bytesLess.eq_def]
def sq(a b:UInt8)(x y:Bs):bk (a::x) (b::y)=(decide (a<b)||a==b&&bk x y):=by rw[Op.bytesLess.eq_def]
def pZ:∀ a:Bs,bk a a=ae
 |[]=>sk []
 |a::l=>by rw[sq,pZ l];simp
def Cr:∀ a b:Bs,bk a b=ab∨a=b∨bk b a=ab
 |[],[]=>.inr (.inl rfl)
 |[],b::y=>.inl (wV b y)
 |a::x,[]=>.inr (.inr (wV a x))
 |a::x,b::y=>by
  rw[sq,sq];rcases Cr x y with h|h|h
  .grind
  .grind
  grind
def wW:∀ {a b c:Bs},bk a b=ab->bk b c=ab->bk a c=ab
 |a,b,[],_,d=>by rw[sk] at d;cases d
 |a,[],c::z,e,_=>by rw[sk] at e;cases e
 |[],b::y,c::z,_,_=>wV c z
 |a::x,b::y,c::z,e,d=>by
  rw[sq,mP,bO,bd,gR] at e d ⊢;rcases e with e|⟨rfl,e⟩
  .grind
  .rcases d with d|⟨rfl,d⟩
   .exact .inl d
   .exact .inr ⟨rfl,wW e d⟩
def Cs{a b:Bs}(h:bk a b=ab):bk b a=ae:=by
 cases c:bk b a with
 |false=>rfl
 |true=>have:=wW h c;rw[pZ] at this;cases this
def R9{a b:Bs}:(!(bk b a||b==a))=bk a b:=by
 rcases Cr a b with h|h|h
 .have c:(b==a)=ae:=by
   simp only[dv,cT];rintro rfl;rw[pZ] at h;cases h
  rw[h,Cs h,c];rfl
 .subst h;simp[pZ]
 .rw[h,Cs h];rfl
namespace R1
def Vt{t:List bE}{i:Nat}(h:∀ k,0<k->k<=i->bk (fu t (k-1)) (fu t k)=ab):∀ j,j<i->bk (fu t j) (fu t i)=ab:=by
 intro j f
 induction i with
 |zero=>omega
 |succ i d =>
  have c:=h (i+1) (by omega) (bc _)
  simp only[nJ] at c
  by_cases e:j=i
  .subst e;exact c
  .exact wW (d (λk a b=>h k a (by omega)) (by omega)) c
def ua{s:Bs}(h:dr s=ab):(∃ a,s=[a])∨∃ a b,s=[a,47,b]:=by
 unfold dr at h;split at h
 .rename_i d
  match s,d with
  |[a],_=>exact .inl ⟨a,rfl⟩
 .split at h
  .rename_i d
   match s,d with
   |[a,b,c],_ =>
    right
    simp[l3,cy] at h;have e:b=47:=by apply pD.1;simp;omega
    exact⟨a,c,by rw[e]⟩
  .cases h
def Ct{p q:Bs}(k:dr p=ab)(j:dr q=ab)(f:bk p q=ab):clash p q=under q p:=by
 rcases ua k with⟨a,rfl⟩|⟨a,b,rfl⟩ <;> rcases ua j with⟨c,rfl⟩|⟨c,d,rfl⟩
 .simp[clash,under,k8]
 .by_cases e:a=c
  .subst e;simp[clash,under,k8,cy]
  .have:¬(a.toNat:Int)=c.toNat:=λh=>e (pD.1 (by omega))
   have g:((a.toNat:Int)==(c.toNat:Int))=ae:=by rw[dv];exact this
   have i:(c==a)=ae:=by grind
   simp[clash,under,k8,cy];rw[g,i]
 .have:¬(a.toNat:Int)=c.toNat:=by
   intro h;have e:a=c:=pD.1 (by omega)
   subst e;rw[sq,sk] at f;simp at f
  simp[clash,under,k8,cy,this]
 .simp[clash,under,k8]
def yN{t:List bE}{i:Nat}(a:∀ j,j<i->gp t j=ab):je t i=gp t i:=by
 unfold je gp;rw[HP,R9];cases d:dr (fu t i) with
 |false=>simp
 |true =>
  cases h:dN (Aw t i) with
  |false=>simp
  |true =>
   cases n:(i==0||bk (fu t (i-1)) (fu t i)) with
   |false=>simp
   |true =>
    simp only[dF];have g:∀ j,j<i->bk (fu t j) (fu t i)=ab:=by
     apply Vt
     intro k l f
     by_cases e:k=i
     .grind
     .have:=a k (by omega)
      simp only[gp,bO,mP,gR] at this;exact this.1.2.resolve_left (by omega)
    rw[nL,b6,b6];have m:∀ j,j<i->clash (fu t j) (fu t i)=under (fu t i) (fu t j):=by
     intro j c;have b:dr (fu t j)=ab:=by
      have:=a j c;simp only[gp,bO] at this;exact this.1.1.1
     exact Ct b d (g j c)
    grind
def Hf(t:List bE):oe t=dj t:=by
 unfold oe dj
 congr 1
 rw[nL,b6,b6]
 constructor
 .intro h i
  induction i using Nat.strongRecOn with
  |_ i b=>intro hi;rw[<-yN (λj a=>b j a (by omega))];exact h i hi
 .intro h i hi;rw[yN (λj a=>h j (by omega))]
  exact h i hi
end R1
end Go.AM
namespace Go.AM.R1
section
open Go.Proofs
variable {X:Cx ah}
def fileOf(k:Int)(ps:List bw)(x:gG):Option bE:=match eg k ps x.2 with
 |none=>af
 |some l=>match fM l with
  |none=>af
  |some t=>aa (x.1,t)
def cV(k:Int)(ps:List bw)(l:List gG):List bE:=l.map λx=>(fileOf k ps x).getD ([],[])
def cG(k:Int)(s:cN)(ps:List bw):Option (List bE) :=
 if cA k&&s.2.all (λx=>(fileOf k ps x).isSome)&&dj (cV k ps s.2) then aa (cV k ps s.2) else af
abbrev Rv(a:List bE)(b:Bool):D:=.eN [.one (.c (.sl ae 2 a.length (cF.fn a))),.one (.c (.bool b))]
abbrev Ca(s:cN):D:=.e (.agg [.c (.int .i64 s.1),.c (.sl ae 2 s.2.length (cL.fn s.2))])
def ph{k:Int}{ps:List bw}{l:List gG}{i:Nat}(h:i<l.length):cV k ps (l.take (i+1))=cV k ps (l.take i)++[(fileOf k ps (l.getD i ([],[]))).getD ([],[])]:=by
 unfold cV;rw[j3,bl h,me]
 grind
def pj{k:Int}{ps:List bw}{s:cN}{i:Nat}(h:i<s.2.length)(a:fileOf k ps (s.2.getD i ([],[]))=af):cG k s ps=af:=by
 unfold cG;rw[aY]
 grind
def xK{k:Int}{ps:List bw}{ns:List Int}{l:List Bs}(h:eg k ps ns=aa l)(b:ns.length<=4000000):l.flatten.length<=140737488355328/\l.length<=4000000:=by
 unfold eg at h;split at h
 .rename_i a
  cases h;refine⟨?_,by simpa using b⟩
  have key:∀ ns:List Int,(ns.all λn=>(du k ps n).isSome)=ab->(ns.map λn=>(du k ps n).getD []).flatten.length<=8*ns.length:=by
   intro ns
   induction ns with
   |nil=>intro _;simp
   |cons n ns ih =>
    intro h;simp only[List.all_cons,bO] at h;have:=ih h.2;have c:=yw (k:=k) (ps:=ps) (n:=n)
    grind
  have:=key ns a;omega
 .cases h
def Cb(k:Int)(s:cN)(ps:List bw)(K:s.2.length<=4000000)(G:∀ x∈s.2,x.2.length<=4000000) :
  Ev (Cx.beside ah) 98 [dI k,Ca s,cP.sl ps] [] (Rv ((cG k s ps).getD []) (cG k s ps).isSome) []:=by
 refine Ev.bQ Tryz.func98 rfl λD=>?_
 have z:=D.sl 2 rfl;have a:bD (Cx.beside ah) [(68,kN aI (λk=>dB (cA k)) λ_=>[])]:=.cons t68 .nil
 cases m:cA k with
 |false =>
  refine aE a [(15,ae),(16,ab)] 100 rfl ?_ (AK.bo rfl ?_)
  .simp[ag,m]
  .simp[ag,ag.cat,cG,m]
 |true =>
  have u:dD (Cx.work ah) 142 (lY k):=Rr UF m;refine aE a [(15,ab),(16,ae),(1000004,ab)] 100 rfl ?_ ?_
  .simp[ag,m]
  refine AK.ix 8 129 2 rfl rfl ?_;refine aE a [] 100 rfl av ?_;refine AK.bJ 2 (λi=>i<=s.2.length/\∀ j,j<i->(fileOf k ps (s.2.getD j ([],[]))).isSome=ab) (λi:Nat=>[(0,dI k),(2,cP.sl ps),(4,.e (.one (.ptr 0 0))),(8,.e (.one (.vec 1 2 (cV k ps (s.2.take i)).length (cF.fn (cV k ps (s.2.take i)))))),(18,cL.sl s.2),(19,dI s.2.length),(20,dI i)]) (λi=>[.cells 59 [.c (.int .i64 s.1),.c (.sl ae 2 s.2.length (cL.fn s.2))],.vec 129 2 (cV k ps (s.2.take i)).length (cF.fn (cV k ps (s.2.take i)))]) (λi=>s.2.length-i) 0 rfl ?_ rfl ?_ rfl ⟨by omega,by omega⟩ ?_
  .simp[ag.cat,ag,aR.same,aR.nil,cV]
  .simp[ag.cat,ag,aR.same,aR.nil,cV]
  rintro i ⟨hi,y⟩
  by_cases h:i<s.2.length
  .have o:s.2.getD i ([],[])∈s.2:=by grind
   generalize d:s.2.getD i ([],[])=x at o;have n:=G x o;have f:=Cc u ps x.2 n;cases b:eg k ps x.2 with
   |none =>
    rw[b] at f;refine aE a [(21,ab)] 100 rfl ?_ ?_
    .exact⟨by omega,by omega,ck (by omega)⟩
    refine AK.cQ (d▸f) [] rfl ?_;refine aE a [(33,ab)] 100 rfl ?_ (AK.ee (bZ.zero rfl ?_))
    .simp[ag]
    .have e:fileOf k ps x=af:=by simp[fileOf,b]
     rw[pj h (by rw[d];exact e)]
     simp[ag,ag.cat]
   |some l =>
    obtain⟨q,H⟩:=xK b n;rw[b] at f;have r:=Ek (X:=Cx.beside ah) l q;refine aE a [(21,ab)] 100 rfl ?_ ?_
    .exact⟨by omega,by omega,ck (by omega)⟩
    refine AK.cQ (d▸f) [] rfl ?_;refine aE a [(33,ae)] 100 rfl ?_ ?_
    .simp[ag]
    refine AK.cQ r [] rfl ?_;cases B:fM l with
    |none =>
     refine aE a [(40,ab)] 100 rfl ?_ (AK.ee (bZ.zero rfl ?_))
     .simp[ag]
     .have e:fileOf k ps x=af:=by simp[fileOf,b,B]
      rw[pj h (by rw[d];exact e)]
      simp[ag,ag.cat]
    |some t =>
     have e:fileOf k ps x=aa (x.1,t):=by simp[fileOf,b,B]
     have F:s.2.getD (i:Int).toNat cL.bC=x:=d;have I:(cV k ps (s.2.take i)).length<=4000000:=by simp[cV];omega
     have v:aR ((cV k ps (s.2.take i)).length+1) (cJ (cV k ps (s.2.take i)).length (cF.fn (cV k ps (s.2.take i))) λp=>[[C.str (s.2.getD (i:Int).toNat cL.bC).1,C.str ((aa t).getD [])]].getD p []) (cF.fn (cV k ps (s.2.take (i+1)))):=by
      rw[ph h,d,e,F];exact cF.cm (cV k ps (s.2.take i)) (x.1,t)
     have A:(cV k ps (s.2.take i)).length+1=(cV k ps (s.2.take (i+1))).length:=by rw[ph h];simp
     refine aE a [(40,ae)] 100 rfl ?_ (AK.aQ (i+1) rfl ?_ ?_ ?_ ?_)
     .refine⟨by simp only[bx];omega,rfl,rfl,?_,rfl⟩
      show _*32<=_;omega
     .refine ag.cat.2 ⟨rfl,ag.cat.2 ⟨⟨rfl,aR.same⟩,ag.cat.2 ⟨av,ag.cat.2 ⟨⟨A,v⟩,ag.cat.2 ⟨⟨rfl,aR.same⟩,ag.cat.2 ⟨rfl,ag.cat.2 ⟨?_,av⟩⟩⟩⟩⟩⟩⟩;simp[ag]
     .exact ag.cat.2 ⟨ag.cat.2 ⟨rfl,ag.cat.2 ⟨⟨rfl,aR.same⟩,av⟩⟩,ag.cat.2 ⟨⟨A,v⟩,av⟩⟩
     .grind
     .omega
  .have e:i=s.2.length:=by omega
   subst e;refine aE a [(21,ae)] 100 rfl (by simp[ag]) (AK.leaveD rfl rfl ?_)
   rw[bY];have g:=El (X:=Cx.beside ah) (cV k ps s.2);rw[Hf] at g;refine aE a [] 100 rfl av ?_;refine AK.cQ g [] rfl ?_;have E:s.2.all (λx=>(fileOf k ps x).isSome)=ab:=List.all_eq_true.2 λx o=>by
    obtain⟨j,J,rfl⟩:=lH.1 o
    grind
   cases w:dj (cV k ps s.2) with
   |false =>
    refine aE a [(51,ab)] 100 rfl ?_ (AK.bo rfl ?_)
    .simp[ag]
    .simp[ag,ag.cat,cG,w]
   |true =>
    refine aE a [(51,ae)] 100 rfl ?_ (AK.bo rfl ?_)
    .simp[ag]
    .simp[ag,ag.cat,cG,w,m,E,aR.same]
abbrev a9:=List bw×List cN×List (Int×Int)
def jQ(s:a9):Prop:=∀ x∈s.2.1,x.2.length<=4000000/\∀ y∈x.2,y.2.length<=4000000
abbrev ey(s:a9):D:=.e (.agg [.c (.sl ae 2 s.1.length (cP.fn s.1)),.c (.sl ae 2 s.2.1.length (cr.fn s.2.1)),.c (.sl ae 2 s.2.2.length (cH.fn s.2.2))])
def yx:dg:=Di aI (B7 cL) (aL cP) (λk s ps=>Rv ((cG k s ps).getD []) (cG k s ps).isSome) λ_ s _=>[s.2.length<=4000000,∀ x∈s.2,x.2.length<=4000000]
def Hg:dD (Cx.beside ah) 98 yx:=.IN λk s ps h=>Cb k s ps h.1 h.2
def N0:Arg a9:=⟨ey,λd=>match d with
 |.e (.agg [.c a,.c b,.c c])=>match lh 2 (.e (.one (.c a))) with
  |some (g,m)=>match lh 2 (.e (.one (.c b))) with
   |some (n,i)=>match lh 2 (.e (.one (.c c))) with
    |some (k,l)=>aa ((cP.list g m,cr.list n i,cH.list k l),[cP.fits g m,cr.fits n i,cH.fits k l])
    |none=>af
   |none=>af
  |none=>af
 |_=>af,λ{d a o} h j σ s v r=>by
 split at h
 .split at h
  .rename_i g m q
   split at h
   .rename_i n i u
    split at h
    .rename_i k l y
     cases h;obtain⟨vs,w,f⟩:=r
     match vs,f with
     |[],f=>exact f.elim
     |[_],f=>exact f.2.elim
     |[_,_],f=>exact f.2.2.elim
     |_::_::_::_::_,f=>exact f.2.2.2.elim
     |[x,t,p],f =>
      exact⟨_,w,cP.kn (σ:=[]) (s:=s) (v:=x) q j.1 f.1,cr.kn (σ:=[]) (s:=s) (v:=t) u j.2.1 f.2.1,cH.kn (σ:=[]) (s:=s) (v:=p) y j.2.2 f.2.2.1,av⟩
    .cases h
   .cases h
  .cases h
 .cases h⟩
abbrev fN(p:bw)(i:Nat):cz:=p.2.getD i (0,[])
def iF(k:Int)(p:bw)(i:Nat):Bool:=right k (fN p i)&&(i==0||decide ((fN p (i-1)).1<(fN p i).1))
def tc(k:Int)(p:bw):jq k p=((bh p.2.length).all (iF k p)&&(cA k&&decide (1<=p.1)&&decide (p.1<=99)&&decide (1<=p.2.length)&&decide (p.2.length<=4))):=by
 have e:(p.2.all (right k)&&Af (p.2.map (·.1)))=(bh p.2.length).all (iF k p):=by
  rw[nL,bO,List.all_eq_true,List.all_eq_true];unfold Af;rw[List.all_eq_true];have d:∀ i,i<p.2.length->(p.2.map (·.1)).getD i 0=(fN p i).1:=λi hi=>by grind
  constructor
  .rintro⟨a,c⟩ i hi;have hi:=rf.1 hi;have q:=c i (by simpa using hi)
   rw[d i hi] at q;unfold iF;rw[a (fN p i) (by grind),dF]
   rcases oN i with rfl|f
   .rfl
   grind
  .intro h;refine⟨λx b=>?_,λi hi=>?_⟩
   .obtain⟨i,hi,rfl⟩:=lH.1 b;have:=h i (rf.2 hi);simp only[iF,bO] at this
    grind
   .have hi:i<p.2.length:=by simpa using hi
    have:=h i (rf.2 hi);simp only[iF,bO] at this
    grind
 rw[<-e];unfold jq;cases cA k <;> cases decide (1<=p.1) <;> cases decide (p.1<=99) <;> cases decide (1<=p.2.length) <;> cases decide (p.2.length<=4) <;> simp
def yy{k:Int}{p:bw}{i:Nat}(hi:i<p.2.length)(h:iF k p i=ae):jq k p=ae:=by
 rw[tc]
 grind
def qH{k:Int}{x:cz}(a:cA k=ab):(chunk k x).isSome=right k x:=by
 unfold chunk right
 grind
def Hh(k:Int)(p:bw)(b:cA k=ab)(v:p.2.length<=4000000):Ev X 94 [dI k,vf p] [] (dB (jq k p)) []:=by
 refine Ev.bQ Tryz.func94 rfl λy=>?_
 have a:bD X [(68,kN aI (λk=>dB (cA k)) λ_=>[]),(110,ow S9 aI (λx k=>Ac (chunk k x)) λ_ k=>[cA k=ab])]:=.cons t68 (.cons (Kt UF) .nil)
 refine aE a [] 100 rfl av ?_;refine AK.bJ 1 (λi=>i<=p.2.length/\∀ j,j<i->iF k p j=ab) (λi:Nat=>[(0,dI k),(3,.e (.one (.ptr 0 0))),(10,dx.sl p.2),(11,dI p.2.length),(12,dI i)]) (λ_=>[.cells 55 [.c (.int .i64 p.1),.c (sP p)]]) (λi=>p.2.length-i) 0 rfl ?_ rfl ?_ rfl ⟨by omega,by omega⟩ ?_
 .simp[ag.cat,ag,aR.same]
 .simp[ag.cat,ag,aR.same]
 rintro i ⟨hi,g⟩
 by_cases h:i<p.2.length
 .cases l:right k (fN p i) with
  |false =>
   have q:(chunk k (fN p i)).isSome=ae:=by rw[qH b];exact l
   refine aE a [(13,ab),(24,ab),(40,ab)] 100 rfl ?_ (AK.ee (bZ.zero rfl ?_))
   .refine⟨rfl,?_,b,by omega,by omega,ck (by omega)⟩
    grind
   .rw[yy h (by simp only[iF,l,pF])]
    simp[ag]
  |true =>
   have q:(!(chunk k (fN p i)).isSome)=ae:=by rw[qH b,l];rfl
   by_cases t:i=0
   .subst t;refine aE a [(13,ab),(24,ae),(27,ae),(40,ae)] 100 rfl ?_ (AK.aQ 1 rfl ?_ ?_ ⟨by omega,λj m=>?_⟩ (by omega))
    .simp only[ag,bx]
     grind
    .simp[ag.cat,ag,aR.same]
    .simp[ag.cat,ag,aR.same]
    .have:j=0:=by omega
     subst this;simp only[iF,l,dF];rfl
   .have u:((i:Int)-1).toNat=i-1:=by omega
    cases s:decide ((fN p (i-1)).1<(fN p i).1) with
    |false =>
     refine aE a [(13,ab),(24,ae),(27,ab),(38,ab),(40,ab)] 100 rfl ?_ (AK.ee (bZ.zero rfl ?_))
     .have o:(p.2.getD ((i:Int)-1).toNat dx.bC).1=(fN p (i-1)).1:=by rw[u];rfl
      refine⟨rfl,ck ?_,by omega,by omega,by simp only[bx];omega,ck (by omega),q,b,by omega,by omega,ck (by omega)⟩
      rw[o];show (fN p i).1<=_
      grind
     .rw[yy h (by simp only[iF,l,s,dF,Bool.or_false];simpa using t)]
      simp[ag]
    |true =>
     refine aE a [(13,ab),(24,ae),(27,ab),(38,ae),(40,ae)] 100 rfl ?_ (AK.aQ (i+1) rfl ?_ ?_ ⟨by omega,λj m=>?_⟩ (by omega))
     .have o:(p.2.getD ((i:Int)-1).toNat dx.bC).1=(fN p (i-1)).1:=by rw[u];rfl
      refine⟨by simp only[bx];omega,rfl,dY ?_,by omega,by omega,by simp only[bx];omega,ck (by omega),q,b,by omega,by omega,ck (by omega)⟩
      rw[o];show ¬(fN p i).1<=_
      grind
     .simp[ag.cat,ag,aR.same]
     .simp[ag.cat,ag,aR.same]
     .rcases qR.1 m with m|rfl
      .exact g j m
      .simp only[iF,l,s,dF,Bool.or_true]
 .have e:i=p.2.length:=by omega
  subst e;refine aE a [(13,ae)] 100 rfl (by simp[ag]) (AK.leaveD rfl rfl ?_)
  have w:(bh p.2.length).all (iF k p)=ab:=List.all_eq_true.2 λj m=>g j (rf.1 m)
  rw[tc,w,b]
  by_cases d:1<=p.1
  .by_cases f:p.1<=99
   .by_cases n:1<=p.2.length
    .by_cases r:p.2.length<=4
     .refine aE a [(43,ab),(47,ab),(52,ab),(58,ab),(64,ab)] 100 rfl ?_ (AK.bo rfl ?_)
      .exact⟨ck (by omega),ck (by omega),ck f,ck d,b⟩
      .simp[ag,d,f,n,r]
     .refine aE a [(43,ab),(47,ab),(52,ab),(58,ab),(64,ae)] 100 rfl ?_ (AK.bo rfl ?_)
      .exact⟨dY (by omega),ck (by omega),ck f,ck d,b⟩
      .simp[ag,d,f,n,r]
    .refine aE a [(43,ab),(47,ab),(52,ab),(58,ae)] 100 rfl ?_ (AK.bo rfl ?_)
     .exact⟨dY (by omega),ck f,ck d,b⟩
     .simp[ag,d,f,n]
   .refine aE a [(43,ab),(47,ab),(52,ae)] 100 rfl ?_ (AK.bo rfl ?_)
    .exact⟨dY f,ck d,b⟩
    .simp[ag,d,f]
  .refine aE a [(43,ab),(47,ae)] 100 rfl ?_ (AK.bo rfl ?_)
   .exact⟨dY d,b⟩
   .simp[ag,d]
def F0:dg:=ow aI (B7 dx) (λk p=>dB (jq k p)) λk p=>[cA k=ab,p.2.length<=4000000]
def N1:dD X 94 F0:=.qG λk p h=>Hh k p h.1 h.2
def Ho(l:List (Int×Int))(f:l.length<=4000000):Ev X 45 [cH.sl l] [] (.e (.one (.bp 0 (.sl l.length 2 0 l.length)))) [.buf 86 2 l.length (cH.fn l)]:=by
 refine Ev.bQ Tryz.func45 rfl λd=>?_
 refine bm rfl av ?_;refine AK.BN tok rfl rfl rfl rfl rfl rfl λb c=>?_
 cases b with
 |true =>
  obtain rfl:=gf (c rfl);refine bm rfl av ?_;refine AK.Re 2 86 2 (cH.fn []) rfl ?_;refine AK.dA [0] rfl ?_ rfl rfl rfl (λj a=>absurd a (by simp))
  simp[ag]
 |false =>
  refine aX [] 7 rfl av ?_;refine AK.we 5 86 2 (cH.fn []) rfl ?_;refine bm rfl ⟨rfl,rfl,show (0+l.length)*16<=_ by omega⟩ ?_
  refine AK.norm [.buf 86 2 l.length (cH.fn l)] rfl ?_ ?_
  .simp[ag.cat,ag,aR,cJ]
  refine AK.dA [0] rfl ?_ rfl rfl rfl (λj a=>absurd a (by simp))
  simp[ag];rfl
def wI(l:List (Int×Int))(d:l.length<=4000000):Ev X 45 [cH.sl l] [] (cH.sl l) []:=by
 refine Ev.bQ Tryz.func45 rfl λc=>?_
 refine bm rfl av ?_;refine AK.BN tok rfl rfl rfl rfl rfl rfl λb a=>?_
 cases b with
 |true =>
  obtain rfl:=gf (a rfl);refine bm rfl av ?_;refine AK.bo rfl ?_;simp[ag,ag.cat,aR]
 |false =>
  refine bm rfl ⟨show (0+l.length)*16<=_ by omega,.inl rfl⟩ ?_
  refine AK.bo rfl ?_;simp[ag,ag.cat,aR,cJ]
def Er(l:List cz)(d:l.length<=4000000):Ev X 80 [dx.sl l] [] (dx.sl l) []:=by
 refine Ev.bQ Tryz.func80 rfl λc=>?_
 refine bm rfl av ?_;refine AK.BN tok rfl rfl rfl rfl rfl rfl λb a=>?_
 cases b with
 |true =>
  obtain rfl:=gf (a rfl);refine bm rfl av ?_;refine AK.bo rfl ?_;simp[ag,ag.cat,aR]
 |false =>
  refine bm rfl ⟨show (0+l.length)*24<=_ by omega,.inl rfl⟩ ?_
  refine AK.bo rfl ?_;simp[ag,ag.cat,aR,cJ]
def Et(l:List Int)(d:l.length<=4000000):Ev X 81 [cI.sl l] [] (cI.sl l) []:=by
 refine Ev.bQ Tryz.func81 rfl λc=>?_
 refine bm rfl av ?_;refine AK.BN tok rfl rfl rfl rfl rfl rfl λb a=>?_
 cases b with
 |true =>
  obtain rfl:=gf (a rfl);refine bm rfl av ?_;refine AK.bo rfl ?_;simp[ag,ag.cat,aR]
 |false =>
  refine bm rfl ⟨show (0+l.length)*8<=_ by omega,.inl rfl⟩ ?_
  refine AK.bo rfl ?_;simp[ag,ag.cat,aR,cJ]
end
end Go.AM.R1
namespace Go.AM
section
open Go.Conc (G)
section
variable {P:aq}{X:Cx P}{N:Nat}{K:List It}{φ:Fr}{σ:List aW}
def AK.dk{ι:Type}{T:List (Nat×TI)}{fn:Func}{h:Nat}{res:ι->D}{σ':ι->List aW}(i:ι)(ks:List Nat){l:Nat}{E:ar}{cs:List A}{t:Tmp}{ty:ar}{b:TI}{ps:List Prop}
  (p:fn.results.toList=[.cell t ty]) (hi:bA T ty=aa b) (q:b.agg=ab) (m:look φ t=.e (.one (.ptr l 0))) (hl:fA l σ=aa (.cells E cs)) (a:aA cs.length b.size=ab) (f:fI l ks=ae)
  (g:Bo (.e (.agg cs)) (jm ks (res i))=aa ps) (o:ag ps) (d:uw ks.length (res i)=ab) (n:kA ks σ=aa (σ' i)) (c:ki (σ' i)=ab) (hn:dM ks=ab) (k:∀ j,j<h->ks[j]?=aa j) :
  AK X N (λe φ σ1=>∃ j,NH T fn h (res j) (σ' j) e φ σ1) (.code .ret::K) .normal φ σ :=
 AK.ret ⟨i,.inl rfl,ks,l,E,cs,t,ty,b,ps,p,hi,q,bT a,m,dw hl,BS f,g,o,d,n,c,hn,k⟩
def Ev.iV{T:List (Nat×TI)}(d:db P T){f:aV}{fn:Func}{c:Code}{args:List D}{σ σ':List aW}{res:D}(g:P.funcs[f]?=aa fn)(b:(fn.name== "runtime.NumGoroutine")=ae)(hb:fn.body=aa c)(a:bq args.length fn.ntmps=ab)
  (h:Fits args σ->AK X fn.ntmps (λe φ σ1=>∃ _:Unit,NH T fn σ.length res σ' e φ σ1) [.code c] .normal (hU 0 args) σ):Ev X f args σ res σ' :=
 (cD.gy (ι:=Unit) (σ':=λ_=>σ') (res:=λ_=>res) d g b hb a h).ux
end
end
end Go.AM
namespace Go.AM.R1
section
open Go.Proofs
variable {X:Cx ah}
def _root_.Go.AM.hZ.gH{α:Type}(c:hZ α)(l:List α){i:Nat}(h:i<l.length)(d:α):aR (i+1) (cJ i (c.fn (l.take i)) (λq=>[c.enc (l.getD i d)].getD q [])) (c.fn (l.take (i+1))):=by
 have e:l.take (i+1)=l.take i++[l.getD i d]:=by rw[j3];simp[ai,bl h]
 have:=c.cm (l.take i) (l.getD i d);rw[<-e,show (l.take i).length=i by simp;omega] at this
 exact this
abbrev Vg:dg:=kN (aL dx) (λl=>dx.sl l) λl=>[l.length<=4000000]
def Yq:dD X 80 Vg:=.oH λl h=>Er l h
abbrev Vh:dg:=kN (aL cI) (λl=>cI.sl l) λl=>[l.length<=4000000]
def Yr:dD X 81 Vh:=.oH λl h=>Et l h
def Am(p:bw)(a:p.2.length<=4000000):Ev X 43 [vf p] [] (vf p) []:=by
 refine Ev.iV tok Tryz.func43 rfl rfl rfl λd=>?_
 have c:bD X [(80,Vg)]:=.cons Yq .nil;refine aE c [] 100 rfl ?_ ?_
 .simp only[ag,dx.list_fn];exact⟨dx.aH _,a⟩
 refine AK.dk () [] rfl rfl rfl rfl rfl rfl rfl rfl ?_ rfl rfl rfl rfl (λj b=>absurd b (by simp))
 simp[ag,ag.cat,aR.same,dx.list_fn]
abbrev F4:dg:=kN (B7 dx) (λp=>vf p) λp=>[p.2.length<=4000000]
def KN:dD X 43 F4:=.oH λp h=>Am p h
def An(x:cN)(k:x.2.length<=4000000)(f:∀ y∈x.2,y.2.length<=4000000):Ev X 44 [Ca x] [] (Ca x) []:=by
 refine Ev.iV tok Tryz.func44 rfl rfl rfl λl=>?_
 have a:bD X [(81,Vh)]:=.cons Yr .nil;refine aE a [(1000002,ab)] 100 rfl av ?_;refine AK.gi 2 1 90 2 (cL.fn []) rfl rfl ?_;refine aE a [] 100 rfl av ?_;refine AK.bJ 4 (λi=>i<=x.2.length) (λi:Nat=>[(2,.e (.one (.ptr 1 0))),(3,.e (.one (.ptr 2 0))),(10,cL.sl x.2),(11,dI x.2.length),(12,dI i)])
  (λi=>[.cells 59 [.c (.int .i64 x.1),.c (.sl ae 2 x.2.length (cL.fn x.2))],.cells 59 [.c (.int .i64 0),.c (.sl ab 0 0 λ_=>[])],.cells 59 [.c (.int .i64 x.1),.vec 3 2 i (cL.fn (x.2.take i))],.vec 90 2 i (cL.fn (x.2.take i))]) (λi=>x.2.length-i) 0 rfl ?_ rfl ?_ rfl (by omega) ?_
 .simp[ag.cat,ag,aR.same]
 .simp[ag.cat,ag,aR]
 intro i hi
 by_cases h:i<x.2.length
 .have d:x.2.getD i ([],[])∈x.2:=by rw[ai,bl h];exact nH h
  refine aE a [(13,ab)] 100 rfl ?_ (AK.aQ (i+1) rfl ?_ ?_ ?_ ?_)
  .have q:=f _ d;have b:x.2.getD (i:Int).toNat cL.bC=x.2.getD i ([],[]):=by rw[bt];rfl
   simp only[ag,b,cI.list_fn,bx];exact⟨by omega,av,av,show (i+1)*40<=_ by omega,cI.aH _,q,by omega,by omega,ck (by omega)⟩
  .simp[ag.cat,ag,aR.same]
  .have b:x.2.getD (i:Int).toNat cL.bC=x.2.getD i ([],[]):=by rw[bt];rfl
   have e:=cL.gH x.2 h ([],[]);simp only[ag.cat,ag,b,cI.list_fn,aF,aG];exact⟨aR.same,aR.same,e,e⟩
  .show i+1<=_;omega
  .omega
 .obtain rfl:i=x.2.length:=by omega
  refine aE a [(13,ae)] 100 rfl (by simp[ag]) (AK.leaveD rfl rfl ?_)
  refine aE a [] 100 rfl av ?_;refine AK.dk () [] rfl rfl rfl rfl rfl rfl rfl rfl ?_ rfl rfl rfl rfl (λj g=>absurd g (by simp))
  simp[ag,ag.cat,aR.same,aR]
abbrev F5:dg:=kN (B7 cL) (λx=>Ca x) λx=>[x.2.length<=4000000,∀ y∈x.2,y.2.length<=4000000]
def KO:dD X 44 F5:=.oH λx h=>An x h.1 h.2
abbrev dm:A:=.c (.sl ab 0 0 λ_=>[])
def iz(s:a9)(o:s.1.length<=4000000)(g:∀ p∈s.1,p.2.length<=4000000)(n:s.2.1.length<=4000000)(f:jQ s)(l:s.2.2.length<=4000000) :
  Ev X 24 [ey s] [] (.e (.agg [.bp 0 (.sl s.1.length 2 0 s.1.length),.bp 1 (.sl s.2.1.length 2 0 s.2.1.length),.c (.sl ae 2 s.2.2.length (cH.fn s.2.2))])) [.buf 55 2 s.1.length (cP.fn s.1),.buf 59 2 s.2.1.length (cr.fn s.2.1)]:=by
 refine Ev.iV tok Tryz.func24 rfl rfl rfl λm=>?_
 have a:bD X [(43,F4),(44,F5)]:=.cons KN (.cons KO .nil);refine aE a [(1000002,ab)] 100 rfl av ?_;refine AK.nq 2 0 55 2 (cP.fn []) rfl rfl ?_;refine AK.nq 2 1 59 2 (cr.fn []) rfl rfl ?_;refine aE a [] 100 rfl av ?_;refine AK.bJ 5 (λi=>i<=s.1.length) (λi:Nat=>[(1,.e (.one (.ptr 0 0))),(2,.e (.one (.ptr 1 0))),(3,.e (.one (.ptr 2 0))),(9,cP.sl s.1),(10,dI s.1.length),(11,dI i)])
  (λi=>[.cells 27 [.c (.sl ae 2 s.1.length (cP.fn s.1)),.c (.sl ae 2 s.2.1.length (cr.fn s.2.1)),.c (.sl ae 2 s.2.2.length (cH.fn s.2.2))],.cells 27 [dm,dm,dm],.cells 27 [.bp 3 (.sl i 2 0 i),.bp 4 (.sl 0 2 0 0),dm],.buf 55 2 i (cP.fn (s.1.take i)),.buf 59 2 0 (cr.fn [])]) (λi=>s.1.length-i) 0 rfl ?_ rfl ?_ rfl (by omega) ?_
 .simp[ag.cat,ag,aR.same]
 .simp[ag.cat,ag,aR]
 intro i hi
 by_cases h:i<s.1.length
 .have d:s.1.getD i (0,[])∈s.1:=by grind
  have b:s.1.getD (i:Int).toNat cP.bC=s.1.getD i (0,[]):=by rw[bt];rfl
  refine aE a [(12,ab)] 100 rfl ?_ (AK.aQ (i+1) rfl ?_ ?_ ?_ ?_)
  .have q:=g _ d;simp only[ag,b,dx.list_fn,bx];exact⟨by omega,av,av,show (i+1)*32<=_ by omega,dx.aH _,q,by omega,by omega,ck (by omega)⟩
  .simp[ag.cat,ag,aR.same]
  .have e:=cP.gH s.1 h (0,[]);simp only[ag.cat,ag,b,dx.list_fn,aF,aG];exact⟨⟨aR.same,aR.same,aR.same⟩,⟨aR.same,aR.same,aR.same⟩,⟨rfl,aR.same⟩,e,aR.same⟩
  .show i+1<=_;omega
  .omega
 obtain rfl:i=s.1.length:=by omega
 rw[bY];refine aE a [(12,ae)] 100 rfl (by simp[ag]) (AK.leaveD rfl rfl ?_)
 refine aE a [] 100 rfl av ?_;refine AK.bJ 5 (λi=>i<=s.2.1.length) (λi:Nat=>[(1,.e (.one (.ptr 0 0))),(2,.e (.one (.ptr 1 0))),(3,.e (.one (.ptr 2 0))),(24,cr.sl s.2.1),(25,dI s.2.1.length),(26,dI i)])
  (λi=>[.cells 27 [.c (.sl ae 2 s.1.length (cP.fn s.1)),.c (.sl ae 2 s.2.1.length (cr.fn s.2.1)),.c (.sl ae 2 s.2.2.length (cH.fn s.2.2))],.cells 27 [dm,dm,dm],.cells 27 [.bp 3 (.sl s.1.length 2 0 s.1.length),.bp 4 (.sl i 2 0 i),dm],.buf 55 2 s.1.length (cP.fn s.1),.buf 59 2 i (cr.fn (s.2.1.take i))]) (λi=>s.2.1.length-i) 0 rfl ?_ rfl ?_ rfl (by omega) ?_
 .simp[ag.cat,ag,aR.same]
 .simp[ag.cat,ag,aR.same,aR]
 intro i hi
 by_cases h:i<s.2.1.length
 .have d:s.2.1.getD i (0,[])∈s.2.1:=by grind
  have b:s.2.1.getD (i:Int).toNat cr.bC=s.2.1.getD i (0,[]):=by rw[bt];rfl
  refine aE a [(27,ab)] 100 rfl ?_ (AK.aQ (i+1) rfl ?_ ?_ ?_ ?_)
  .have q:=f _ d;simp only[ag,b,cL.list_fn,bx];exact⟨by omega,av,av,show (i+1)*32<=_ by omega,cL.aH _,q.1,q.2,by omega,by omega,ck (by omega)⟩
  .simp[ag.cat,ag,aR.same]
  .have e:=cr.gH s.2.1 h (0,[]);simp only[ag.cat,ag,b,cL.list_fn,aF,aG];exact⟨⟨aR.same,aR.same,aR.same⟩,⟨aR.same,aR.same,aR.same⟩,⟨rfl,aR.same⟩,aR.same,e⟩
  .show i+1<=_;omega
  .omega
 obtain rfl:i=s.2.1.length:=by omega
 rw[bY];refine aE a [(27,ae)] 100 rfl (by simp[ag]) (AK.leaveD rfl rfl ?_)
 refine aE a [] 100 rfl av ?_;refine AK.cQ (wI s.2.2 l) [] rfl ?_;refine aE a [] 100 rfl av ?_;refine AK.dk () [3,4] rfl rfl rfl rfl rfl rfl rfl rfl ?_ rfl rfl rfl rfl (λj k=>absurd k (by simp))
 .simp[ag.cat,ag,aR.same]
def wJ(s:a9)(o:s.1.length<=4000000)(g:∀ p∈s.1,p.2.length<=4000000)(n:s.2.1.length<=4000000)(f:jQ s)(l:s.2.2.length<=4000000) :
  Ev X 24 [ey s] [] (.e (.agg [.bp 0 (.sl s.1.length 2 0 s.1.length),.bp 1 (.sl s.2.1.length 2 0 s.2.1.length),.bp 2 (.sl s.2.2.length 2 0 s.2.2.length)])) [.buf 55 2 s.1.length (cP.fn s.1),.buf 59 2 s.2.1.length (cr.fn s.2.1),.buf 86 2 s.2.2.length (cH.fn s.2.2)]:=by
 refine Ev.iV tok Tryz.func24 rfl rfl rfl λm=>?_
 have a:bD X [(43,F4),(44,F5)]:=.cons KN (.cons KO .nil);refine aE a [(1000002,ab)] 100 rfl av ?_;refine AK.nq 2 0 55 2 (cP.fn []) rfl rfl ?_;refine AK.nq 2 1 59 2 (cr.fn []) rfl rfl ?_;refine aE a [] 100 rfl av ?_;refine AK.bJ 5 (λi=>i<=s.1.length) (λi:Nat=>[(1,.e (.one (.ptr 0 0))),(2,.e (.one (.ptr 1 0))),(3,.e (.one (.ptr 2 0))),(9,cP.sl s.1),(10,dI s.1.length),(11,dI i)])
  (λi=>[.cells 27 [.c (.sl ae 2 s.1.length (cP.fn s.1)),.c (.sl ae 2 s.2.1.length (cr.fn s.2.1)),.c (.sl ae 2 s.2.2.length (cH.fn s.2.2))],.cells 27 [dm,dm,dm],.cells 27 [.bp 3 (.sl i 2 0 i),.bp 4 (.sl 0 2 0 0),dm],.buf 55 2 i (cP.fn (s.1.take i)),.buf 59 2 0 (cr.fn [])]) (λi=>s.1.length-i) 0 rfl ?_ rfl ?_ rfl (by omega) ?_
 .simp[ag.cat,ag,aR.same]
 .simp[ag.cat,ag,aR]
 intro i hi
 by_cases h:i<s.1.length
 .have d:s.1.getD i (0,[])∈s.1:=by grind
  have b:s.1.getD (i:Int).toNat cP.bC=s.1.getD i (0,[]):=by rw[bt];rfl
  refine aE a [(12,ab)] 100 rfl ?_ (AK.aQ (i+1) rfl ?_ ?_ ?_ ?_)
  .have q:=g _ d;simp only[ag,b,dx.list_fn,bx];exact⟨by omega,av,av,show (i+1)*32<=_ by omega,dx.aH _,q,by omega,by omega,ck (by omega)⟩
  .simp[ag.cat,ag,aR.same]
  .have e:=cP.gH s.1 h (0,[]);simp only[ag.cat,ag,b,dx.list_fn,aF,aG];exact⟨⟨aR.same,aR.same,aR.same⟩,⟨aR.same,aR.same,aR.same⟩,⟨rfl,aR.same⟩,e,aR.same⟩
  .show i+1<=_;omega
  .omega
 obtain rfl:i=s.1.length:=by omega
 rw[bY];refine aE a [(12,ae)] 100 rfl (by simp[ag]) (AK.leaveD rfl rfl ?_)
 refine aE a [] 100 rfl av ?_;refine AK.bJ 5 (λi=>i<=s.2.1.length) (λi:Nat=>[(1,.e (.one (.ptr 0 0))),(2,.e (.one (.ptr 1 0))),(3,.e (.one (.ptr 2 0))),(24,cr.sl s.2.1),(25,dI s.2.1.length),(26,dI i)])
  (λi=>[.cells 27 [.c (.sl ae 2 s.1.length (cP.fn s.1)),.c (.sl ae 2 s.2.1.length (cr.fn s.2.1)),.c (.sl ae 2 s.2.2.length (cH.fn s.2.2))],.cells 27 [dm,dm,dm],.cells 27 [.bp 3 (.sl s.1.length 2 0 s.1.length),.bp 4 (.sl i 2 0 i),dm],.buf 55 2 s.1.length (cP.fn s.1),.buf 59 2 i (cr.fn (s.2.1.take i))]) (λi=>s.2.1.length-i) 0 rfl ?_ rfl ?_ rfl (by omega) ?_
 .simp[ag.cat,ag,aR.same]
 .simp[ag.cat,ag,aR.same,aR]
 intro i hi
 by_cases h:i<s.2.1.length
 .have d:s.2.1.getD i (0,[])∈s.2.1:=by grind
  have b:s.2.1.getD (i:Int).toNat cr.bC=s.2.1.getD i (0,[]):=by rw[bt];rfl
  refine aE a [(27,ab)] 100 rfl ?_ (AK.aQ (i+1) rfl ?_ ?_ ?_ ?_)
  .have q:=f _ d;simp only[ag,b,cL.list_fn,bx];exact⟨by omega,av,av,show (i+1)*32<=_ by omega,cL.aH _,q.1,q.2,by omega,by omega,ck (by omega)⟩
  .simp[ag.cat,ag,aR.same]
  .have e:=cr.gH s.2.1 h (0,[]);simp only[ag.cat,ag,b,cL.list_fn,aF,aG];exact⟨⟨aR.same,aR.same,aR.same⟩,⟨aR.same,aR.same,aR.same⟩,⟨rfl,aR.same⟩,aR.same,e⟩
  .show i+1<=_;omega
  .omega
 obtain rfl:i=s.2.1.length:=by omega
 rw[bY];refine aE a [(27,ae)] 100 rfl (by simp[ag]) (AK.leaveD rfl rfl ?_)
 refine aE a [] 100 rfl av ?_;refine AK.cQ (Ho s.2.2 l) [] rfl ?_;refine aE a [] 100 rfl av ?_;refine AK.dk () [3,4,5] rfl rfl rfl rfl rfl rfl rfl rfl ?_ rfl rfl rfl rfl (λj k=>absurd k (by simp))
 .simp[ag.cat,ag,aR.same]
def oJ{α:Type}(q:α->Bool)(l:List α):Int:=match l.findIdx? q with|some i=>i|none=>-1
def pX{α:Type}{q:α->Bool}{t:List α}{i:Nat}{d:α}(hi:i<t.length)(h:q (t.getD i d)=ab)(a:∀ j,j<i->q (t.getD j d)=ae):oJ q t=i:=by
 have:t.findIdx? q=aa i:=by
  rw[vm]
  grind
 rw[oJ,this]
def lG{α:Type}{q:α->Bool}{t:List α}{d:α}(a:∀ j,j<t.length->q (t.getD j d)=ae):oJ q t=-1:=by
 have:t.findIdx? q=af:=by
  rw[uI];intro f b;obtain⟨j,c,rfl⟩:=dX b
  grind
 rw[oJ,this]
def N9(l:List bw)(o:l.length<=4000000)(b:Nat)(cs:List C)(q:bw->Bool)(g:∀ x,x∈l->Ev X b [vf x,.e (.one (.c (.rp cs)))] [] (dB (q x)) []) :
  Ev X 74 [.e (.one (.bp 0 (.sl l.length 2 0 l.length))),.e (.one (.c (.fn (.func b) [] [.rp cs])))] [.buf 55 2 l.length (cP.fn l)] (dI (oJ q l)) [.buf 55 2 l.length (cP.fn l)]:=by
 refine Ev.bQ Tryz.func74 rfl λn=>?_
 refine bm rfl av ?_;refine AK.bJ 1 (λi=>i<=l.length/\∀ j,j<i->q (l.getD j (0,[]))=ae) (λi:Nat=>[(0,.e (.one (.bp 0 (.sl l.length 2 0 l.length)))),(1,.e (.one (.c (.fn (.func b) [] [.rp cs])))),(7,dI l.length),(8,dI i)]) (λ_=>[.buf 55 2 l.length (cP.fn l)]) (λi=>l.length-i) 0 rfl ?_ rfl ?_ rfl ⟨by omega,by omega⟩ ?_
 .simp[ag.cat,ag,aR.same]
 .simp[ag.cat,ag,aR.same]
 rintro i ⟨hi,a⟩
 by_cases h:i<l.length
 .have f:l.getD i (0,[])∈l:=by grind
  have k:l.getD ((0+(i:Int).toNat:Nat)) cP.bC=l.getD i (0,[]):=by simp;rfl
  refine aX [(9,ab)] 100 rfl ?_ ?_
  .simp only[ag]
   grind
  rw[k];refine AK.cQ (g _ f) [] rfl ?_;cases d:q (l.getD i (0,[])) with
  |true =>
   refine aX [(16,ab)] 100 rfl ?_ (AK.ee (bZ.mk [0] rfl ?_ rfl rfl rfl lX))
   .simp[ag]
   .simp[ag,pX h d a]
  |false =>
   refine aX [(16,ae)] 100 rfl ?_ (AK.aQ (i+1) rfl ?_ ?_ ?_ ?_)
   .simp[ag,bx];omega
   .simp[ag.cat,ag,aR.same]
   .simp[ag.cat,ag,aR.same]
   .grind
   .omega
 .refine aX [(9,ae)] 100 rfl (by simp[ag];omega) (AK.leaveD rfl rfl ?_)
  refine bm rfl av (AK.dA [0] rfl ?_ rfl rfl rfl lX);simp[ag,lG (λj m=>a j (by omega))]
def Oa(l:List cN)(o:l.length<=4000000)(b:Nat)(cs:List C)(q:cN->Bool)(g:∀ x,x∈l->Ev X b [Ca x,.e (.one (.c (.rp cs)))] [] (dB (q x)) []) :
  Ev X 82 [.e (.one (.bp 0 (.sl l.length 2 0 l.length))),.e (.one (.c (.fn (.func b) [] [.rp cs])))] [.buf 59 2 l.length (cr.fn l)] (dI (oJ q l)) [.buf 59 2 l.length (cr.fn l)]:=by
 refine Ev.bQ Tryz.func82 rfl λn=>?_
 refine bm rfl av ?_;refine AK.bJ 1 (λi=>i<=l.length/\∀ j,j<i->q (l.getD j (0,[]))=ae) (λi:Nat=>[(0,.e (.one (.bp 0 (.sl l.length 2 0 l.length)))),(1,.e (.one (.c (.fn (.func b) [] [.rp cs])))),(7,dI l.length),(8,dI i)]) (λ_=>[.buf 59 2 l.length (cr.fn l)]) (λi=>l.length-i) 0 rfl ?_ rfl ?_ rfl ⟨by omega,by omega⟩ ?_
 .simp[ag.cat,ag,aR.same]
 .simp[ag.cat,ag,aR.same]
 rintro i ⟨hi,a⟩
 by_cases h:i<l.length
 .have f:l.getD i (0,[])∈l:=by grind
  have k:l.getD ((0+(i:Int).toNat:Nat)) cr.bC=l.getD i (0,[]):=by simp;rfl
  refine aX [(9,ab)] 100 rfl ?_ ?_
  .simp only[ag]
   grind
  rw[k];refine AK.cQ (g _ f) [] rfl ?_;cases d:q (l.getD i (0,[])) with
  |true =>
   refine aX [(16,ab)] 100 rfl ?_ (AK.ee (bZ.mk [0] rfl ?_ rfl rfl rfl lX))
   .simp[ag]
   .simp[ag,pX h d a]
  |false =>
   refine aX [(16,ae)] 100 rfl ?_ (AK.aQ (i+1) rfl ?_ ?_ ?_ ?_)
   .simp[ag,bx];omega
   .simp[ag.cat,ag,aR.same]
   .simp[ag.cat,ag,aR.same]
   .grind
   .omega
 .refine aX [(9,ae)] 100 rfl (by simp[ag];omega) (AK.leaveD rfl rfl ?_)
  refine bm rfl av (AK.dA [0] rfl ?_ rfl rfl rfl lX);simp[ag,lG (λj m=>a j (by omega))]
def Ob(l:List (Int×Int))(o:l.length<=4000000)(b:Nat)(cs:List C)(q:(Int×Int)->Bool)(g:∀ x,x∈l->Ev X b [.e (.agg [.c (.int .i64 x.1),.c (.int .i64 x.2)]),.e (.one (.c (.rp cs)))] [] (dB (q x)) []) :
  Ev X 83 [cH.sl l,.e (.one (.c (.fn (.func b) [] [.rp cs])))] [] (dI (oJ q l)) []:=by
 refine Ev.bQ Tryz.func83 rfl λn=>?_
 refine bm rfl av ?_;refine AK.bJ 0 (λi=>i<=l.length/\∀ j,j<i->q (l.getD j (0,0))=ae) (λi:Nat=>[(0,cH.sl l),(1,.e (.one (.c (.fn (.func b) [] [.rp cs])))),(7,dI l.length),(8,dI i)]) (λ_=>[]) (λi=>l.length-i) 0 rfl ?_ rfl ?_ rfl ⟨by omega,by omega⟩ ?_
 .simp[ag.cat,ag,aR.same]
 .simp[ag.cat,ag,aR.same]
 rintro i ⟨hi,a⟩
 by_cases h:i<l.length
 .have f:l.getD i (0,0)∈l:=by grind
  have k:l.getD (((i:Int).toNat)) cH.bC=l.getD i (0,0):=by simp;rfl
  refine aX [(9,ab)] 100 rfl ?_ ?_
  .simp only[ag]
   grind
  rw[k];refine AK.cQ (g _ f) [] rfl ?_;cases d:q (l.getD i (0,0)) with
  |true =>
   refine aX [(16,ab)] 100 rfl ?_ (AK.ee (bZ.mk [] rfl ?_ rfl rfl rfl iY))
   .simp[ag]
   .simp[ag,pX h d a]
  |false =>
   refine aX [(16,ae)] 100 rfl ?_ (AK.aQ (i+1) rfl ?_ ?_ ?_ ?_)
   .simp[ag,bx];omega
   .simp[ag.cat,ag,aR.same]
   .simp[ag.cat,ag,aR.same]
   .grind
   .omega
 .refine aX [(9,ae)] 100 rfl (by simp[ag];omega) (AK.leaveD rfl rfl ?_)
  refine bm rfl av (AK.dA [] rfl ?_ rfl rfl rfl iY);simp[ag,lG (λj m=>a j (by omega))]
def RG(b:Nat->Int):Nat->List C:=λi=>[.int .u8 (b i)]
def Bytes(b:Nat->Int):Prop:=∀ i,0<=b i/\b i<=255
abbrev ny(m:Nat)(b:Nat->Int) (k:Int):aW:=.cells 65 [.c (.sl ae 1 m (RG b)),.c (.int .i64 k)]
def cD.ox{ι:Type}{f:aV}{fn:Func}{c:Code}{args:List D}{σ:List aW}{σ':ι->List aW}{res:ι->D}(g:Tryz.prog.funcs[f]?=aa fn)(b:(fn.name== "runtime.NumGoroutine")=ae)(hb:fn.body=aa c)(a:bq args.length fn.ntmps=ab)
  (h:Fits args σ->AK X fn.ntmps (λe φ σ1=>∃ j,bZ fn σ.length (res j) (σ' j) e φ σ1) [.code c] .normal (hU 0 args) σ):cD X f args σ res σ' :=
 cD.DX g b hb a λd=>AW.top (AK.of_code (h d))
def AK.k6{ι:Type}{fn:Func}{a:Nat}{res:ι->D}{σ':ι->List aW}{N:Nat}{φ:Fr}{σ:List aW}{K:List It}(i:ι)(k:AK X N (bZ fn a (res i) (σ' i)) K .normal φ σ):AK X N (λe φ σ1=>∃ j,bZ fn a (res j) (σ' j) e φ σ1) K .normal φ σ :=
 AK.iU (λ_ _ _ q=>⟨i,q⟩) k
def se(m:Nat)(b:Nat->Int)(k:Nat) (n:Int):Int :=
 if m=0 then 0 else if k<m then b k % n else
  ((b ((k:Int) % m).toNat*131+b (((k:Int)*7+3) % m).toNat*1117+k*29+(k:Int) / m*53).toNat ^^^ ((b ((k:Int) % m).toNat*131+b (((k:Int)*7+3) % m).toNat*1117+k*29+(k:Int) / m*53) / 64).toNat:Nat) % n
set_option maxRecDepth 20000 in
def Cl(m:Nat)(b:Nat->Int)(c:Bytes b)(k:Nat) (n:Int)(r:k<=4000000)(A:m<=1048576)(y:1<=n/\n<=4000000) :
  Ev X 15 [.e (.one (.ptr 0 0)),dI n] [ny m b k] (dI (se m b k n)) [ny m b (k+1)]:=by
 refine Ev.bQ Tryz.func15 rfl λi=>?_
 have d:∀ j,j<([ny m b k]:List aW).length->([0]:List Nat)[j]?=aa j:=λj q=>by
  grind
 by_cases f:m=0
 .subst f;refine aX [(17,ae),(24,ab)] 100 rfl ?_ (AK.dA [0] rfl ?_ rfl rfl rfl d)
  .simp[ag,bx];omega
  .simp[ag,se]
 have g:((k:Int)+1-1)=k:=by omega
 have h:((k:Int)+1-1).toNat=k:=by omega
 have l:=c k
 by_cases p:(k:Int)<m
 .refine aX [(17,ae),(24,ae),(36,ab)] 100 rfl ?_ (AK.dA [0] rfl ?_ rfl rfl rfl d)
  .simp only[ag,g,bt,bd,bR,dv,bx];omega
  .have:k<m:=by omega
   simp[ag,se,f,this]
 .refine aX [(17,ae),(24,ae),(36,ae)] 200 rfl ?_ (AK.dA [0] rfl ?_ rfl rfl rfl d)
  .simp only[ag,g,bR,dv,bx];have a:(0:Int)<m:=by omega
   have s:=rb (k:Int) (by omega:(m:Int)≠0)
   have o:=qW (k:Int) a;have v1:=rb ((k:Int)*7+3) (by omega:(m:Int)≠0)
   have t:=qW ((k:Int)*7+3) a;have w1:0<=(k:Int) / m:=Int.ediv_nonneg (by omega) (by omega)
   have w2:(k:Int) / m<=k:=Int.ediv_le_self _ (by omega)
   generalize (k:Int) % m=u at *;generalize ((k:Int)*7+3) % m=v at *;generalize (k:Int) / m=w at *;have x:=c u.toNat;have z:=c v.toNat
   grind
  .have:¬k<m:=by omega
   simp[ag,se,f,this,g]
def tT(m:Nat)(b:Nat->Int)(k:Nat) (n:Int)(a:1<=n):0<=se m b k n/\se m b k n<n:=by
 unfold se;split
 .omega
 .split
  .exact⟨rb _ (by omega),qW _ (by omega)⟩
  .exact⟨rb _ (by omega),qW _ (by omega)⟩
def et(m:Nat)(b:Nat->Int)(c:Bytes b)(k:Nat) (n:Int)(d:k<=4000000)(f:m<=1048576)(a:1<=n/\n<=4000000) :
  cD (ι:={ v:Int // 0<=v/\v<n }) X 15 [.e (.one (.ptr 0 0)),dI n] [ny m b k] (λv=>dI v.1) (λ_=>[ny m b (k+1)]):=by
 have h:=Cl (X:=X) m b c k n d f a;exact⟨h.1,λs vs hr hh S cs hS=>h.2 s vs hr hh S cs (hS ⟨_,tT m b k n a.1⟩)⟩
def qK{α:Type}(q:α->Bool)(l:List α):(oJ q l=-1/\∀ x∈l,q x=ae)∨∃ i:Nat,i<l.length/\oJ q l=i/\(∀ x∈l.take i,q x=ae)/\(∀ x,l[i]?=aa x->q x=ab):=by
 unfold oJ;cases h:l.findIdx? q with
 |none=>grind
 |some i =>
  rw[vm] at h;obtain⟨hi,c,b⟩:=h;refine .inr ⟨i,hi,rfl,λx a=>?_,λx a=>?_⟩
  .obtain⟨j,d,rfl⟩:=dX a
   grind
  grind
def qL{lo hi j:Nat}{z:List C}{es:Nat->List C}(h:¬(lo<=j/\j<hi)):oV lo hi z es j=es j:=aY h
def bu{α:Type}{l:List α}{i:Nat}(h:i<l.length)(d:α):l.take (i+1)=l.take i++[l.getD i d]:=by
 rw[j3];grind
def lz{α:Type}{l:List α}{q:α->Bool}{i:Nat}(hi:i<l.length)(c:∀ x∈l.take i,q x=ae)(b:∀ x,l[i]?=aa x->q x=ab):(l.take (i+1)).filter (λx=>!q x)=l.take i:=by
 have a:=b _ (bl hi);rw[j3,oP,uP.2 λx a=>by simp[c x a],bl hi]
 simp[a]
def _root_.Go.AM.hZ.qJ{α:Type}(c:hZ α)(l:List α)(i:Nat)(x:α)(n:Nat)(hn:n<=l.length):aR n (ni i (c.enc x) (c.fn l)) (c.fn (l.set i x)):=by
 intro q a;simp only[ni,hZ.fn,sH]
 grind
structure Ys (l:List bw)(q:bw->Bool)(j:Nat)(ys:List bw):Prop where
 hj:j<=l.length
 len:ys.length=l.length
 done:ys.take ((l.take j).filter λx=>!q x).length=(l.take j).filter λx=>!q x
 rest:∀ i,j<=i->ys[i]?=l[i]?
def Oc(l:List bw)(z:l.length<=4000000)(b:Nat)(cs:List C)(q:bw->Bool)(t:∀ x,x∈l->Ev X b [vf x,.e (.one (.c (.rp cs)))] [] (dB (q x)) []) :
  cD (ι:={ es:Nat->List C // ∀ i,i<(l.filter λx=>!q x).length->es i=cP.fn (l.filter λx=>!q x) i }) X 47 [.e (.one (.bp 0 (.sl l.length 2 0 l.length))),.e (.one (.c (.fn (.func b) [] [.rp cs])))] [.buf 55 2 l.length (cP.fn l)]
   (λ_=>.e (.one (.bp 0 (.sl l.length 2 0 (l.filter λx=>!q x).length)))) (λes=>[.buf 55 2 l.length es.1]):=by
 refine cD.ox Tryz.func47 rfl rfl rfl λA=>?_
 refine bm rfl av ?_;refine AK.cQ (N9 l z b cs q t) [0] rfl ?_;rcases qK q l with⟨p,o⟩|⟨i0,f,p,o,u⟩
 .rw[p];have n:l.filter (λx=>!q x)=l:=uP.2 λx r=>by simp[o x r]
  refine aX [(12,ab)] 100 rfl (by simp[ag]) (AK.k6 ⟨cP.fn l,λi _=>by rw[n]⟩ (AK.dA [0] rfl ?_ rfl rfl rfl lX))
  simp[ag,n]
 rw[p];refine aX [(12,ae)] 100 rfl ?_ ?_
 .simp[ag,bx];omega
 refine AK.bJ 1 (λs:Nat×List bw=>Ys l q s.1 s.2) (λs=>[(0,.e (.one (.bp 0 (.sl l.length 2 0 l.length)))),(1,.e (.one (.c (.fn (.func b) [] [.rp cs])))),(5,dI ((l.take s.1).filter λx=>!q x).length),(6,dI s.1)])
  (λs=>[.buf 55 2 l.length (cP.fn s.2)]) (λs=>l.length-s.1) (i0+1,l) rfl ?_ rfl ?_ rfl ?_ ?_
 .have e:((l.take (i0+1)).filter λx=>!q x).length=i0:=by rw[lz f o u];simp;omega
  simp[ag.cat,ag,aR.same,e]
 .simp[ag.cat,ag,aR.same]
 .have e:=lz f o u;refine⟨by omega,rfl,?_,λ_ _=>rfl⟩
  grind
 rintro⟨j,d⟩ ⟨w,g2,g3,g4⟩;simp only at w g2 g3 g4
 by_cases h:j<l.length
 .have r:l.getD j (0,[])∈l:=by grind
  have g:((l.take j).filter λx=>!q x).length<=j:=ez (j1 _ _) (by simp;omega)
  have y:d.getD (0+(j:Int).toNat) cP.bC=l.getD j (0,[]):=by
   grind
  refine aX [(19,ab)] 100 rfl ?_ ?_
  .simp only[ag]
   grind
  rw[y];refine AK.cQ (t _ r) [] rfl ?_;cases m:q (l.getD j (0,[])) with
  |false =>
   have k:(l.take (j+1)).filter (λx=>!q x)=(l.take j).filter (λx=>!q x)++[l.getD j (0,[])]:=by
    rw[bu h (0,[]),oP,qZ,m];rfl
   refine aX [(29,ab)] 100 rfl ?_ (AK.aQ (j+1,d.set ((l.take j).filter λx=>!q x).length (l.getD j (0,[]))) rfl ?_ ?_ ?_ ?_)
   .simp only[ag,bx]
    grind
   .simp[ag.cat,ag,k]
   .have e:=cP.qJ d ((l.take j).filter λx=>!q x).length (l.getD j (0,[])) l.length (by omega)
    have v:0+((((l.take j).filter λx=>!q x).length:Nat):Int).toNat=((l.take j).filter λx=>!q x).length:=by omega
    simp only[ag.cat,ag,v,aF,aG];exact e
   .refine⟨by simp only;omega,by simp[g2],?_,λi hi=>?_⟩
    .simp only;rw[k,bG,show ∀ a,[a].length=1 fromλ_=>rfl,j3,List.take_set,za (by simp;omega),g3,eX (by omega)]
     rfl
    grind
   .simp only;omega
  |true =>
   have k:(l.take (j+1)).filter (λx=>!q x)=(l.take j).filter (λx=>!q x):=by
    rw[bu h (0,[]),oP,qZ,m];simp
   refine aX [(29,ae)] 100 rfl ?_ (AK.aQ (j+1,d) rfl ?_ ?_ ?_ ?_)
   .simp[ag,bx];omega
   .simp[ag.cat,ag,aR.same,k]
   .simp[ag.cat,ag,aR.same]
   .refine⟨by simp only;omega,g2,by simp only;rw[k];exact g3,λi hi=>g4 i (by simp only at hi;omega)⟩
   .simp only;omega
 .obtain rfl:j=l.length:=by omega
  rw[bY] at g3 ⊢;have g:(l.filter λx=>!q x).length<=l.length:=j1 _ _
  refine aX [(19,ae)] 100 rfl (by simp[ag]) (AK.leaveD rfl rfl ?_)
  refine bm rfl ?_ ?_
  .simp only[ag];exact⟨by omega,by omega⟩
  refine AK.law (bF.DF tok rfl rfl rfl rfl rfl rfl ?_) rfl rfl ?_
  .simp only[cn,bt];omega
  refine bm rfl ?_ (AK.k6 ⟨oV (0+cn 0 (aa ((l.filter λx=>!q x).length:Int))) (0+cn 0 (aa ((l.filter λx=>!q x).length:Int))+(cn l.length af-cn 0 (aa ((l.filter λx=>!q x).length:Int)))) i55.zero (cP.fn d),λi hi=>?_⟩ (AK.dA [0] rfl ?_ rfl rfl rfl lX))
  .simp only[ag];exact⟨by omega,by omega⟩
  .have e:d[i]?=(l.filter λx=>!q x)[i]?:=by grind
   refine(qL (by simp only[cn,bt];omega)).trans ?_
   simp only[hZ.fn,sH,ai,e]
  .simp[ag,cn];rfl
structure Yt (l:List cN)(q:cN->Bool)(j:Nat)(ys:List cN):Prop where
 hj:j<=l.length
 len:ys.length=l.length
 done:ys.take ((l.take j).filter λx=>!q x).length=(l.take j).filter λx=>!q x
 rest:∀ i,j<=i->ys[i]?=l[i]?
def Od(l:List cN)(z:l.length<=4000000)(b:Nat)(cs:List C)(q:cN->Bool)(t:∀ x,x∈l->Ev X b [Ca x,.e (.one (.c (.rp cs)))] [] (dB (q x)) []) :
  cD (ι:={ es:Nat->List C // ∀ i,i<(l.filter λx=>!q x).length->es i=cr.fn (l.filter λx=>!q x) i }) X 50 [.e (.one (.bp 0 (.sl l.length 2 0 l.length))),.e (.one (.c (.fn (.func b) [] [.rp cs])))] [.buf 59 2 l.length (cr.fn l)]
   (λ_=>.e (.one (.bp 0 (.sl l.length 2 0 (l.filter λx=>!q x).length)))) (λes=>[.buf 59 2 l.length es.1]):=by
 refine cD.ox Tryz.func50 rfl rfl rfl λA=>?_
 refine bm rfl av ?_;refine AK.cQ (Oa l z b cs q t) [0] rfl ?_;rcases qK q l with⟨p,o⟩|⟨i0,f,p,o,u⟩
 .rw[p];have n:l.filter (λx=>!q x)=l:=uP.2 λx r=>by simp[o x r]
  refine aX [(12,ab)] 100 rfl (by simp[ag]) (AK.k6 ⟨cr.fn l,λi _=>by rw[n]⟩ (AK.dA [0] rfl ?_ rfl rfl rfl lX))
  simp[ag,n]
 rw[p];refine aX [(12,ae)] 100 rfl ?_ ?_
 .simp[ag,bx];omega
 refine AK.bJ 1 (λs:Nat×List cN=>Yt l q s.1 s.2) (λs=>[(0,.e (.one (.bp 0 (.sl l.length 2 0 l.length)))),(1,.e (.one (.c (.fn (.func b) [] [.rp cs])))),(5,dI ((l.take s.1).filter λx=>!q x).length),(6,dI s.1)])
  (λs=>[.buf 59 2 l.length (cr.fn s.2)]) (λs=>l.length-s.1) (i0+1,l) rfl ?_ rfl ?_ rfl ?_ ?_
 .have e:((l.take (i0+1)).filter λx=>!q x).length=i0:=by rw[lz f o u];simp;omega
  simp[ag.cat,ag,aR.same,e]
 .simp[ag.cat,ag,aR.same]
 .have e:=lz f o u;refine⟨by omega,rfl,?_,λ_ _=>rfl⟩
  grind
 rintro⟨j,d⟩ ⟨w,g2,g3,g4⟩;simp only at w g2 g3 g4
 by_cases h:j<l.length
 .have r:l.getD j (0,[])∈l:=by grind
  have g:((l.take j).filter λx=>!q x).length<=j:=ez (j1 _ _) (by simp;omega)
  have y:d.getD (0+(j:Int).toNat) cr.bC=l.getD j (0,[]):=by
   grind
  refine aX [(19,ab)] 100 rfl ?_ ?_
  .simp only[ag]
   grind
  rw[y];refine AK.cQ (t _ r) [] rfl ?_;cases m:q (l.getD j (0,[])) with
  |false =>
   have k:(l.take (j+1)).filter (λx=>!q x)=(l.take j).filter (λx=>!q x)++[l.getD j (0,[])]:=by
    rw[bu h (0,[]),oP,qZ,m];rfl
   refine aX [(29,ab)] 100 rfl ?_ (AK.aQ (j+1,d.set ((l.take j).filter λx=>!q x).length (l.getD j (0,[]))) rfl ?_ ?_ ?_ ?_)
   .simp only[ag,bx]
    grind
   .simp[ag.cat,ag,k]
   .have e:=cr.qJ d ((l.take j).filter λx=>!q x).length (l.getD j (0,[])) l.length (by omega)
    have v:0+((((l.take j).filter λx=>!q x).length:Nat):Int).toNat=((l.take j).filter λx=>!q x).length:=by omega
    simp only[ag.cat,ag,v,aF,aG];exact e
   .refine⟨by simp only;omega,by simp[g2],?_,λi hi=>?_⟩
    .simp only;rw[k,bG,show ∀ a,[a].length=1 fromλ_=>rfl,j3,List.take_set,za (by simp;omega),g3,eX (by omega)]
     rfl
    grind
   .simp only;omega
  |true =>
   have k:(l.take (j+1)).filter (λx=>!q x)=(l.take j).filter (λx=>!q x):=by
    rw[bu h (0,[]),oP,qZ,m];simp
   refine aX [(29,ae)] 100 rfl ?_ (AK.aQ (j+1,d) rfl ?_ ?_ ?_ ?_)
   .simp[ag,bx];omega
   .simp[ag.cat,ag,aR.same,k]
   .simp[ag.cat,ag,aR.same]
   .refine⟨by simp only;omega,g2,by simp only;rw[k];exact g3,λi hi=>g4 i (by simp only at hi;omega)⟩
   .simp only;omega
 .obtain rfl:j=l.length:=by omega
  rw[bY] at g3 ⊢;have g:(l.filter λx=>!q x).length<=l.length:=j1 _ _
  refine aX [(19,ae)] 100 rfl (by simp[ag]) (AK.leaveD rfl rfl ?_)
  refine bm rfl ?_ ?_
  .simp only[ag];exact⟨by omega,by omega⟩
  refine AK.law (bF.DF tok rfl rfl rfl rfl rfl rfl ?_) rfl rfl ?_
  .simp only[cn,bt];omega
  refine bm rfl ?_ (AK.k6 ⟨oV (0+cn 0 (aa ((l.filter λx=>!q x).length:Int))) (0+cn 0 (aa ((l.filter λx=>!q x).length:Int))+(cn l.length af-cn 0 (aa ((l.filter λx=>!q x).length:Int)))) i59.zero (cr.fn d),λi hi=>?_⟩ (AK.dA [0] rfl ?_ rfl rfl rfl lX))
  .simp only[ag];exact⟨by omega,by omega⟩
  .have e:d[i]?=(l.filter λx=>!q x)[i]?:=by grind
   refine(qL (by simp only[cn,bt];omega)).trans ?_
   simp only[hZ.fn,sH,ai,e]
  .simp[ag,cn];rfl
abbrev c6:=Int×Int×Int×Bs
abbrev tg(l:c6):List C:=[.int .i64 l.1,.int .i64 l.2.1,.int .i64 l.2.2.1,.str l.2.2.2]
abbrev KP(l:c6):List A:=[.c (.int .i64 l.1),.c (.int .i64 l.2.1),.c (.int .i64 l.2.2.1),.c (.str l.2.2.2)]
abbrev gb(l:c6):D:=.e (.agg (KP l))
abbrev Aj(cs:List C):D:=.e (.one (.c (.rp cs)))
def Hr(x:bw)(l:c6):Ev X 48 [vf x,Aj (tg l)] [] (dB (x.1==l.2.1)) []:=by
 refine Ev.bQ Tryz.func48 rfl λa=>?_
 refine bm rfl av (AK.bo rfl ?_);simp[ag]
def Hs(x:Int×Int) (no:Int)(n:Nat)(es:Nat->List C):Ev X 53 [.e (.agg [.c (.int .i64 x.1),.c (.int .i64 x.2)]),Aj [.int .i64 no,.sl ae 2 n es]] [] (dB (x.2==no)) []:=by
 refine Ev.bQ Tryz.func53 rfl λa=>?_
 refine bm rfl av (AK.bo rfl ?_);simp[ag]
def KQ{α:Type}(q:α->Bool)(l:List α):decide (oJ q l≥0)=l.any q:=by
 rcases qK q l with⟨a,c⟩|⟨i,hi,a,_,b⟩
 .rw[a]
  symm
  simpa using c
 .rw[a]
  symm
  have:=b _ (bl hi)
  grind
def Ex(a:List (Int×Int))(b:a.length<=4000000) (no:Int)(n:Nat)(es:Nat->List C):Ev X 52 [cH.sl a,.e (.one (.c (.fn (.func 53) [] [.rp [.int .i64 no,.sl ae 2 n es]])))] [] (dB (a.any λh=>h.2==no)) []:=by
 refine Ev.bQ Tryz.func52 rfl λd=>?_
 refine bm rfl av ?_;refine AK.cQ (Ob a b 53 [.int .i64 no,.sl ae 2 n es] (λh=>h.2==no) λx _=>Hs x no n es) [] rfl ?_
 refine bm rfl av (AK.bo rfl ?_);simp only[ag];exact KQ _ a
def Oe(x:cN)(a:List (Int×Int))(b:a.length<=4000000):Ev X 51 [Ca x,Aj [.sl ae 2 a.length (cH.fn a)]] [] (dB (a.any λh=>h.2==x.1)) []:=by
 refine Ev.bQ Tryz.func51 rfl λc=>?_
 refine aX [(1000001,ab)] 100 rfl av ?_;refine AK.freeze 2 0 rfl rfl rfl ?_;refine bm rfl av ?_;refine AK.cQ (Ex a b x.1 x.2.length (cL.fn x.2)) [] rfl ?_;refine bm rfl av (AK.bo rfl ?_);simp[ag]
abbrev Wr(f:Nat)(l:c6):D:=.e (.one (.c (.fn (.func f) [] [.rp (tg l)])))
def Ey(l:c6)(h:l.1=1):Ev X 25 [gb l] [] (Wr 46 l) []:=by
 refine Ev.bQ Tryz.func25 rfl λa=>?_
 refine aX [(1000001,ab)] 100 rfl av ?_;refine AK.freeze 1 0 rfl rfl rfl ?_;refine aX [(5,ab)] 100 rfl (by simp[ag,h]) (AK.bo rfl ?_)
 simp[ag]
def wK(l:c6)(h:l.1=2):Ev X 25 [gb l] [] (Wr 49 l) []:=by
 refine Ev.bQ Tryz.func25 rfl λa=>?_
 refine aX [(1000001,ab)] 100 rfl av ?_;refine AK.freeze 1 0 rfl rfl rfl ?_;refine aX [(5,ae),(8,ab)] 100 rfl (by simp[ag,h]) (AK.bo rfl ?_)
 simp[ag]
def wL(l:c6)(h:l.1=3):Ev X 25 [gb l] [] (Wr 54 l) []:=by
 refine Ev.bQ Tryz.func25 rfl λa=>?_
 refine aX [(1000001,ab)] 100 rfl av ?_;refine AK.freeze 1 0 rfl rfl rfl ?_;refine aX [(5,ae),(8,ae),(11,ab)] 100 rfl (by simp[ag,h]) (AK.bo rfl ?_)
 simp[ag]
def Eu(l:c6)(h:l.1=4):Ev X 25 [gb l] [] (Wr 55 l) []:=by
 refine Ev.bQ Tryz.func25 rfl λa=>?_
 refine aX [(1000001,ab)] 100 rfl av ?_;refine AK.freeze 1 0 rfl rfl rfl ?_;refine aX [(5,ae),(8,ae),(11,ae),(14,ab)] 100 rfl (by simp[ag,h]) (AK.bo rfl ?_)
 simp[ag]
def Ez(l:c6)(b:l.1≠1)(d:l.1≠2)(f:l.1≠3)(a:l.1≠4):Ev X 25 [gb l] [] (.e (.one (.c (.fn (.func 56) [] [])))) []:=by
 refine Ev.bQ Tryz.func25 rfl λg=>?_
 refine aX [(1000001,ab)] 100 rfl av ?_;refine AK.freeze 1 0 rfl rfl rfl ?_;refine aX [(5,ae),(8,ae),(11,ae),(14,ae)] 100 rfl (by simp[ag,b,d,f,a]) (AK.bo rfl ?_)
 simp[ag]
abbrev sPs(ps:List bw):C:=.sl ae 2 ps.length (cP.fn ps)
abbrev sSs(a:List cN):C:=.sl ae 2 a.length (cr.fn a)
abbrev Dj(a:List (Int×Int)):C:=.sl ae 2 a.length (cH.fn a)
abbrev Tc(s0:a9)(l:c6)(r:List aW)(a b c:A):List aW:=[.cells 27 [.c (sPs s0.1),.c (sSs s0.2.1),.c (Dj s0.2.2)],.cells 32 (KP l),.cells 27 [dm,dm,dm]]++r++[.cells 27 [a,b,c]]
abbrev aB(l n m:Nat):A:=.bp l (.sl n 2 0 m)
def KR(s:a9)(l:c6)(b:s.1.length<=4000000) :
  cD (ι:={ es:Nat->List C // ∀ i,i<(s.1.filter λx=>!(x.1==l.2.1)).length->es i=cP.fn (s.1.filter λx=>!(x.1==l.2.1)) i }) X 46 [.e (.one (.ptr 5 0)),Aj (tg l)]
   (Tc s l [.buf 55 2 s.1.length (cP.fn s.1),.buf 59 2 s.2.1.length (cr.fn s.2.1)] (aB 3 s.1.length s.1.length) (aB 4 s.2.1.length s.2.1.length) (.c (Dj s.2.2)))
   (λ_=>.eN []) (λes=>Tc s l [.buf 55 2 s.1.length es.1,.buf 59 2 s.2.1.length (cr.fn s.2.1)] (aB 3 s.1.length (s.1.filter λx=>!(x.1==l.2.1)).length) (aB 4 s.2.1.length s.2.1.length) (.c (Dj s.2.2))):=by
 refine cD.n7 Tryz.func46 rfl rfl rfl (AK.of_code ?_);refine bm rfl av ?_;refine AK.cP (Oc s.1 b 48 (tg l) (λx=>x.1==l.2.1) λx _=>Hr x l) [3] rfl (λ_=>rfl) ?_
 rintro⟨es,a⟩;refine bm rfl av ?_;exact⟨⟨es,a⟩,.inr rfl,rfl,rfl,_,_,_,rfl,rfl,rfl,av⟩
end
end Go.AM.R1
namespace Go.AM
section
variable {P:aq}{X:Cx P}{N:Nat}{φ:Fr}{σ:List aW}
def J3(all:List aw)(i:Nat):List Nat->Bool
 |[]=>ae
 |k::r=>match fI i (bP (all.getD k fV).after.toList) with|true=>ab|false=>J3 all i r
def FP{all:List aw}{i:Nat}:∀ {l:List Nat},J3 all i l=ab->∃ k,k∈l/\fI i (bP (all.getD k fV).after.toList)=ab
 |[],h=>by cases h
 |k::r,h=>by
  simp only[J3] at h;cases a:fI i (bP (all.getD k fV).after.toList) with
  |true=>exact⟨k,by simp,a⟩
  |false =>
   simp only[a] at h;obtain⟨q,b,c⟩:=FP h;exact⟨q,by simp[b],c⟩
def o7(all:List aw):Nat->List Nat->Bool
 |0,_=>ab
 |n+1,l=>match fI n l with
  |true=>o7 all n l
  |false=>match J3 all n l with|true=>o7 all n l|false=>ae
def o8{all:List aw}:∀ {n:Nat}{l:List Nat},o7 all n l=ab->∀ i,i<n->fI i l=ab∨∃ k,fI k l=ab/\fI i (bP (all.getD k fV).after.toList)=ab
 |0,_,_,i,hi=>by omega
 |n+1,l,h,i,hi=>by
  simp only[o7] at h;cases b:fI n l with
  |true =>
   simp only[b] at h
   by_cases e:i=n
   .subst e;exact .inl b
   .exact o8 h i (by omega)
  |false =>
   simp only[b] at h;cases a:J3 all n l with
   |false=>simp[a] at h
   |true =>
    simp only[a] at h
    by_cases e:i=n
    .subst e;obtain⟨k,k1,c⟩:=FP a;exact .inr ⟨k,rF k1,c⟩
    .exact o8 h i (by omega)
def AK.Un{ι:Type}(L:P.follows Departure.mixedOrders=ab)(m last:Nat)(pre:Nat->Bool)(x:Nat->D)(y:ι->Nat->D)(σ' σ2:ι->List aW){ops:Array aw}{id:Nat}{K:List It}{Qf:Post}
  (d:mv ops.toList=ab) (g:rV ops.toList 0=ab) (s:n3 N ops.toList=ab) (A:Nat.blt m ops.toList.length=ab) (w:pre m=ae) (B:xI pre m ops.toList 0=ab)
  (p:aA (last+1) ops.toList.length=ab) (c:o7 ops.toList last (bP (ops.toList.getD last fV).after.toList)=ab) (t:pre last=ae) (n:aA last m=ae)
  (one:qC X N ops.toList φ σ x pre ops.toList 0) (two:∀ j,qD X N ops.toList φ (σ' j) (qE pre x y j) m ops.toList.dropLast 0)
  (G1:rU X N ops.toList (ops.toList.getD m fV) (m6 ops.toList φ x m) σ (λj=>qE pre x y j m) σ')
  (Wk:∀ j,OA X N ops.toList (ops.toList.getD last fV) (m6 ops.toList φ (qE pre x y j) last) (σ' j) (y j last) (σ2 j))
  (k:∀ j,AK X N Qf K .normal (MK ops.toList φ (qE pre x y j)) (σ2 j)):AK X N Qf (.code (.region id ops ab)::K) .normal φ σ:=by
 have hl:=bT p;have M:last≠m:=by intro e;rw[e,iL] at n;cases n
 have A:=c7 A;have:=AW.reg (X:=X) (N:=N) (φ:=φ) (σ:=σ) L (all:=ops.toList) ops.toList.length (λb:Option ι=>b.elim x (qE pre x y)) (λb D=>b.elim σ λj=>match D last with|true=>σ2 j|false=>σ' j) (λb D=>b.isSome=D m/\(b=af->∀ i,D i=ab->pre i=ab)) af ⟨rfl,λ_ _ h=>by cases h⟩ rfl d g s (bc _)
  (λi h1 h2=>absurd h2 (ky.2 h1)) (λb D _ _ i h1 h2=>absurd h2 (ky.2 h1))
  (zW (S:=λj D=>match D last with|true=>σ2 j|false=>σ' j) w B (λj i E=>by simp only[qE,E]) (λi o hi E=>by have:=one.get i o hi (by rwa [br]);rwa [br] at this)
   (λj D i o hi hnm hic Uo QX=>by
    by_cases r:i=last
    .subst r;have h1:=Wk j;rw[show ops.toList.getD i fV=o by simp[ai,hi]] at h1
     simp only[Uo,cM,iL];rw[show qE pre x y j i=y j i by simp only[qE,t]]
     exact h1
    .have G:=(cg.1 hi).1;have v:ops.toList.dropLast[i]?=aa o:=by grind
     have h1:=(two j).get i o v (by rwa [br])
     rw[br] at h1;have hb:aA last i=ae:=by
      cases hb:aA last i with
      |true=>exact absurd (bT hb).symm r
      |false=>rfl
     have a:D last=ae:=by
      cases a:D last with
      |false=>rfl
      |true =>
       have f:=bl (l:=ops.toList) (by omega:last<ops.toList.length)
       have F:∀ (k:Nat) z,ops.toList[k]?=aa z->ops.toList.getD k fV=z:=λk z h=>by simp[ai,h]
       rw[F _ _ f] at c;rcases o8 c i (by omega) with h2|⟨k,h2,u⟩
       .have:=QX last _ f a i (Bt h2);rw[Uo] at this;cases this
       .have J:=QX last _ f a k (Bt h2);cases q:ops.toList[k]? with
        |none=>rw[show ops.toList.getD k fV=fV by simp[ai,q]] at u;simp[fV,bP,fI] at u
        |some ok =>
         rw[F _ _ q] at u;have:=QX k ok q J i (Bt u);rw[Uo] at this;cases this
     simp only[cM,hb,a];exact h1)
   (λo H=>by rw[show ops.toList.getD m fV=o by simp[ai,H]] at G1;exact G1)
   (λj D C=>by
    have a:D last=ae:=by
     grind
    simp only[cM,n,a]))
  (Q:=AK X N Qf K) (λb D I C=>by
   obtain⟨j,rfl⟩:=r6 I A C;rw[q8];simp only[Option.elim,C last (by omega)]
   exact .nil (k j)) id
 rw[oM] at this;exact this
end
end Go.AM
namespace Go.AM.R1
section
open Go.Proofs
variable {X:Cx ah}
def KS(σ:List aW)(h:mr σ=ab)(a:A):Ev X 56 [.e (.one a)] σ (.eN []) σ:=by
 refine cD.ux (cD.n7 (ι:=Unit) (res:=λ_=>.eN []) (σ':=λ_=>σ) Tryz.func56 rfl rfl rfl (AK.of_code ?_))
 refine bm rfl av ?_;exact⟨(),.inr rfl,rfl,h,_,_,_,rfl,rfl,rfl,av⟩
abbrev IP(s:a9)(l:c6):List aW:=Tc s l [.buf 55 2 s.1.length (cP.fn s.1),.buf 59 2 s.2.1.length (cr.fn s.2.1)] (aB 3 s.1.length s.1.length) (aB 4 s.2.1.length s.2.1.length) (.c (Dj s.2.2))
def gU(n:Nat)(a:List (Int×Int))(x:cN):Bool:=(a.drop n).any λh=>h.2==x.1
def Ht(s:a9)(l:c6)(h:l.2.1<0∨l.2.1>s.2.2.length):Ev X 49 [.e (.one (.ptr 5 0)),Aj (tg l)] (IP s l) (.eN []) (IP s l):=by
 refine cD.ux (cD.n7 (ι:=Unit) (res:=λ_=>.eN []) (σ':=λ_=>IP s l) Tryz.func49 rfl rfl rfl (AK.of_code ?_))
 by_cases a:l.2.1<0
 .refine aX [(7,ab),(16,ab)] 100 rfl (by simp[ag,a]) ?_
  refine AK.ret ?_;exact⟨(),.inl rfl,rfl,rfl,_,_,_,rfl,rfl,rfl,av⟩
 .refine aX [(7,ae),(16,ab)] 100 rfl (by simp[ag];omega) ?_
  refine AK.ret ?_;exact⟨(),.inl rfl,rfl,rfl,_,_,_,rfl,rfl,rfl,av⟩
def _root_.Go.AM.hZ.F6{α:Type}(c:hZ α)(l:List α)(n m:Nat):aR m (jJ n (c.fn l)) (c.fn (l.drop n)):=λi _=>by
 simp[jJ,hZ.fn,sH,ai]
abbrev dP5:D:=.e (.one (.ptr 5 0))
abbrev KT(s:a9)(l:c6):C:=.sl (Nf ae af) 2 (cn s.2.2.length af-cn 0 (aa l.2.1)) (jJ (cn 0 (aa l.2.1)) (cH.fn s.2.2))
def Pl(s:a9)(l:c6)(n:Nat)(a:l.2.1=n)(h:n<=s.2.2.length):ag (iN s.2.2.length (aa l.2.1) af):=by
 show 0<=l.2.1/\l.2.1<=(s.2.2.length:Int);omega
def Hu(s:a9)(l:c6)(n:Nat)(b:l.2.1=n)(h:n<=s.2.2.length)(f:s.2.1.length<=4000000)(j:s.2.2.length<=4000000) :
  cD (ι:={ es:Nat->List C // ∀ i,i<(s.2.1.filter λx=>!gU n s.2.2 x).length->es i=cr.fn (s.2.1.filter λx=>!gU n s.2.2 x) i }) X 49 [.e (.one (.ptr 5 0)),Aj (tg l)] (IP s l) (λ_=>.eN [])
   (λes=>Tc s l [.buf 55 2 s.1.length (cP.fn s.1),.buf 59 2 s.2.1.length es.1] (aB 3 s.1.length s.1.length) (aB 4 s.2.1.length (s.2.1.filter λx=>!gU n s.2.2 x).length) (.c (.sl ae 2 l.2.1.toNat (cH.fn s.2.2)))++[.dead]):=by
 refine cD.n7 Tryz.func49 rfl rfl rfl (AK.of_code ?_);have g:l.2.1.toNat=n:=by omega
 refine aX [(7,ae),(16,ae),(1000001,ab)] 100 rfl ?_ ?_
 .simp only[ag]
  grind
 refine AK.Un (ι:=Unit) en 7 8 (λi=>bq i 6) (λi=>[dP5,dP5,.e (.one (.ptr 5 2)),.e (.one (.c (Dj s.2.2))),Aj [.int .i64 l.2.1,.int .i64 l.2.2.1,.str l.2.2.2],dI l.2.1,.e (.one (.c (KT s l)))].getD i .any) (λ_ i=>[.any,.any,.any,.any,.any,.any,.any,.e (.one (.ptr 6 0)),.any].getD i .any)
  (λ_=>IP s l++[.cells 25 [dm]]) (λ_=>IP s l++[.cells 25 [.c (KT s l)]]) rfl rfl rfl rfl rfl rfl rfl rfl rfl rfl
  ⟨OA.cd tok bD.nil rfl,OA.cd tok bD.nil rfl,OA.cd tok bD.nil rfl,OA.cd tok bD.nil rfl,OA.cd tok bD.nil rfl,OA.cd tok bD.nil rfl,?_,av,av,av⟩
  (λ_=>⟨OA.cd tok bD.nil rfl,OA.cd tok bD.nil rfl,OA.cd tok bD.nil rfl,OA.cd tok bD.nil rfl,OA.cd tok bD.nil rfl,OA.cd tok bD.nil rfl,?_,av,av⟩)
  (rU.sY (fW (ds:=[]) tok bD.nil (σ':=aa _) (obs:=[]) rfl av)) (λ_=>fW (ds:=[]) tok bD.nil (σ':=aa _) (obs:=[]) rfl av) λ_=>?_
 .exact OA.eval (ds:=[]) tok bD.nil rfl (Pl s l n b h)
 .exact OA.eval (ds:=[]) tok bD.nil rfl (Pl s l n b h)
 refine aX [(1000002,ab)] 100 rfl av ?_;refine AK.norm (IP s l++[.cells 25 [.c (Dj (s.2.2.drop n))]]) rfl ?_ ?_
 .have e:=cH.F6 s.2.2 n (s.2.2.length-n);have d:cn 0 (aa l.2.1)=n:=g;simp only[ag.cat,ag,d,aF,aG,mO];exact⟨⟨aR.same,aR.same,aR.same⟩,⟨aR.same,aR.same,aR.same⟩,aR.same,aR.same,aR.same,rfl,e⟩
 refine AK.freeze 3 6 rfl rfl rfl ?_;refine bm rfl av ?_;refine AK.cP (Od s.2.1 f 51 [Dj (s.2.2.drop n)] (gU n s.2.2) λx _=>Oe x (s.2.2.drop n) (by simp;omega)) [4] rfl (λ_=>rfl) ?_
 rintro⟨es,a⟩;refine bm rfl ⟨show 0<=l.2.1 by omega,Int.le_refl _,show l.2.1<=(s.2.2.length:Int) by omega⟩ ?_
 exact⟨⟨es,a⟩,.inr rfl,rfl,rfl,_,_,_,rfl,rfl,rfl,av⟩
abbrev MR(s:a9)(l:c6)(es:Nat->List C):List aW:=Tc s l [.buf 55 2 s.1.length (cP.fn s.1),.buf 59 2 s.2.1.length (cr.fn s.2.1),.buf 86 2 s.2.2.length es] (aB 3 s.1.length s.1.length) (aB 4 s.2.1.length s.2.1.length) (aB 5 s.2.2.length s.2.2.length)
abbrev Ao(s:a9)(l:c6):Nat->List C:=ni (0+l.2.1.toNat) [.int .i64 (3-(s.2.2.getD (0+l.2.1.toNat) cH.bC).1),.int .i64 (s.2.2.getD (0+l.2.1.toNat) cH.bC).2] (cH.fn s.2.2)
def Hq(s:a9)(l:c6)(h:¬(0<=l.2.1/\l.2.1<s.2.2.length)):Ev X 55 [.e (.one (.ptr 6 0)),Aj (tg l)] (MR s l (cH.fn s.2.2)) (.eN []) (MR s l (cH.fn s.2.2)):=by
 refine cD.ux (cD.n7 (ι:=Unit) (res:=λ_=>.eN []) (σ':=λ_=>MR s l (cH.fn s.2.2)) Tryz.func55 rfl rfl rfl (AK.of_code ?_))
 by_cases a:0<=l.2.1
 .refine aX [(6,ab),(15,ae)] 100 rfl (by simp[ag,a];omega) ?_
  exact⟨(),.inr rfl,rfl,rfl,_,_,_,rfl,rfl,rfl,av⟩
 .refine aX [(6,ae),(15,ae)] 100 rfl (by simp[ag];omega) ?_
  exact⟨(),.inr rfl,rfl,rfl,_,_,_,rfl,rfl,rfl,av⟩
abbrev Ws:D:=.e (.one (.ptr 6 0))
abbrev Vi:D:=.e (.one (.ptr 6 2))
abbrev dHs(s:a9):D:=.e (.one (aB 5 s.2.2.length s.2.2.length))
abbrev Wt(s:a9)(l:c6):D:=.e (.one (.bp 5 (.el s.2.2.length 2 (0+l.2.1.toNat) 0)))
abbrev dLr(l:c6):D:=Aj [.int .i64 l.2.1,.int .i64 l.2.2.1,.str l.2.2.2]
abbrev Ew(s:a9)(l:c6):Int:=(s.2.2.getD (0+l.2.1.toNat) cH.bC).1
def Hp(s:a9)(l:c6)(f:0<=l.2.1)(d:l.2.1<s.2.2.length)(c:bx .i64 (3-Ew s l)):Ev X 55 [.e (.one (.ptr 6 0)),Aj (tg l)] (MR s l (cH.fn s.2.2)) (.eN []) (MR s l (Ao s l)):=by
 refine cD.ux (cD.n7 (ι:=Unit) (res:=λ_=>.eN []) (σ':=λ_=>MR s l (Ao s l)) Tryz.func55 rfl rfl rfl (AK.of_code ?_))
 refine aX [(6,ab),(15,ab),(1000001,ab)] 100 rfl ?_ ?_
 .simp only[ag]
  grind
 have b:0<=l.2.1/\l.2.1<((s.2.2.length:Nat):Int):=⟨f,d⟩;have a:s.2.2.length=s.2.2.length/\0+l.2.1.toNat<s.2.2.length:=⟨rfl,by omega⟩
 refine AK.Un (ι:=Unit) en 0 18 (λi=>bq 4 i&&bq i 15) (λi=>[.any,.any,.any,.any,dLr l,dI l.2.1,Ws,Ws,Vi,dHs s,dLr l,dI l.2.1,Wt s l,Wt s l,dI (Ew s l),dI (3-Ew s l)].getD i .any) (λ_ i=>[Ws,Ws,Vi,dHs s,.any,.any,.any,.any,.any,.any,.any,.any,.any,.any,.any,.any,Wt s l,Wt s l,.any].getD i .any)
  (λ_=>MR s l (cH.fn s.2.2)) (λ_=>MR s l (Ao s l)) rfl rfl rfl rfl rfl rfl rfl rfl rfl rfl
  ⟨av,av,av,av,OA.cd tok bD.nil rfl,OA.cd tok bD.nil rfl,OA.cd tok bD.nil rfl,OA.cd tok bD.nil rfl,OA.cd tok bD.nil rfl,OA.cd tok bD.nil rfl,OA.cd tok bD.nil rfl,OA.cd tok bD.nil rfl,?_,OA.cd tok bD.nil rfl,?_,?_,av,av,av,av⟩
  (λ_=>⟨av,OA.cd tok bD.nil rfl,OA.cd tok bD.nil rfl,OA.cd tok bD.nil rfl,OA.cd tok bD.nil rfl,OA.cd tok bD.nil rfl,OA.cd tok bD.nil rfl,OA.cd tok bD.nil rfl,OA.cd tok bD.nil rfl,OA.cd tok bD.nil rfl,OA.cd tok bD.nil rfl,OA.cd tok bD.nil rfl,?_,OA.cd tok bD.nil rfl,?_,?_,?_,OA.cd tok bD.nil rfl,av⟩)
  (rU.sY (OA.cd tok bD.nil rfl)) (λ_=>?_) λ_=>?_
 .exact OA.eval (ds:=[]) tok bD.nil rfl b
 .exact OA.eval (ds:=[]) tok bD.nil rfl a
 .exact OA.eval (ds:=[]) tok bD.nil rfl c
 .exact OA.eval (ds:=[]) tok bD.nil rfl b
 .exact OA.eval (ds:=[]) tok bD.nil rfl a
 .exact OA.eval (ds:=[]) tok bD.nil rfl c
 .exact OA.eval (ds:=[]) tok bD.nil rfl b
 .exact fW (ds:=[]) tok bD.nil (σ':=aa _) rfl a
 refine bm rfl av ?_;exact⟨(),.inr rfl,rfl,rfl,_,_,_,rfl,rfl,rfl,av⟩
end
end Go.AM.R1
namespace Go.AM
def cD.le{P:aq}{ι:Type}{X:Cx P}{f:aV}{args:List D}{σ:List aW}{res res':ι->D}{σ1:ι->List aW}(h:cD X f args σ res σ1){ps:ι->List Prop}(a:∀ i,Bo (res i) (res' i)=aa (ps i))(b:∀ i,ag (ps i)):cD X f args σ res' σ1 :=
 ⟨h.1,λs vs hr hh S cs hS=>h.2 s vs hr hh S cs λi fr v s' hl mR ld st=>hS i fr v s' hl (oU (a i) (b i) mR) ld st⟩
def cD.one{P:aq}{ι:Type}{X:Cx P}{f:aV}{args:List D}{σ:List aW}{res:D}{σ1:List aW}(h:cD (ι:=ι) X f args σ (λ_=>res) (λ_=>σ1)):Ev X f args σ res σ1 :=
 ⟨h.1,λs vs hr hh S cs hS=>h.2 s vs hr hh S cs λ_ fr v s' hl mR ld st=>hS fr v s' hl mR ld st⟩
namespace R1
open Go.Proofs
variable {X:Cx ah}
abbrev KU{α:Type}(c:hZ α)(a:List α):Type:={ es:Nat->List C // ∀ i,i<a.length->es i=c.fn a i }
structure dL (s:a9):Prop where
 p:s.1.length<=4000000
 p2:∀ p∈s.1,p.2.length<=4000000
 sn:s.2.1.length<=4000000
 s2:jQ s
 h:s.2.2.length<=4000000
def Ap(s:a9)(l:c6)(a:dL s)(h:l.1=1) :
  cD (ι:={ es:Nat->List C // ∀ i,i<(s.1.filter λx=>!(x.1==l.2.1)).length->es i=cP.fn (s.1.filter λx=>!(x.1==l.2.1)) i }) X 12 [ey s,gb l] []
   (λ_=>.e (.agg [aB 0 s.1.length (s.1.filter λx=>!(x.1==l.2.1)).length,aB 1 s.2.1.length s.2.1.length,.c (Dj s.2.2)])) (λes=>[.buf 55 2 s.1.length es.1,.buf 59 2 s.2.1.length (cr.fn s.2.1)]):=by
 refine cD.gy tok Tryz.func12 rfl rfl rfl λd=>?_
 refine bm rfl av ?_;refine AK.cQ (iz s a.p a.p2 a.sn a.s2 a.h) [] rfl ?_;refine bm rfl av ?_;refine AK.cQ (Ey l h) [] rfl ?_;refine bm rfl av ?_;refine AK.nO (KR s l a.p) rfl rfl rfl rfl ?_ rfl ?_
 .simp[ag,ag.cat]
 rintro⟨es,b⟩;refine bm rfl av ?_;refine AK.dk ⟨es,b⟩ [3,4] rfl rfl rfl rfl rfl rfl rfl rfl ?_ rfl rfl rfl rfl iY;simp[ag.cat,ag,aR.same]
def Ch(s:a9)(l:c6)(e:dL s)(h:l.1=1):Ev X 12 [ey s,gb l] [] (ey (s.1.filter λx=>!(x.1==l.2.1),s.2.1,s.2.2)) []:=by
 have d:(s.1.filter λx=>!(x.1==l.2.1)).length<=s.1.length:=j1 _ _
 have a:=Ap (X:=X) s l e h;have b:=cD.iW (σ1:=λes:KU cP (s.1.filter λx=>!(x.1==l.2.1))=>[.buf 55 2 s.1.length es.1]) (E:=59) (k:=2) (n:=λ_=>s.2.1.length) (es:=λ_=>cr.fn s.2.1) a (λ_=>rfl) (λ_=>?_) (λ_=>rfl) (λ_=>gh _)
 have c:=cD.iW (σ1:=λ_=>[]) (E:=55) (k:=2) (n:=λ_=>s.1.length) (es:=λes:KU cP (s.1.filter λx=>!(x.1==l.2.1))=>es.1) b (λ_=>rfl) (λ_=>?_) (λ_=>rfl) (λ_=>bc _)
 refine(c.le (res':=λ_=>ey (s.1.filter λx=>!(x.1==l.2.1),s.2.1,s.2.2)) (λ_=>rfl) (λes=>?_)).one
 .simp only[ag.cat,ag,aF,aG];exact⟨es.2,aR.same,aR.same⟩
 .simpa[ag.cat,ag] using d
 .simp[ag.cat,ag]
def Aq(s:a9)(l:c6)(a:dL s)(d:l.1≠1)(f:l.1≠2)(g:l.1≠3)(b:l.1≠4) :
  cD (ι:=Unit) X 12 [ey s,gb l] [] (λ_=>.e (.agg [aB 0 s.1.length s.1.length,aB 1 s.2.1.length s.2.1.length,.c (Dj s.2.2)])) (λ_=>[.buf 55 2 s.1.length (cP.fn s.1),.buf 59 2 s.2.1.length (cr.fn s.2.1)]):=by
 refine cD.gy tok Tryz.func12 rfl rfl rfl λi=>?_
 refine bm rfl av ?_;refine AK.cQ (iz s a.p a.p2 a.sn a.s2 a.h) [] rfl ?_;refine bm rfl av ?_;refine AK.cQ (Ez l d f g b) [] rfl ?_;refine bm rfl av ?_;refine AK.nO (KS (IP s l) rfl (.ptr 5 0)).A9 rfl rfl rfl rfl ?_ rfl ?_
 .simp[ag,ag.cat]
 intro _;refine bm rfl av ?_;refine AK.dk () [3,4] rfl rfl rfl rfl rfl rfl rfl rfl ?_ rfl rfl rfl rfl iY;simp[ag.cat,ag,aR.same]
def xN(s:a9)(l:c6)(a:dL s)(b:l.1=2)(h:l.2.1<0∨l.2.1>s.2.2.length) :
  cD (ι:=Unit) X 12 [ey s,gb l] [] (λ_=>.e (.agg [aB 0 s.1.length s.1.length,aB 1 s.2.1.length s.2.1.length,.c (Dj s.2.2)])) (λ_=>[.buf 55 2 s.1.length (cP.fn s.1),.buf 59 2 s.2.1.length (cr.fn s.2.1)]):=by
 refine cD.gy tok Tryz.func12 rfl rfl rfl λd=>?_
 refine bm rfl av ?_;refine AK.cQ (iz s a.p a.p2 a.sn a.s2 a.h) [] rfl ?_;refine bm rfl av ?_;refine AK.cQ (wK l b) [] rfl ?_;refine bm rfl av ?_;refine AK.nO (Ht s l h).A9 rfl rfl rfl rfl ?_ rfl ?_
 .simp[ag,ag.cat]
 intro _;refine bm rfl av ?_;refine AK.dk () [3,4] rfl rfl rfl rfl rfl rfl rfl rfl ?_ rfl rfl rfl rfl iY;simp[ag.cat,ag,aR.same]
def Ar{s:a9}{l:c6}(a:cD (ι:=Unit) X 12 [ey s,gb l] [] (λ_=>.e (.agg [aB 0 s.1.length s.1.length,aB 1 s.2.1.length s.2.1.length,.c (Dj s.2.2)])) (λ_=>[.buf 55 2 s.1.length (cP.fn s.1),.buf 59 2 s.2.1.length (cr.fn s.2.1)])):Ev X 12 [ey s,gb l] [] (ey s) []:=by
 have b:=cD.iW (σ1:=λ_:Unit=>[.buf 55 2 s.1.length (cP.fn s.1)]) (E:=59) (k:=2) (n:=λ_=>s.2.1.length) (es:=λ_=>cr.fn s.2.1) a (λ_=>rfl) (λ_=>?_) (λ_=>rfl) (λ_=>gh _)
 have c:=cD.iW (σ1:=λ_:Unit=>[]) (E:=55) (k:=2) (n:=λ_=>s.1.length) (es:=λ_=>cP.fn s.1) b (λ_=>rfl) (λ_=>?_) (λ_=>rfl) (λ_=>bc _)
 refine(c.le (res':=λ_=>ey s) (λ_=>rfl) (λes=>?_)).one
 .simp only[ag.cat,ag,aF,aG];exact⟨aR.same,aR.same,aR.same⟩
 .simp[ag.cat,ag]
 .simp[ag.cat,ag]
def As(s:a9)(l:c6)(a:dL s)(d:l.1=2)(n:Nat)(f:l.2.1=n)(h:n<=s.2.2.length) :
  cD (ι:=KU cr (s.2.1.filter λx=>!gU n s.2.2 x)) X 12 [ey s,gb l] []
   (λ_=>.e (.agg [aB 0 s.1.length s.1.length,aB 1 s.2.1.length (s.2.1.filter λx=>!gU n s.2.2 x).length,.c (.sl ae 2 l.2.1.toNat (cH.fn s.2.2))])) (λes=>[.buf 55 2 s.1.length (cP.fn s.1),.buf 59 2 s.2.1.length es.1]):=by
 refine cD.gy tok Tryz.func12 rfl rfl rfl λg=>?_
 refine bm rfl av ?_;refine AK.cQ (iz s a.p a.p2 a.sn a.s2 a.h) [] rfl ?_;refine bm rfl av ?_;refine AK.cQ (wK l d) [] rfl ?_;refine bm rfl av ?_;refine AK.nO (Hu s l n f h a.sn a.h) rfl rfl rfl rfl ?_ rfl ?_
 .simp[ag,ag.cat]
 rintro⟨es,b⟩;refine bm rfl av ?_;refine AK.dk ⟨es,b⟩ [3,4] rfl rfl rfl rfl rfl rfl rfl rfl ?_ rfl rfl rfl rfl iY;simp[ag.cat,ag,aR.same]
def Ci(s:a9)(l:c6)(j:dL s)(f:l.1=2)(n:Nat)(m:l.2.1=n)(h:n<=s.2.2.length):Ev X 12 [ey s,gb l] [] (ey (s.1,s.2.1.filter λx=>!gU n s.2.2 x,s.2.2.take n)) []:=by
 have g:(s.2.1.filter λx=>!gU n s.2.2 x).length<=s.2.1.length:=j1 _ _
 have a:=As (X:=X) s l j f n m h;have b:=cD.iW (σ1:=λ_:KU cr (s.2.1.filter λx=>!gU n s.2.2 x)=>[.buf 55 2 s.1.length (cP.fn s.1)]) (E:=59) (k:=2) (n:=λ_=>s.2.1.length) (es:=λes=>es.1) a (λ_=>rfl) (λ_=>?_) (λ_=>rfl) (λ_=>gh _)
 have c:=cD.iW (σ1:=λ_:KU cr (s.2.1.filter λx=>!gU n s.2.2 x)=>[]) (E:=55) (k:=2) (n:=λ_=>s.1.length) (es:=λ_=>cP.fn s.1) b (λ_=>rfl) (λ_=>?_) (λ_=>rfl) (λ_=>bc _)
 refine(c.le (res':=λ_=>ey (s.1,s.2.1.filter λx=>!gU n s.2.2 x,s.2.2.take n)) (λ_=>rfl) (λes=>?_)).one
 .have e:l.2.1.toNat=(s.2.2.take n).length:=by simp;omega
  simp only[ag.cat,ag,aF,aG];refine⟨aR.same,es.2,e,λi hi=>?_⟩
  have d:i<n:=by rw[e] at hi;simp at hi;omega
  simp[hZ.fn,sH,ai,gQ,d]
 .simp[ag.cat,ag]
 .simpa[ag.cat,ag] using g
end R1
end Go.AM
namespace Go.AM.R1
section
open Go.Proofs
variable {X:Cx ah}
def r9(s:a9)(l:c6)(a:dL s)(h:l.1=4)(es:Nat->List C)(b:Ev X 55 [.e (.one (.ptr 6 0)),Aj (tg l)] (MR s l (cH.fn s.2.2)) (.eN []) (MR s l es)) :
  cD (ι:=Unit) X 12 [ey s,gb l] [] (λ_=>.e (.agg [aB 0 s.1.length s.1.length,aB 1 s.2.1.length s.2.1.length,aB 2 s.2.2.length s.2.2.length])) (λ_=>[.buf 55 2 s.1.length (cP.fn s.1),.buf 59 2 s.2.1.length (cr.fn s.2.1),.buf 86 2 s.2.2.length es]):=by
 refine cD.gy tok Tryz.func12 rfl rfl rfl λc=>?_
 refine bm rfl av ?_;refine AK.cQ (wJ s a.p a.p2 a.sn a.s2 a.h) [] rfl ?_;refine bm rfl av ?_;refine AK.cQ (Eu l h) [] rfl ?_;refine bm rfl av ?_;refine AK.nO b.A9 rfl rfl rfl rfl ?_ rfl ?_
 .simp[ag,ag.cat]
 intro _;refine bm rfl av ?_;refine AK.dk () [3,4,5] rfl rfl rfl rfl rfl rfl rfl rfl ?_ rfl rfl rfl rfl iY;simp[ag.cat,ag,aR.same]
def sc(s:a9)(l:c6)(es:Nat->List C)(d:List (Int×Int))(f:d.length=s.2.2.length)(g:aR s.2.2.length es (cH.fn d))
  (a:cD (ι:=Unit) X 12 [ey s,gb l] [] (λ_=>.e (.agg [aB 0 s.1.length s.1.length,aB 1 s.2.1.length s.2.1.length,aB 2 s.2.2.length s.2.2.length])) (λ_=>[.buf 55 2 s.1.length (cP.fn s.1),.buf 59 2 s.2.1.length (cr.fn s.2.1),.buf 86 2 s.2.2.length es])) :
  Ev X 12 [ey s,gb l] [] (ey (s.1,s.2.1,d)) []:=by
 have h:=cD.iW (σ1:=λ_:Unit=>[.buf 55 2 s.1.length (cP.fn s.1),.buf 59 2 s.2.1.length (cr.fn s.2.1)]) (E:=86) (k:=2) (n:=λ_=>s.2.2.length) (es:=λ_=>es) a (λ_=>rfl) (λ_=>?_) (λ_=>rfl) (λ_=>gh _)
 have b:=cD.iW (σ1:=λ_:Unit=>[.buf 55 2 s.1.length (cP.fn s.1)]) (E:=59) (k:=2) (n:=λ_=>s.2.1.length) (es:=λ_=>cr.fn s.2.1) h (λ_=>rfl) (λ_=>?_) (λ_=>rfl) (λ_=>gh _)
 have c:=cD.iW (σ1:=λ_:Unit=>[]) (E:=55) (k:=2) (n:=λ_=>s.1.length) (es:=λ_=>cP.fn s.1) b (λ_=>rfl) (λ_=>?_) (λ_=>rfl) (λ_=>bc _)
 refine(c.le (res':=λ_=>ey (s.1,s.2.1,d)) (λ_=>rfl) (λ_=>?_)).one
 .simp only[ag.cat,ag,aF,aG];refine⟨aR.same,aR.same,f.symm,?_⟩;intro i hi;exact g i (by first|exact hi|(rw[<-f];exact hi))
 .simp[ag.cat,ag]
 .simp[ag.cat,ag]
 .simp[ag.cat,ag]
def Ak(s:a9)(l:c6)(c:dL s)(h:l.1=4)(b:0<=l.2.1)(a:l.2.1<s.2.2.length)(d:bx .i64 (3-Ew s l)) :
  Ev X 12 [ey s,gb l] [] (ey (s.1,s.2.1,s.2.2.set (0+l.2.1.toNat) (3-Ew s l,(s.2.2.getD (0+l.2.1.toNat) cH.bC).2))) [] :=
 sc s l _ _ (by simp) (cH.qJ s.2.2 (0+l.2.1.toNat) (3-Ew s l,(s.2.2.getD (0+l.2.1.toNat) cH.bC).2) s.2.2.length (bc _)) (r9 s l c h _ (Hp s l b a d))
def Al(s:a9)(l:c6)(b:dL s)(h:l.1=4)(a:¬(0<=l.2.1/\l.2.1<s.2.2.length)):Ev X 12 [ey s,gb l] [] (ey s) [] :=
 sc s l _ s.2.2 rfl aR.same (r9 s l b h _ (Hq s l a))
end
section
open Go.Proofs
open Go.Sort (pdq bitsLen ltInt Below)
variable {X:Cx ah}
def mK(l:List Int):List Int:=l.mergeSort λx y=>decide (x<=y)
def gK(l:List Int):(mK l).length=l.length:=List.length_mergeSort _
def Mm(l:List Int):pdq ltInt l.toArray 0 l.length (bitsLen l.length) ab ab=(mK l).toArray:=by
 have h:=Go.Sort.sortInt l;unfold Go.Sort.sort at h;rw[List.size_toArray] at h;exact hO (by rw[h];rfl)
def VP(l:List Int):eI l.toArray=cI.fn l:=by
 funext j
 simp only[eI,hZ.fn,sH,cI,ai];simp
abbrev H5(n:Nat)(l:List Int):aW:=.buf 3 1 n (cI.fn l)
def CM(l:List Int)(a:l.length<=4000000):Ev X 96 [kD l.length] [H5 l.length l] (.eN []) [H5 l.length (mK l)]:=by
 refine Ev.bQ Tryz.func96 rfl λc=>?_
 refine dE rfl (by simp only[ag,bx];and_intros <;> omega) ?_
 refine AK.cQ (Mn l.length a) [] rfl ?_;refine dE rfl av ?_;have b:=ku (x:=l.length) (k:=22) (by simp;omega)
 have key:Ev X 112 [kD l.length,dI 0,dI l.length,dI (bitsLen l.length)] [H5 l.length l] (.eN []) [H5 l.length (mK l)]:=by
  have:=SF (X:=X) l.length a l.length l.toArray 0 l.length (bitsLen l.length) (by omega) (by simp) (by omega) (bc _) (by omega) (.inl rfl) (x:=0) rfl rfl rfl (Mm l).symm
  simp only[bI,VP] at this;exact this
 refine AK.cQ key [0] rfl ?_;refine dE rfl av ?_;exact bZ.s9 [0] rfl av rfl rfl rfl g7
def jU(l:List Int):Nat->List Int
 |0=>[]
 |j+1=>if j≠0/\l.getD j 0=l.getD (j-1) 0 then jU l j else jU l j++[l.getD j 0]
def dJ(l:List Int):List Int:=jU l l.length
def sx(l:List Int):∀ j,(jU l j).length<=j
 |0=>bc _
 |j+1=>by
  have:=sx l j;simp only[jU];split
  .omega
  .simp;omega
def nB{l:List Int}:∀ {k:Nat},k<=l.length->(∀ i,1<=i->i<k->l.getD i 0≠l.getD (i-1) 0)->jU l k=l.take k
 |0,_,_=>by simp[jU]
 |k+1,b,h=>by
  rw[jU,aY,nB (by omega) λi a c=>h i a (by omega),bu (by omega) 0]
  grind
structure CoP (l:List Int)(k0:Nat)(k2:Nat)(ys:List Int):Prop where
 h1:1<=k2
 hj:k0+k2<=l.length
 len:ys.length=l.length
 lt:(jU l (k0+k2)).length<k0+k2
 done:ys.take (jU l (k0+k2)).length=jU l (k0+k2)
 rest:∀ i,k0+k2<=i+1->ys.getD i 0=l.getD i 0
abbrev Mo(a:List Int):Type:={ es:Nat->List C // ∀ i,i<a.length->es i=cI.fn a i }
def xa(l:List Int)(M:l.length<=4000000):cD (ι:=Mo (dJ l)) X 97 [kD l.length] [H5 l.length l] (λ_=>.e (.one (.bp 0 (.sl l.length 1 0 (dJ l).length)))) (λes=>[.buf 3 1 l.length es.1]):=by
 refine cD.ox Tryz.func97 rfl rfl rfl λK=>?_
 by_cases C:l.length<2
 .have n:dJ l=l:=by
   unfold dJ;rw[nB (bc _) λi _ _=>by omega,bY]
  refine aX [(8,ab)] 200 rfl (by simp only[ag,bd];omega) (AK.k6 ⟨cI.fn l,λi _=>by rw[n]⟩ (AK.dA [0] rfl ?_ rfl rfl rfl g7))
  simp[ag,n]
 refine aX [(8,ae)] 200 rfl (by simp only[ag,bR];omega) ?_
 refine AK.kM (S2:=Unit) 0 rfl rfl (λ_=>dJ l=l) (λ_=>[(0,kD l.length)]) (λ_=>[H5 l.length l]) 1 (λk:Nat=>1<=k/\k<=l.length/\∀ i,1<=i->i<k->l.getD i 0≠l.getD (i-1) 0) (λk=>[(0,kD l.length),(3,dI k)]) (λ_=>[H5 l.length l]) (λk=>l.length-k) 1 rfl ?_ rfl ?_ rfl ⟨bc _,by omega,λi L C=>by omega⟩ ?_ ?_
 .simp[ag.cat,ag]
 .simp[ag.cat,ag,aR.same]
 .rintro out k ⟨B,J,d⟩
  by_cases z:k<l.length
  .have y:((k:Int)-1).toNat=k-1:=by omega
   have x:∀ j,l.getD j cI.bC=l.getD j 0:=λ_=>rfl
   by_cases g:l.getD k 0=l.getD (k-1) 0
   .refine aX [(13,ab),(25,ab)] 200 rfl ?_ ?_
    .simp only[ag,br,bt,y,x,g,bx,bd,ef,aG,aF];and_intros <;> omega
    have E:=nB (l:=l) (by omega) d
    have t:jU l (k+1)=l.take k:=by rw[jU,bg ⟨by omega,g⟩,E]
    refine AK.kM (S2:=List Int) 2 rfl rfl (λc=>c.length=l.length/\c.take (dJ l).length=dJ l) (λ_=>[(0,kD l.length),(3,dI (dJ l).length)]) (λc=>[H5 l.length c]) 1 (λs:Nat×List Int=>CoP l k s.1 s.2) (λs=>[(0,kD l.length),(3,dI (jU l (k+s.1)).length),(4,.e (.one (.bp 0 (.sl l.length 1 k (l.length-k))))),(5,dI s.1)]) (λs=>[H5 l.length s.2]) (λs=>l.length-s.1) (1,l) rfl ?_ rfl ?_ rfl ?_ ?_ ?_
    .simp only[ag.cat,ag,t,List.length_take,cn,br,bt,aG,aF];exact⟨by omega,rfl,rfl⟩
    .simp[ag.cat,ag,aR.same]
    .exact⟨bc _,by omega,rfl,by rw[t,List.length_take];omega,by rw[t];simp[List.take_take],λ_ _=>rfl⟩
    .rintro h ⟨b,c⟩ ⟨G,c2,c3,c4,m,o⟩;simp only at G c2 c3 c4 m o
     by_cases H:k+b<l.length
     .have v:((b:Int)-1).toNat=b-1:=by omega
      have r:∀ j,c.getD j cI.bC=c.getD j 0:=λ_=>rfl
      have q:c.getD (k+b) 0=l.getD (k+b) 0:=o _ (by omega)
      have w:c.getD (k+(b-1)) 0=l.getD (k+(b-1)) 0:=o _ (by omega)
      by_cases p:l.getD (k+b) 0=l.getD (k+(b-1)) 0
      .have f:jU l (k+(b+1))=jU l (k+b):=by
        rw[show k+(b+1)=k+b+1 by omega,jU,bg ⟨by omega,by rw[p,show k+b-1=k+(b-1) by omega]⟩]
       refine aX [(32,ab),(44,ae)] 200 rfl ?_ (AK.aQ (b+1,c) rfl ?_ ?_ ?_ ?_)
       .simp only[ag,br,bt,v,r,q,w,p,bx,bd,kX,fH,ef,aG,aF];and_intros <;> first|trivial|omega
       .simp only[ag.cat,ag,f,aG,aF];omega
       .simp[ag.cat,ag,aR.same]
       .exact⟨by simp only;omega,by simp only;omega,c3,by simp only;rw[f];omega,by simp only;rw[f];exact m,λi hi=>o i (by simp only at hi;omega)⟩
       .simp only;omega
      .have f:jU l (k+(b+1))=jU l (k+b)++[l.getD (k+b) 0]:=by
        rw[show k+(b+1)=k+b+1 by omega,jU,aY]
        rintro⟨_,g⟩;exact p (by rw[g,show k+b-1=k+(b-1) by omega])
       refine aX [(32,ab),(44,ab)] 200 rfl ?_ (AK.aQ (b+1,c.set (jU l (k+b)).length (l.getD (k+b) 0)) rfl ?_ ?_ ?_ ?_)
       .simp only[ag,br,bt,v,r,q,w,bx,bd,jg,dv,lq,cT,aG,aF];and_intros <;> first|exact p|omega
       .simp only[ag.cat,ag,f,bG,eQ,gA,aG,aF];and_intros <;> omega
       .have e:=cI.qJ c (jU l (k+b)).length (l.getD (k+b) 0) l.length (by omega)
        simp only[ag.cat,ag,br,bt,r,q,aF,aG];exact e
       .refine⟨by simp only;omega,by simp only;omega,by simp[c3],by grind,?_,λi hi=>?_⟩
        .simp only;rw[f,bG,show ∀ a:Int,[a].length=1 fromλ_=>rfl,j3,List.take_set,za (by simp;omega),m,eX (by omega)]
         rfl
        .simp only at hi ⊢;rw[ai,fE (by omega),<-ai]
         exact o i (by omega)
       .simp only;omega
     .have F:k+b=l.length:=by omega
      have u:jU l (k+b)=dJ l:=by rw[F];rfl
      refine aX [(32,ae)] 200 rfl ?_ (AK.leaveD rfl rfl ?_)
      .simp only[ag,bR];omega
      rw[u] at m;exact h c ⟨c3,m⟩ rfl (by simp[ag.cat,ag,u]) rfl (by simp[ag.cat,ag,aR.same])
    rintro c ⟨A,D⟩;have I:(dJ l).length<=l.length:=sx l _;refine dE rfl ?_ ?_
    .simp only[ag];exact⟨by omega,by omega⟩
    refine AK.law (bF.DF tok rfl rfl rfl rfl rfl rfl ?_) rfl rfl ?_
    .simp only[cn,bt];omega
    refine bm rfl ?_ (AK.ee ⟨⟨oV (0+cn 0 (aa ((dJ l).length:Int))) (0+cn 0 (aa ((dJ l).length:Int))+(cn l.length af-cn 0 (aa ((dJ l).length:Int)))) i3.zero (cI.fn c),λi hi=>?_⟩,bZ.mk [0] rfl ?_ rfl rfl rfl g7⟩)
    .simp only[ag];exact⟨by omega,by omega⟩
    .have e:c[i]?=(dJ l)[i]?:=by grind
     refine(qL (by simp only[cn,bt];omega)).trans ?_
     simp only[hZ.fn,sH,ai,e]
    .simp[ag,cn];rfl
   .refine aX [(13,ab),(25,ae)] 200 rfl ?_ (AK.aQ (k+1) rfl ?_ ?_ ?_ ?_)
    .simp only[ag,br,bt,y,x,bx,bd,dv,cT,aG,aF];and_intros <;> first|exact g|omega
    .simp[ag.cat,ag]
    .simp[ag.cat,ag,aR.same]
    .grind
    .omega
  .obtain rfl:k=l.length:=by omega
   refine aX [(13,ae)] 200 rfl (by simp[ag]) (AK.leaveD rfl rfl ?_)
   exact out () (by unfold dJ;rw[nB (bc _) d,bY]) rfl (by simp[ag.cat,ag]) rfl (by simp[ag.cat,ag,aR.same])
 rintro⟨⟩ n;refine dE rfl av (AK.k6 ⟨cI.fn l,λi _=>by rw[n]⟩ (AK.dA [0] rfl ?_ rfl rfl rfl g7))
 simp[ag,n]
end
section
open Go.Proofs
variable {X:Cx ah}
def cf(l:List gG):List Int:=l.flatMap (·.2)
def gY(x:cN):List Int:=dJ (mK (cf x.2))
def su{l:List gG}{i:Nat}(h:i<l.length):cf (l.take (i+1))=cf (l.take i)++(l.getD i ([],[])).2:=by
 rw[bu h ([],[])];simp[cf]
def _root_.Go.AM.hZ.LJ{α:Type}(c:hZ α)(a b:List α)(n:Nat)(hn:n=(a++b).length):aR n (cJ a.length (c.fn a) (c.fn b)) (c.fn (a++b)):=by
 intro i hi;simp only[cJ,hZ.fn,sH,ai]
 grind
def xY(x:cN)(n:x.2.length<=4000000)(g:(cf x.2).length<=4000000)(l:∀ i,i<=x.2.length->(cf (x.2.take i)).length<=4000000) :
  cD (ι:=Mo (gY x)) X 73 [Ca x] [] (λ_=>.e (.one (.bp 0 (.sl (cf x.2).length 1 0 (gY x).length)))) (λes=>[.buf 3 1 (cf x.2).length es.1]):=by
 refine cD.ox Tryz.func73 rfl rfl rfl λo=>?_
 refine aX [(1000002,ab)] 200 rfl av ?_;refine AK.Re 3 3 1 (cI.fn []) rfl ?_;refine dE rfl av ?_;refine AK.bJ 2 (λi=>i<=x.2.length) (λi:Nat=>[(3,.e (.one (.bp 1 (.sl (cf (x.2.take i)).length 1 0 (cf (x.2.take i)).length)))),(7,cL.sl x.2),(8,dI x.2.length),(9,dI i)])
  (λi=>[.cells 59 [.c (.int .i64 x.1),.c (.sl ae 2 x.2.length (cL.fn x.2))],H5 (cf (x.2.take i)).length (cf (x.2.take i))]) (λi=>x.2.length-i) 0 rfl ?_ rfl ?_ rfl (by omega) ?_
 .simp[ag.cat,ag,aR.same,cf]
 .simp[ag.cat,ag,aR,cf]
 intro i hi
 by_cases h:i<x.2.length
 .have b:x.2.getD (i:Int).toNat cL.bC=x.2.getD i ([],[]):=by rw[bt];rfl
  have a:=su h;have f:=l (i+1) h;rw[a,bG] at f;refine aX [(10,ab)] 200 rfl ?_ (AK.aQ (i+1) rfl ?_ ?_ ?_ ?_)
  .simp only[ag,b,bx,show i3.bytes=8 from rfl,bd,aG,aF];and_intros <;> omega
  .simp only[ag.cat,ag,b,a,bG,aF,aG]
   and_intros <;> first|exact aR.same|rfl|omega
  .have e:=cI.LJ (cf (x.2.take i)) (x.2.getD i ([],[])).2 _ rfl;simp only[ag.cat,ag,b,a,bG,aF,aG] at e ⊢;exact⟨aR.same,e⟩
  .show i+1<=_;omega
  .omega
 .obtain rfl:i=x.2.length:=by omega
  rw[bY];refine aX [(10,ae)] 200 rfl (by simp[ag]) (AK.leaveD rfl rfl ?_)
  refine dE rfl av ?_;refine AK.cQ (CM (cf x.2) g) [1] rfl ?_;refine dE rfl av ?_;have k:=xa (X:=X) (mK (cf x.2)) (by rw[gK];exact g)
  rw[gK] at k;refine AK.cP k [1] rfl (λ_=>rfl) ?_
  rintro⟨es,d⟩;refine dE rfl av (AK.k6 ⟨es,d⟩ (AK.dA [1] rfl ?_ rfl rfl rfl (λj m=>absurd m (by simp))))
  simp[ag,gY]
def nA(l:List gG)(i:Nat):(cf (l.take i)).length<=(cf l).length:=by
 have h:cf l=cf (l.take i)++cf (l.drop i):=by
  unfold cf;rw[<-nI,j0]
 rw[h,bG];omega
def sv(l:List Int):(dJ l).length<=l.length:=sx l _
def AO(x:cN)(d:x.2.length<=4000000)(c:(cf x.2).length<=4000000):Ev X 73 [Ca x] [] (cI.sl (gY x)) []:=by
 have a:=xY (X:=X) x d c λi _=>ez (nA _ _) c
 have b:=cD.iW (σ1:=λ_:Mo (gY x)=>[]) (E:=3) (k:=1) (n:=λ_=>(cf x.2).length) (es:=λes=>es.1) a (λ_=>rfl) (λ_=>?_) (λ_=>rfl) (λ_=>bc _)
 refine(b.le (res':=λ_=>cI.sl (gY x)) (λ_=>rfl) (λes=>?_)).one
 .simp only[ag.cat,ag,aF,aG];exact es.2
 .have:(gY x).length<=(cf x.2).length:=by unfold gY;rw[<-gK (cf x.2)];exact sv _
  simpa[ag.cat,ag] using this
def RQ(n lo hi:Int):Ev X 18 [dI n,dI lo,dI hi] [] (dB (decide (lo<=n/\n<=hi))) []:=by
 refine Ev.bQ Tryz.func18 rfl λc=>?_
 by_cases b:lo<=n
 .by_cases a:n<=hi
  .refine aX [(10,ab),(14,ab)] 100 rfl (by simp[ag];omega) (AK.bo rfl ?_)
   simp[ag,b,a]
  .refine aX [(10,ab),(14,ae)] 100 rfl (by simp[ag];omega) (AK.bo rfl ?_)
   simp[ag];omega
 .refine aX [(10,ae),(14,ae)] 100 rfl (by simp[ag];omega) (AK.bo rfl ?_)
  simp[ag];omega
abbrev pn:dg:=Di aI aI aI (λn lo hi=>dB (decide (lo<=n/\n<=hi))) λ_ _ _=>[]
def qf:dD X 18 pn:=.IN λn lo hi _=>RQ n lo hi
def Hv(n:Nat)(f:n<=4000000):Ev X 203 [dI n] [] (dI (cB n)) []:=by
 refine Ev.bQ Tryz.func203 rfl λe=>?_
 by_cases c:n<1
 .refine aX [(6,ab),(9,ab)] 100 rfl (by simp[ag];omega) (AK.bo rfl ?_)
  have:cB n=0:=by simp[cB,c]
  simp[ag,this]
 by_cases d:8<n
 .refine aX [(6,ae),(9,ab)] 100 rfl (by simp[ag];omega) (AK.bo rfl ?_)
  have:cB n=0:=by simp[cB,d]
  simp[ag,this]
 by_cases a:n<=2
 .refine aX [(6,ae),(9,ae),(10,ab)] 100 rfl (by simp[ag];omega) (AK.bo rfl ?_)
  have:cB n=2:=by simp only[cB,aY (show ¬(n<1∨8<n) by omega),bg a]
  simp[ag,this]
 by_cases b:n<=4
 .refine aX [(6,ae),(9,ae),(10,ae),(13,ab)] 100 rfl (by simp[ag];omega) (AK.bo rfl ?_)
  have:cB n=4:=by simp only[cB,aY (show ¬(n<1∨8<n) by omega),aY a,bg b]
  simp[ag,this]
 .refine aX [(6,ae),(9,ae),(10,ae),(13,ae)] 100 rfl (by simp[ag];omega) (AK.bo rfl ?_)
  have:cB n=8:=by simp only[cB,aY (show ¬(n<1∨8<n) by omega),aY a,aY b]
  simp[ag,this]
def Of(l:List Bs)(p:Bs)(g:l.length<=4000000):Ev X 158 [cS.sl l,dS p] [] (dB (l.contains p)) []:=by
 refine Ev.bQ Tryz.func158 rfl λf=>?_
 refine bm rfl av ?_;refine AK.bJ 0 (λi=>i<=l.length/\∀ j,j<i->l.getD j []≠p) (λi:Nat=>[(0,cS.sl l),(1,dS p),(5,dI i)]) (λ_=>[]) (λi=>l.length-i) 0 rfl ?_ rfl ?_ rfl ⟨by omega,by omega⟩ ?_
 .simp[ag.cat,ag,aR.same]
 .simp[ag]
 rintro i ⟨hi,b⟩
 by_cases h:i<l.length
 .have a:l.getD (i:Int).toNat cS.bC=l.getD i []:=by rw[bt];rfl
  by_cases d:l.getD i []=p
  .refine aX [(9,ab),(17,ab)] 100 rfl ?_ (AK.ee (bZ.zero rfl ?_))
   .simp only[ag,a]
    grind
   .have:p∈l:=by grind
    simp[ag,this]
  .refine aX [(9,ab),(17,ae)] 100 rfl ?_ (AK.aQ (i+1) rfl ?_ ?_ ?_ ?_)
   .simp only[ag,a,bx]
    grind
   .simp[ag.cat,ag,aR.same]
   .simp[ag]
   .grind
   .omega
 .refine aX [(9,ae)] 100 rfl (by simp[ag];omega) (AK.leaveD rfl rfl ?_)
  refine bm rfl av (AK.bo rfl ?_);have:¬p∈l:=λc=>by
   obtain⟨j,e,rfl⟩:=dX c
   grind
  simp[ag,this]
def KV(p:Bs)(b:bL p=ab):Ev X 153 [dS p] [] (dI (codeOf p)) []:=by
 refine Ev.bQ Tryz.func153 rfl λg=>?_
 have a:=b;simp only[bL,bO,bd] at a;refine bm rfl av ?_;refine AK.bJ 0 (λi=>i<=p.length) (λi:Nat=>[(0,dS p),(3,dI (codeOf (p.take i))),(4,dI i)]) (λ_=>[]) (λi=>p.length-i) 0 rfl (by simp[ag.cat,ag,codeOf]) rfl (by simp[ag]) rfl (by omega) ?_
 intro i hi
 by_cases h:i<p.length
 .have j:=jP b hi;have k:=jP b (i:=i+1) (by omega)
  have e:=tR h;have f:=kO a.2 (p.getD i 0) (wB h);have d:97<=cy p i/\cy p i<=122:=by unfold cy;omega
  refine aX [(8,ab)] 100 rfl ?_ (AK.aQ (i+1) rfl ?_ ?_ ?_ ?_)
  .simp only[ag,cu,bx];simp[-ai,h,cu];omega
  .have c:(cy p i-97) % 256=cy p i-97:=Int.emod_eq_of_lt (by omega) (by omega)
   rw[c] at e;simp[-ai,ag.cat,ag,cu,e]
  .simp[ag]
  .show i+1<=p.length;omega
  .show p.length-(i+1)<p.length-i;omega
 .obtain rfl:i=p.length:=by omega
  refine aX [(8,ae)] 100 rfl (by simp[ag]) (AK.leaveD rfl rfl ?_)
  refine bm rfl av (AK.bo rfl ?_);simp[ag]
def RR:dD X 153 (kN aS (λp=>dI (codeOf p)) λp=>[bL p=ab]):=.oH λp h=>KV p h
def KW(k:Int)(p:Bs)(d:cA k=ab)(b:bL p=ab):Ev X 118 [dI k,dS p] [] (dI (iX k p)) []:=by
 refine Ev.bQ Tryz.func118 rfl λh=>?_
 have c:bD X [(153,kN aS (λp=>dI (codeOf p)) λp=>[bL p=ab])]:=.cons RR .nil
 have a:=d;simp only[cA,bO,bd] at a;have e:=yu b;refine aE c [] 100 rfl ?_ (AK.bo rfl ?_)
 .have f:0<=codeOf p*(2*k+1):=Int.mul_nonneg e.1 (by omega)
  have g:codeOf p*(2*k+1)<=282429536481*199:=Int.mul_le_mul (by omega) (by omega) (by omega) (by omega)
  generalize codeOf p*(2*k+1)=m at f g;simp only[ag,bx];simp[b];omega
 .show (_:Int)=_;rfl
def Au:dD X 118 (ow aI aS (λk p=>dI (iX k p)) λk p=>[cA k=ab,bL p=ab]):=.qG λk p h=>KW k p h.1 h.2
def KX(l:List dh) (n:Int)(g:l.length<=4000000):Ev X 157 [oI.sl l,dI n] [] (dI (tS l n)) []:=by
 refine Ev.bQ Tryz.func157 rfl λf=>?_
 refine bm rfl av ?_;refine AK.bJ 0 (λi=>i<=l.length/\∀ j,j<i->(l.getD j (0,0)).1≠n) (λi:Nat=>[(0,oI.sl l),(1,dI n),(5,dI i)]) (λ_=>[]) (λi=>l.length-i) 0 rfl ?_ rfl ?_ rfl ⟨by omega,by omega⟩ ?_
 .simp[ag.cat,ag,aR.same]
 .simp[ag]
 rintro i ⟨hi,b⟩
 by_cases h:i<l.length
 .have a:l.getD (i:Int).toNat oI.bC=l.getD i (0,0):=by rw[bt];rfl
  by_cases d:(l.getD i (0,0)).1=n
  .refine aX [(9,ab),(18,ab)] 100 rfl ?_ (AK.ee (bZ.zero rfl ?_))
   .simp only[ag,a]
    grind
   .have:tS l n=(l.getD i (0,0)).2:=by
     have:l.find? (λs=>s.1==n)=aa (l.getD i (0,0)):=by
      rw[List.find?_eq_some_iff_getElem]
      grind
     rw[tS,this]
    simp only[ag,a];rw[this]
  .refine aX [(9,ab),(18,ae)] 100 rfl ?_ (AK.aQ (i+1) rfl ?_ ?_ ?_ ?_)
   .simp only[ag,a,bx]
    grind
   .simp[ag.cat,ag,aR.same]
   .simp[ag]
   .grind
   .omega
 .refine aX [(9,ae)] 100 rfl (by simp[ag];omega) (AK.leaveD rfl rfl ?_)
  refine bm rfl av (AK.bo rfl ?_);have:tS l n=0:=by
   have:l.find? (λs=>s.1==n)=af:=by
    rw[List.find?_eq_none];intro x c;obtain⟨j,e,rfl⟩:=dX c
    grind
   rw[tS,this]
  simp[ag,this]
def wM{n:Nat}(b:1<=n)(a:n<=8):n<=cB n/\cB n<=8:=by
 unfold cB
 grind
abbrev F7:dg:=kN aI (λn=>dI (cB n.toNat)) λn=>[0<=n/\n<=4000000]
def Og:dD X 203 F7:=.oH λn h=>by
 obtain⟨m,rfl⟩:∃ m:Nat,n=m:=⟨n.toNat,by have:=h.1;omega⟩
 exact Hv m (by have:=h.2;omega)
def Oh(p:Bs)(c:bL p=ab):Ev X 162 [dS p] [] (dS (iE p)) []:=by
 refine Ev.bQ Tryz.func162 rfl λf=>?_
 have b:bD X [(203,F7)]:=.cons Og .nil;have a:=c;simp only[bL,bO,bd] at a;have g:=wM a.1.1 a.1.2;refine aE b [] 100 rfl ?_ ?_
 .simp only[ag];omega
 refine AK.bJ 0 (λj=>p.length+j<=cB p.length) (λj:Nat=>[(0,dS (p++List.replicate j 46)),(3,dI (cB p.length))]) (λ_=>[]) (λj=>cB p.length-j) 0 rfl (by simp[ag.cat,ag]) rfl (by simp[ag]) rfl (by omega) ?_
 intro j d
 by_cases h:p.length+j<cB p.length
 .refine aE b [(10,ab)] 100 rfl ?_ (AK.aQ (j+1) rfl ?_ ?_ ?_ ?_)
  .simp[ag];omega
  .simp[ag.cat,ag,List.replicate_succ']
  .simp[ag]
  .show p.length+(j+1)<=_;omega
  grind
 .have e:cB p.length-p.length=j:=by omega
  refine aE b [(10,ae)] 100 rfl (by simp[ag];omega) (AK.leaveD rfl rfl ?_)
  refine aE b [] 100 rfl av (AK.bo rfl ?_);simp[ag,iE,c,e]
def KY(s:dh):Ev X 159 [.e (.agg [.c (.int .i64 s.1),.c (.int .i64 s.2)])] [] (dB (k7 s)) []:=by
 refine Ev.bQ Tryz.func159 rfl λf=>?_
 have b:bD X [(18,pn)]:=.cons qf .nil
 by_cases a:0<=s.1/\s.1<=999999999988
 .by_cases d:1<=s.2/\s.2<=99
  .refine aE b [(6,ab),(10,ab)] 100 rfl (by simp[ag,a,d]) (AK.bo rfl ?_)
   have:k7 s=ab:=by simp[k7,a,d];omega
   simp[ag,this]
  .refine aE b [(6,ab),(10,ae)] 100 rfl (by simp[ag,a,d] <;> omega) (AK.bo rfl ?_)
   have:k7 s=ae:=by simp[k7,a];omega
   simp[ag,this]
 .refine aE b [(6,ae),(10,ae)] 100 rfl (by simp[ag];omega) (AK.bo rfl ?_)
  have:k7 s=ae:=by simp[k7];omega
  simp[ag,this]
abbrev KZ:dg:=kN Ta (λs=>dB (k7 s)) λ_=>[]
def RS:dD X 159 KZ:=.oH λs _=>KY s
def K1(s:Bs)(i:Nat)(a:b8 s=ab)(k:3<=i)(hi:i<=s.length)(g:s.length<=4000000):Ev X 233 [dS s,dI i] [] (dB (k5 s i)) []:=by
 refine Ev.bQ Tryz.func233 rfl λe=>?_
 have f:=Ha a (i-1) (by omega)
 have j:=Ha a (i-2) (by omega)
 have h:=Ha a (i-3) (by omega)
 have d:((iO s ((i:Int)-1)).toNat:Int)=cy s (i-1):=by rw[cu,show ((i:Int)-1).toNat=i-1 by omega]
 have b:((iO s ((i:Int)-2)).toNat:Int)=cy s (i-2):=by rw[cu,show ((i:Int)-2).toNat=i-2 by omega]
 have c:((iO s ((i:Int)-3)).toNat:Int)=cy s (i-3):=by rw[cu,show ((i:Int)-3).toNat=i-3 by omega]
 refine bm rfl ?_ (AK.bo rfl ?_)
 .simp only[ag,bx,d,b,c];omega
 .simp only[ag,ag.cat,d,b,c,k5,dl,aF]
  grind
abbrev K2:dg:=ow aS aI (λs i=>dB (k5 s i.toNat)) λs i=>[b8 s=ab,3<=i,i<=s.length,s.length<=4000000]
def RU:dD X 233 K2:=.qG λs i h=>by
 obtain⟨b,d,c,a⟩:=h;obtain⟨m,rfl⟩:∃ m:Nat,i=m:=⟨i.toNat,by omega⟩
 exact K1 s m b (by omega) (by omega) a
def RV(t:Bs)(f:Nat)(i:b8 t=ab)(l:f<=t.length)(q:t.length<=4000000):Ev X 223 [dS t,dI f] [] (dI (cutAt t f)) []:=by
 refine Ev.bQ Tryz.func223 rfl λp=>?_
 have b:bD X [(233,K2)]:=.cons RU .nil;refine aE b [] 100 rfl av ?_;refine AK.jV (λj=>j<=5/\tb t f (5-j)=cutAt t f) (λj:Nat=>[(0,dS t),(1,dI f),(5,dI (3+j))]) (λ_=>[]) (λj=>5-j) 0 rfl ?_ rfl av ⟨by omega,rfl⟩ ?_
 .simp[ag,ag.cat]
 rintro j ⟨o,a⟩
 by_cases h:j<5
 .obtain⟨k,m⟩:∃ k,5-j=k+1:=⟨4-j,by omega⟩
  have d:f+(7-k)=f+3+j:=by omega
  rw[m] at a;simp only[tb,d] at a
  by_cases g:t.length<=f+3+j
  .rw[bg g] at a;refine aE b [(7,ab),(15,ab)] 100 rfl ?_ (AK.hY (bZ.zero rfl ?_))
   .simp only[ag,bx,bd,aG,aF];omega
   .simp[ag,ag.cat,<-a]
  rw[aY g] at a;have e:((f:Int)+(3+(j:Int))).toNat=f+3+j:=by omega
  cases c:k5 t (f+3+j) with
  |true =>
   rw[c,bg rfl] at a;refine aE b [(7,ab),(15,ae),(22,ab)] 100 rfl ?_ (AK.hY (bZ.zero rfl ?_))
   .simp only[ag,bx,e,c,i,bd,bR,aG,aF];omega
   .simp[ag,ag.cat,<-a];omega
  |false =>
   rw[c,aY (by simp)] at a
   refine aE b [(7,ab),(15,ae),(22,ae)] 100 rfl ?_ (AK.gm (j+1) rfl ?_ rfl av ⟨by omega,by rw[<-a];congr 1;omega⟩ (by omega))
   .simp only[ag,bx,e,c,i,bd,bR,aG,aF];omega
   .simp[ag,ag.cat];omega
 .have e:cutAt t f=min (f+8) t.length:=by
   rw[<-a,show 5-j=0 by omega];rfl
  have n:bx .i64 ((min (f+8) t.length:Nat):Int):=by simp only[bx];omega
  refine aE b [(7,ae)] 100 rfl ?_ (AK.leave rfl rfl ?_)
  .simp only[ag,bx,bd,bR];omega
  refine aE b [] 100 rfl ?_ ?_
  .simp only[ag,bx];omega
  refine AK.law (Ae ((min (f+8) t.length:Nat):Int) rfl rfl rfl (by omega) n) rfl rfl ?_
  refine aE b [] 100 rfl av (AK.bo rfl ?_);simp[ag,e]
abbrev Vj:dg:=ow aS aI (λs i=>dI (cutAt s i.toNat)) λs i=>[b8 s=ab,0<=i,i<=s.length,s.length<=4000000]
def Yu:dD X 223 Vj:=.qG λs i h=>by
 obtain⟨b,d,c,a⟩:=h;obtain⟨m,rfl⟩:∃ m:Nat,i=m:=⟨i.toNat,by omega⟩
 exact RV s m b (by omega) a
abbrev l0(t:Bs):List Int:=(Av t).map λn:Nat=>(n:Int)
def K3(t:Bs)(m:b8 t=ab)(p:t.length<=4000000):Ev X 202 [dS t] [] (cI.sl (l0 t)) []:=by
 refine Ev.bQ Tryz.func202 rfl λo=>?_
 have a:bD X [(223,Vj)]:=.cons Yu .nil;refine aE a [(1000003,ab)] 100 rfl av ?_;refine AK.ix 3 3 1 rfl rfl ?_;refine aE a [] 100 rfl av ?_;refine AK.bJ 1 (λs:Nat×List Int=>s.1<=t.length/\s.2.length<=s.1/\∃ k,t.length<=s.1+k/\l0 t=s.2++(mG t k s.1).map λn:Nat=>(n:Int)) (λs=>[(0,dS t),(3,.e (.one (.vec 0 1 s.2.length (cI.fn s.2)))),(4,dI s.1)]) (λs=>[.vec 3 1 s.2.length (cI.fn s.2)]) (λs=>t.length-s.1) (0,[]) rfl ?_ rfl ?_ rfl ⟨by simp,by simp,t.length,by simp,by simp[l0,Av]⟩ ?_
 .simp[ag.cat,ag,aR.same,aR.nil]
 .simp[ag.cat,ag,aR.same,aR.nil]
 rintro⟨f,acc⟩ ⟨c,b,k,l,d⟩;simp only at c b l d
 by_cases h:f<t.length
 .obtain⟨k,rfl⟩:∃ k',k=k'+1:=⟨k-1,by omega⟩
  have j:=nt t f h;have g:=cI.cm acc (cutAt t f:Int);have i:acc.length+1=(acc++[(cutAt t f:Int)]).length:=by simp
  refine aE a [(9,ab)] 100 rfl ?_ (AK.aQ (cutAt t f,acc++[(cutAt t f:Int)]) rfl ?_ ?_ ?_ ?_)
  .simp only[ag,m,show i3.bytes=8 from rfl,bd,aG,aF]
   and_intros <;> omega
  .exact ag.cat.2 ⟨rfl,ag.cat.2 ⟨⟨i,g⟩,ag.cat.2 ⟨rfl,av⟩⟩⟩
  .exact ag.cat.2 ⟨⟨i,g⟩,av⟩
  .refine⟨j.2.1,by simp;omega,k,by simp only;omega,?_⟩
   rw[d];simp only[mG,bg h];simp
  .simp only;omega
 .have e:l0 t=acc:=by
   have:mG t k f=[]:=by cases k <;> simp[mG,h]
   rw[d,this];simp
  refine aE a [(9,ae)] 100 rfl (by simp only[ag,bR];omega) (AK.leaveD rfl rfl ?_)
  refine aE a [] 100 rfl av (AK.bo rfl ?_);rw[e];simp[ag,ag.cat,aR.same]
abbrev K4:dg:=kN aS (λt=>cI.sl (l0 t)) λt=>[b8 t=ab,t.length<=4000000]
def RX:dD X 202 K4:=.oH λt h=>K3 t h.1 h.2
def drop_cons{α:Type}{l r:List α}{i:Nat}{x:α}(h:l.drop i=x::r)(d:α):i<l.length/\l.getD i d=x/\l.drop (i+1)=r:=by
 have a:i<l.length:=by
  rcases cx i l.length with a|a
  .exact a
  .rw[zc a] at h;cases h
 rw[y9 a] at h
 grind
def yz(t:Bs):∀ k f,(mG t k f).length<=k
 |0,_=>bc _
 |k+1,f=>by
  simp only[mG];split
  .have:=yz t k (cutAt t f);simp;omega
  .simp
def Oi(t:Bs)(A:b8 t=ab)(z:t.length<=4000000):Ev X 156 [dS t] [] (cS.sl (pieces t)) []:=by
 refine Ev.bQ Tryz.func156 rfl λC=>?_
 have j:bD X [(202,K4)]:=.cons RX .nil;have B:(l0 t).length<=t.length:=by simp only[l0,kY];exact yz t _ _
 refine aE j [(1000002,ab)] 100 rfl av ?_;refine AK.ix 3 9 1 rfl rfl ?_;refine aE j [] 100 rfl (by simp only[ag,A];exact⟨av,z⟩) ?_
 refine AK.bJ 1 (λs:Nat×Nat×List Bs=>s.1<=(l0 t).length/\s.2.1<=t.length/\s.2.2.length<=s.1/\∃ k,t.length<=s.2.1+k/\(l0 t).drop s.1=((mG t k s.2.1).map λn:Nat=>(n:Int))/\pieces t=s.2.2++fb t k s.2.1) (λs=>[(0,dS t),(3,.e (.one (.vec 0 1 s.2.2.length (cS.fn s.2.2)))),(4,dI s.2.1),(5,cI.sl (l0 t)),(6,dI s.1)]) (λs=>[.vec 9 1 s.2.2.length (cS.fn s.2.2)]) (λs=>(l0 t).length-s.1) (0,0,[]) rfl ?_ rfl ?_ rfl ⟨by simp,by simp,by simp,t.length,by simp,by simp[l0,Av],by simp[pieces]⟩ ?_
 .simp[ag.cat,ag,aR.same,aR.nil]
 .simp[ag.cat,ag,aR.same,aR.nil]
 rintro⟨i,f,acc⟩ ⟨hi,o,d,k,w,c,m⟩;simp only at hi o d w c m
 by_cases h:i<(l0 t).length
 .have g:mG t k f≠[]:=by
   intro e;rw[e] at c;have:=mO (i:=i) (l:=l0 t)
   grind
  obtain⟨k,rfl⟩:∃ k',k=k'+1:=by
   cases k with
   |zero=>exact absurd rfl g
   |succ k=>exact⟨k,rfl⟩
  have a:f<t.length:=by
   rcases cx f t.length with h|h
   .exact h
   .exact absurd (by simp only[mG,aY (show ¬f<t.length by omega)]) g
  simp only[mG,bg a,rh] at c;obtain⟨_,y,g2⟩:=drop_cons c 0;have v:=nt t f a;have p:(l0 t).getD (i:Int).toNat cI.bC=(cutAt t f:Int):=by rw[bt];exact y
  have b:rP t (aa (f:Int)) (aa (cutAt t f:Int))=(t.drop f).take (cutAt t f-f):=by simp[rP,List.drop_take]
  have q:=cS.cm acc ((t.drop f).take (cutAt t f-f));have u:acc.length+1=(acc++[(t.drop f).take (cutAt t f-f)]).length:=by simp
  refine aE j [(13,ab)] 100 rfl ?_ (AK.aQ (i+1,cutAt t f,acc++[(t.drop f).take (cutAt t f-f)]) rfl ?_ ?_ ?_ ?_)
  .simp only[ag,p,bx,iN,show i9.bytes=16 from rfl,bd,aG,aF]
   and_intros <;> omega
  .simp only[ag.cat,ag,p,b,aG,aF]
   and_intros <;> first|exact u|exact q|exactλ_ _=>rfl|omega
  .simp only[ag.cat,ag,p,b,aG,aF]
   and_intros <;> first|exact u|exact q
  .refine⟨by simp only;omega,v.2.1,by simp;omega,k,by simp only;omega,g2,?_⟩
   rw[m];simp only[fb,bg a];simp
  .simp only;omega
 .have e:pieces t=acc:=by
   have r:mG t k f=[]:=by
    rw[zc (by omega)] at c
    exact List.map_eq_nil_iff.1 c.symm
   have a:¬f<t.length:=by
    intro x;cases k with
    |zero=>omega
    |succ k=>simp only[mG,bg x] at r;cases r
   rw[m];cases k <;> simp[fb,a]
  refine aE j [(13,ae)] 100 rfl (by simp only[ag,bR];omega) (AK.leaveD rfl rfl ?_)
  refine aE j [] 100 rfl av (AK.bo rfl ?_);rw[e];simp[ag,ag.cat,aR.same]
abbrev F8:dg:=kN aS (λt=>cS.sl (pieces t)) λt=>[b8 t=ab,t.length<=4000000]
def K5:dD X 156 F8:=.oH λt h=>Oi t h.1 h.2
def _root_.Go.AM.hZ.pq{α:Type}(c:hZ α)(l:List α)(x y:α):aR (l.length+1+1) (cJ (l.length+1) (cJ l.length (c.fn l) λq=>[c.enc x].getD q []) λq=>[c.enc y].getD q []) (c.fn (l++[x,y])):=by
 have h1:=c.cm l x;have h2:=c.cm (l++[x]) y;rw[show (l++[x]).length=l.length+1 by simp,show l++[x]++[y]=l++[x,y] by simp] at h2
 intro q a;rw[<-h2 q a];simp only[cJ]
 by_cases e:q<l.length+1
 .rw[bg e,bg e];exact h1 q e
 .rw[aY e,aY e]
abbrev YB(x:cz):D:=.e (.agg [.c (.int .i64 x.1),.c (.str x.2)])
def jX(x:cz)(acc:List cz×Bool)(y:cz):List cz×Bool:=if acc.2=ab then (acc.1++[y],ab) else if x.1<y.1 then (acc.1++[x,y],ab) else (acc.1++[y],ae)
def yG(x:cz):∀ (l:List cz)(a:List cz),(l.foldl (jX x) (a,ab))=(a++l,ab)
 |[],a=>by simp
 |y::r,a=>by
  rw[ji,show jX x (a,ab) y=(a++[y],ab) from rfl,yG x r]
  simp
def yH(x:cz):∀ (l:List cz)(a:List cz),(if (l.foldl (jX x) (a,ae)).2=ab then (l.foldl (jX x) (a,ae)).1 else (l.foldl (jX x) (a,ae)).1++[x])=a++sh l x
 |[],a=>by simp[sh]
 |y::r,a=>by
  rw[ji]
  by_cases h:x.1<y.1
  .rw[show jX x (a,ae) y=(a++[x,y],ab) by simp[jX,h],yG]
   simp[sh,h]
  .rw[show jX x (a,ae) y=(a++[y],ae) by simp[jX,h],yH x r]
   simp[sh,h]
def yI(x:cz):∀ (l:List cz)(a:List cz×Bool),(l.foldl (jX x) a).1.length<=a.1.length+l.length+1-(if a.2=ab then 1 else 0)
 |[],a=>by grind
 |y::r,a=>by
  rw[ji];have:=yI x r (jX x a y);unfold jX at this ⊢
  grind
abbrev si(x:cz)(l:List cz)(i:Nat):List cz×Bool:=(l.take i).foldl (jX x) ([],ae)
def HF{x:cz}{l:List cz}{i:Nat}(h:i<l.length):si x l (i+1)=jX x (si x l i) (l.getD i (0,[])):=by
 unfold si;rw[bu h (0,[]),jC];rfl
def Cm(x:cz)(l:List cz)(i:Nat):(si x l i).1.length<=l.length+1:=by
 have:=yI x (l.take i) ([],ae)
 grind
abbrev p3F(l:List cz)(x:cz)(i:Nat)(a:List cz×Bool):Fr:=[(0,dx.sl l),(3,.e (.one (.ptr 0 0))),(5,.e (.one (.vec 1 2 a.1.length (dx.fn a.1)))),(6,dB a.2),(7,dI i)]
abbrev p3B(x:cz)(a:List cz):List aW:=[.cells 88 [.c (.int .i64 x.1),.c (.str x.2)],.vec 88 2 a.length (dx.fn a)]
def Om(l:List cz)(x:cz)(q:l.length<=4000000):Ev X 161 [dx.sl l,YB x] [] (dx.sl (sh l x)) []:=by
 refine Ev.bQ Tryz.func161 rfl λp=>?_
 refine aX [(1000002,ab)] 200 rfl av ?_;refine AK.ix 5 88 2 rfl rfl ?_;refine dE rfl av ?_;refine AK.bJ 2 (λi=>i<=l.length) (λi:Nat=>p3F l x i (si x l i)) (λi=>p3B x (si x l i).1) (λi=>l.length-i) 0 rfl ?_ rfl ?_ rfl (by omega) ?_
 .simp[ag.cat,ag,aR.same,aR.nil,si]
 .simp[ag.cat,ag,aR.same,aR.nil,si]
 intro i hi
 by_cases h:i<l.length
 .have n:=HF (x:=x) h;have e:=Cm x l i;have g:l.getD (i:Int).toNat dx.bC=l.getD i (0,[]):=by rw[bt];rfl
  generalize si x l i=a at n e;obtain⟨a,b⟩:=a;simp only at e;have k:=dx.cm a (l.getD i (0,[]));have m:=dx.pq a x (l.getD i (0,[]));cases b with
  |true =>
   have c:si x l (i+1)=(a++[l.getD i (0,[])],ab):=n;have j:a.length+1=(a++[l.getD i (0,[])]).length:=by simp
   refine aX [(12,ab)] 200 rfl ?_ (AK.aQ (i+1) rfl ?_ ?_ ?_ ?_)
   .simp only[ag,g,bx,show i88.bytes=24 from rfl,bd,aG,aF];and_intros <;> omega
   .rw[c];simp only[ag.cat,ag,g,aG,aF]
    and_intros <;> first|exact j|exact k|exactλ_ _=>rfl|rfl|omega
   .rw[c];simp only[ag.cat,ag,g,aG,aF]
    and_intros <;> first|exact j|exact k|exactλ_ _=>rfl|rfl|omega
   .show i+1<=_;omega
   .omega
  |false =>
   by_cases f:x.1<(l.getD i (0,[])).1
   .have c:si x l (i+1)=(a++[x,l.getD i (0,[])],ab):=by rw[n];simp only[jX,bg f];rfl
    have j:a.length+1+1=(a++[x,l.getD i (0,[])]).length:=by simp
    refine aX [(12,ab),(25,ab)] 200 rfl ?_ (AK.aQ (i+1) rfl ?_ ?_ ?_ ?_)
    .simp only[ag,g,bx,show i88.bytes=24 from rfl,f,j7,bd,aG,aF];and_intros <;> omega
    .rw[c];simp only[ag.cat,ag,g,aG,aF]
     and_intros <;> first|exact j|exact m|exactλ_ _=>rfl|rfl|omega
    .rw[c];simp only[ag.cat,ag,g,aG,aF]
     and_intros <;> first|exact j|exact m|exactλ_ _=>rfl|rfl|omega
    .show i+1<=_;omega
    .omega
   .have c:si x l (i+1)=(a++[l.getD i (0,[])],ae):=by rw[n];simp only[jX,aY f];rfl
    have j:a.length+1=(a++[l.getD i (0,[])]).length:=by simp
    refine aX [(12,ab),(25,ae)] 200 rfl ?_ (AK.aQ (i+1) rfl ?_ ?_ ?_ ?_)
    .simp only[ag,g,bx,show i88.bytes=24 from rfl,bd,f,mg,nK,bR,aG,aF];and_intros <;> omega
    .rw[c];simp only[ag.cat,ag,g,aG,aF]
     and_intros <;> first|exact j|exact k|exactλ_ _=>rfl|rfl|omega
    .rw[c];simp only[ag.cat,ag,g,aG,aF]
     and_intros <;> first|exact j|exact k|exactλ_ _=>rfl|rfl|omega
    .show i+1<=_;omega
    .omega
 .obtain rfl:i=l.length:=by omega
  have d:=yH x l [];have e:=Cm x l l.length;refine aX [(12,ae)] 200 rfl (by simp[ag]) (AK.leaveD rfl rfl ?_)
  have o:si x l l.length=l.foldl (jX x) ([],ae):=by unfold si;rw[bY]
  rw[o] at e ⊢;generalize l.foldl (jX x) ([],ae)=a at *;obtain⟨a,b⟩:=a;simp only[uU] at d e;cases b with
  |true =>
   simp only[cj] at d;subst d;refine dE rfl av (AK.bo rfl ?_);simp[ag,ag.cat,aR.same]
  |false =>
   simp only[jB,b5] at d;have k:=dx.cm a x;refine dE rfl ?_ (AK.bo rfl ?_)
   .simp only[ag,show i88.bytes=24 from rfl,aG,aF];and_intros <;> omega
   .rw[<-d];simp only[ag.cat,ag,aG,aF]
    and_intros <;> first|exact k|simp
abbrev PO:dg:=ow (aL dx) S9 (λl x=>dx.sl (sh l x)) λl _=>[l.length<=4000000]
def Vq:dD X 161 PO:=.qG λl x h=>Om l x h
end
end Go.AM.R1
