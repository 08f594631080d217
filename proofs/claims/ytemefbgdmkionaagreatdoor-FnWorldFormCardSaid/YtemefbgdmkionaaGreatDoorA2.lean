/-
  Part 2: a machine of values without memory, sound over the model, and contracts of functions. No condition.
-/
import Derived.Test.YtemefbgdmkionaaGreatDoorA1
import Derived.Test.YtemefbgdmkionaaGreatDoorProg
import Derived.MapKept
import Derived.Maps.RangeRun
set_option linter.unusedVariables false
set_option linter.unusedSimpArgs false
set_option linter.defProp false
set_option linter.deprecated false
open Go renaming Value → ak
open Option renaming some → aa
open Go renaming Program → an
open Go renaming TypeId → ar
open Bool renaming true → ab
open Option renaming none → af
open Go renaming Oper → av
open Go renaming Operand → aq
open Bool renaming false → ae
open Go renaming undef → aj
open Go.World renaming cell? → aY
open List renaming length_take → bn
open List renaming getD_eq_getElem?_getD → ag
open Go.Sem renaming events_bind → aP
open Go.Result renaming evThen_ok → aV
open Go renaming execOp → aw
open Go renaming World → az
open List renaming range → bc
open Go.Region renaming wanted → bk
open Go renaming FuncId → aX
open Nat renaming beq → aA
open Nat renaming ble → bw
open Go.Op renaming bytesLess → bj
open Go.Proofs.Tryz renaming prog → ah
open List renaming all_eq_true → bq
open Go.TypeDesc renaming struct → bl
namespace Go.AM
def vS(g:aq->D):List aq->Option (List C)
 |[]=>aa []
 |x::r=>match g x with
  |.e (.one (.c c))=>match vS g r with
   |some q=>aa (c::q)
   |none=>af
  |_=>af
theorem wy{σ:List aW}{s:St}{ρ:aq->ak}{g:aq->D}(b:∀ y,dh σ s (ρ y) (g y)):∀ {xs:List aq}{cs:List C},vS g xs=aa cs->xs.length=cs.length/\∀ (j:Nat)(c:C),cs[j]?=aa c->∃ v,(xs.map ρ)[j]?=aa v/\Rd s.M v c
 |[],cs,h=>by cases h;exact⟨rfl,by simp⟩
 |x::r,cs,h=>by
  simp only[vS] at h;split at h
  .rename_i c i
   split at h
   .rename_i q f
    cases h;obtain⟨k,d⟩:=wy b f;refine⟨by simp[k],λj e a=>?_⟩
    cases j with
    |zero =>
     simp at a;subst a;have:=b x;rw[i] at this;exact⟨ρ x,by simp,ga this⟩
    |succ j=>exact(by simpa using d j e (by simpa using a))
   .cases h
  .cases h
section
variable {P:an}{T:List (Nat×TI)}{o:av}{g:aq->D}{σ:List aW}
theorem bR.makeFunc{fn:Fn}{a b:Array aq}(h:o.op=.makeFunc fn a b){f d:List C}(m:vS g a.toList=aa f)(hb:vS g b.toList=aa d):bR P o g σ (.e (.one (.c (.fn fn f d)))) σ:=by
 refine .quiet λs ρ hh hr=>?_
 obtain⟨a1,a2⟩:=wy hr m;obtain⟨l,n⟩:=wy hr hb;have i:a.map ρ=(a.toList.map ρ).toArray:=by apply il;simp
 have k:b.map ρ=(b.toList.map ρ).toArray:=by apply il;simp
 refine⟨.func fn (a.toList.map ρ).toArray (b.toList.map ρ).toArray,?_,?_,by simp only[aw,h,Instr.makeFunc];rfl⟩
 .simp only[aw,h,Instr.makeFunc,i,k];rfl
 .refine Rd.fn _ _ (by simpa using a1) (by simpa using l) (λj=>((a.toList.map ρ)[j]?).getD aj) (λj=>((b.toList.map ρ)[j]?).getD aj) ?_ ?_ ?_ ?_
  .intro j hj;rw[aR hj];rfl
  .intro j hj;rw[aR hj];rfl
  .intro j c hj;obtain⟨v,h1,h2⟩:=a2 j c hj;rw[h1];exact h2
  .intro j c hj;obtain⟨v,h1,h2⟩:=n j c hj;rw[h1];exact h2
def rV:TypeDesc->Bool
 |.interface _=>ab
 |_=>ae
def vf(t:ar):D->Option C
 |.e (.one (.c c))=>aa (.ifs t c)
 |.e (.agg cs)=>match gH cs with
  |some q=>aa (.Iz t q)
  |none=>af
 |_=>af
theorem DL{s:St}{v:ak}{t:ar}{d:D}{c:C}(h:vf t d=aa c)(r:dh σ s v d):Rd s.M (.iface t v) c:=by
 unfold vf at h;split at h
 .cases h;exact Rd.ifs (ga r) (ga r).cell
 .split at h
  .rename_i q k
   cases h;obtain⟨vs,rfl,i⟩:=r;have b:=ki k i;refine Rd.Iz (by have:=b.length;simpa using this) (λj=>(vs[j]?).getD aj) (λj e=>by rw[aR e];rfl) λj c e=>?_
   obtain⟨v,l,f⟩:=b.get (j:=j) (a:=.c c) (by simp[e])
   rw[l];exact f
  .cases h
 .cases h
theorem bR.makeInterface(f:dk P T){t:ar}{x:aq}(h:o.op=.makeInterface t x){i:TI}(hi:bL T t=aa i)(b:rV i.desc=ae){c:C}(j:vf t (g x)=aa c):bR P o g σ (.e (.one (.c c))) σ:=by
 refine .quiet λs ρ hh hr=>?_
 have d:=(f t i hi).run_underlying (w:=s.w);refine⟨.iface t (ρ x),?_,DL j (hr x),?_⟩
 rotate_left
 .simp only[aw,h,Instr.makeInterface,aP,bZ,d,aV,cg,events_underlying];cases a:i.desc <;> rw[a] at b <;> first|(cases b;done)|simp
 simp only[aw,h,Instr.makeInterface,bZ,d,cg];cases a:i.desc <;> rw[a] at b <;> first|(cases b;done)|simp
def yl(i:TI):Option E1:=match i.agg with
 |true=>aa (.agg (i.zero.map A.c))
 |false=>af
theorem Jy{i:TI}{t:ar}(k:bS P t i){s:St}{e:E1}(a:yl i=aa e):∃ z,(zeroValue t).run P s.w=.ok z s.w/\mc σ s z e:=by
 obtain⟨z,c,b⟩:=k.BE σ s;refine⟨z,c,?_⟩;obtain⟨m,h,n,p,q,l,u,⟨cs,f⟩,r⟩:=k.info;have d:h=z:=by
  have:(zeroValue t).run P s.w=.ok h s.w:=by simp[zeroValue,typeInfo,n,l]
  rw[this] at c;cases c;rfl
 subst d;unfold yl at a;cases j:i.agg with
 |true =>
  rw[j] at a f;simp only[bO] at f;cases a;rw[f] at b ⊢;exact⟨cs.toList,by simp,by simpa[Value.cells] using b⟩
 |false=>rw[j] at a;cases a
def pX(t:ar)(i:TI):C->Option (E1×Bool)
 |.ifs t' c=>match aA t' t with
  |true=>aa (.one (.c c),ab)
  |false=>match yl i with
   |some e=>aa (e,ae)
   |none=>af
 |.Iz t' cs=>match aA t' t with
  |true=>aa (.agg (cs.map A.c),ab)
  |false=>match yl i with
   |some e=>aa (e,ae)
   |none=>af
 |.n8=>match yl i with
  |some e=>aa (e,ae)
  |none=>af
 |_=>af
theorem bR.typeAssert(H:dk P T){x:aq}{B t:ar}(h:o.op=.typeAssert x B t ab){i:TI}(hi:bL T t=aa i)(J:rV i.desc=ae){c:C}(N:g x=.e (.one (.c c))){e:E1}{b:Bool}(d:pX t i c=aa (e,b)) :
  bR P o g σ (.fW [e,.one (.c (.bool b))]) σ:=by
 refine .quiet λs ρ hh hr=>?_
 have h1:=hr x;rw[N] at h1
 replace h1:=ga h1
 generalize y:ρ x=vx at h1;have q:=(H t i hi).run_underlying (w:=s.w);have key:∀ (v:ak) (b:Bool),(Instr.typeAssert vx B t ab).run P s.w=.ok (.tuple #[v,.bool b]) s.w->mc σ s v e->(Instr.typeAssert vx B t ab).events P s.w #[]=#[]->∃ v,(aw ρ o).run P s.w=.ok (.value v) s.w/\dh σ s v (.fW [e,.one (.c (.bool b))])/\(aw ρ o).events P s.w #[]=#[]:=by
  intro v b h1 h2 h3;refine⟨.tuple #[v,.bool b],?_,⟨[v,.bool b],rfl,h2,Rd.bool,ay⟩,by simp only[aw,h,y,aP,h1,h3,aV,Sem.events_pure]⟩
  simp only[aw,h,y,bZ,h1,cg,c7]
 have fail:∀ r,yl i=aa r->(∀ z,(zeroValue t).run P s.w=.ok z s.w->(Instr.typeAssert vx B t ab).run P s.w=.ok (.tuple #[z,.bool ae]) s.w/\(Instr.typeAssert vx B t ab).events P s.w #[]=#[])->e=r->b=ae->∃ v,(aw ρ o).run P s.w=.ok (.value v) s.w/\dh σ s v (.fW [e,.one (.c (.bool b))])/\(aw ρ o).events P s.w #[]=#[]:=by
  intro r p l G hb;subst G hb;obtain⟨z,h3,K⟩:=Jy (σ:=σ) (H t i hi) (s:=s) p;exact key z ae (l z h3).1 K (l z h3).2
 have k:∀ m,i.desc≠.interface m:=by intro m e;rw[e] at J;cases J
 cases h1 with
 |@ifs t' v c h2 hc =>
  simp only[pX] at d;cases hb:aA t' t with
  |true =>
   rw[hb] at d;cases d;have E:=bE hb;subst E;refine key v ab ?_ h2 ?_ <;>
   .unfold Instr.typeAssert;simp only[bZ,q,cg,aP,aV,events_underlying];cases a:i.desc <;> first|(exact absurd a (k _))|simp
  |false =>
   rw[hb] at d;have n:t'≠t:=λe=>by subst e;rw[jI] at hb;cases hb
   simp only at d;split at d
   .rename_i r p
    cases d;refine fail _ p (λz h3=>⟨?_,?_⟩) rfl rfl <;>
    .unfold Instr.typeAssert;simp only[bZ,q,cg,aP,aV,events_underlying];cases a:i.desc <;> first|(exact absurd a (k _))|simp[n,h3]
   .cases d
 |@Iz t' vs cs hl f L F =>
  simp only[pX] at d;cases hb:aA t' t with
  |true =>
   rw[hb] at d;cases d;have E:=bE hb;subst E;refine key (.agg vs.toArray) ab ?_ ⟨vs,rfl,?_⟩ ?_
   rotate_left 2
   .unfold Instr.typeAssert;simp only[q,aP,aV,events_underlying];cases a:i.desc <;> first|(exact absurd a (k _))|simp
   .unfold Instr.typeAssert;simp only[bZ,q,cg];cases a:i.desc <;> first|(exact absurd a (k _))|simp
   .have go:∀ (vs:List ak) (cs:List C),vs.length=cs.length->(∀ (j:Nat) (c:C),cs[j]?=aa c->∃ v,vs[j]?=aa v/\Rd s.M v c)->dX σ s vs (cs.map A.c):=by
     intro vs
     induction vs with
     |nil=>intro cs hl _;cases cs with|nil=>trivial|cons _ _=>simp at hl
     |cons v vs ih =>
      intro cs hl hg;cases cs with
      |nil=>simp at hl
      |cons c cs =>
       obtain⟨u,I,p2⟩:=hg 0 c rfl;simp at I;subst I;exact⟨p2,ih cs (by simpa using hl) (λj c hj=>by simpa using hg (j+1) c (by simpa using hj))⟩
    refine go vs cs hl λj c hj=>⟨f j,L j ?_,F j c hj⟩
    rw[hl];exact(bt.1 hj).1
  |false =>
   rw[hb] at d;have n:t'≠t:=λe=>by subst e;rw[jI] at hb;cases hb
   simp only at d;split at d
   .rename_i r p
    cases d;refine fail _ p (λz h3=>⟨?_,?_⟩) rfl rfl <;>
    .unfold Instr.typeAssert;simp only[bZ,q,cg,aP,aV,events_underlying];cases a:i.desc <;> first|(exact absurd a (k _))|simp[n,h3]
   .cases d
 |n8 =>
  simp only[pX] at d;split at d
  .rename_i r p
   cases d;refine fail _ p (λz h3=>⟨?_,?_⟩) rfl rfl <;>
   .unfold Instr.typeAssert;simp only[bZ,q,cg,aP,aV,events_underlying];cases a:i.desc <;> first|(exact absurd a (k _))|simp[h3]
  .cases d
 |_=>simp[pX] at d
end
def A5(op:BinOp)(k:IntKind) (a:Int)(k':IntKind) (b:Int):Option (Int×List Prop) :=
 match k with
 |.u64=>match op with
  |.shl=>aa (((a.toNat*2 ^ b.toNat % 18446744073709551616:Nat):Int),[0<=b,b<=64])
  |.shr=>aa (((a.toNat / 2 ^ b.toNat:Nat):Int),[0<=b,b<=64])
  |.and=>match k' with|.u64=>aa (((a.toNat &&& b.toNat:Nat):Int),[])|_=>af
  |.xor=>match k' with|.u64=>aa (((a.toNat ^^^ b.toNat:Nat):Int),[])|_=>af
  |_=>af
 |_=>af
section
variable {P:an}{T:List (Nat×TI)}{o:av}{d:aq->D}{σ:List aW}
theorem bits_nat{a:Int}(h:bD .u64 a):(BitVec.ofInt IntKind.u64.bits a).toNat=a.toNat:=by
 rw[BitVec.toNat_ofInt];simp only[bD] at h;simp only[IntKind.bits];omega
theorem F5{op:BinOp}{k k':IntKind}{a b c:Int}{obs:List Prop}(t:ar)(f:A5 op k a k' b=aa (c,obs))(r:ai obs)(h:bD k a)(l:bD k' b)(w:az) :
  bD k c/\(Go.binOp op t (.int k a) (.int k' b)).run P w=.ok (.int k c) w/\(Go.binOp op t (.int k a) (.int k' b)).events P w #[]=#[]:=by
 unfold A5 at f;split at f
 .split at f
  .cases f;obtain⟨u,s⟩:0<=b/\b<=64:=r;have v:a.toNat*2 ^ b.toNat % 18446744073709551616<18446744073709551616:=ik _ (by decide)
   simp only[bD] at h;refine⟨by simp only[bD];omega,?_⟩
   have j:IntKind.wrap .u64 (a*2 ^ (min b.toNat IntKind.u64.bits))=((a.toNat*2 ^ b.toNat % 18446744073709551616:Nat):Int):=by
    have i:min b.toNat IntKind.u64.bits=b.toNat:=by rw[show IntKind.u64.bits=64 from rfl];omega
    have m:a=(a.toNat:Int):=by omega
    rw[i,m];simp only[IntKind.wrap,IntKind.bits,IntKind.signed,bu];have p:((a.toNat:Int)*2 ^ b.toNat)=((a.toNat*2 ^ b.toNat:Nat):Int):=by push_cast;rfl
    rw[p];simp
   simp only[Go.binOp,Op.shift,aO (show ¬b<0 by omega),j]
   exact⟨rfl,rfl⟩
  .cases f;obtain⟨u,s⟩:0<=b/\b<=64:=r;simp only[bD] at h;have n:a.toNat / 2 ^ b.toNat<=a.toNat:=Nat.div_le_self _ _;refine⟨by simp only[bD];generalize a.toNat / 2 ^ b.toNat=q at n ⊢;omega,?_⟩
   have j:a.fdiv (2 ^ (min b.toNat IntKind.u64.bits))=((a.toNat / 2 ^ b.toNat:Nat):Int):=by
    have i:min b.toNat IntKind.u64.bits=b.toNat:=by rw[show IntKind.u64.bits=64 from rfl];omega
    have m:a=(a.toNat:Int):=by omega
    rw[i,m];have p:(2:Int) ^ b.toNat=((2 ^ b.toNat:Nat):Int):=by push_cast;rfl
    rw[p,bu,Int.fdiv_eq_ediv_of_nonneg _ (Int.natCast_nonneg _)];rfl
   simp only[Go.binOp,Op.shift,aO (show ¬b<0 by omega),j]
   exact⟨rfl,rfl⟩
  .split at f
   .cases f;have s:a.toNat &&& b.toNat<=a.toNat:=Nat.and_le_left;have g:bD .u64 ((a.toNat &&& b.toNat:Nat):Int):=by simp only[bD] at h ⊢;omega
    refine⟨g,?_⟩;have e:(BitVec.ofInt IntKind.u64.bits a &&& BitVec.ofInt IntKind.u64.bits b).toNat=a.toNat &&& b.toNat:=by rw[BitVec.toNat_and,bits_nat h,bits_nat l]
    simp only[Go.binOp,cW,fH,bH,Op.intBits,e,mx g];exact⟨rfl,rfl⟩
   .cases f
  .split at f
   .cases f;have g:bD .u64 ((a.toNat ^^^ b.toNat:Nat):Int):=by
     simp only[bD] at h l ⊢;have:a.toNat ^^^ b.toNat<2 ^ 64:=Nat.xor_lt_two_pow (by omega) (by omega)
     omega
    refine⟨g,?_⟩;have e:(BitVec.ofInt IntKind.u64.bits a ^^^ BitVec.ofInt IntKind.u64.bits b).toNat=a.toNat ^^^ b.toNat:=by rw[BitVec.toNat_xor,bits_nat h,bits_nat l]
    simp only[Go.binOp,cW,fH,bH,Op.intBits,e,mx g];exact⟨rfl,rfl⟩
   .cases f
  .cases f
 .cases f
theorem bR.bits{op:BinOp}{t ty:ar}{x y:aq}{k k':IntKind}{a b c:Int}{obs:List Prop}(h:o.op=.binOp op t x y ty)(p:d x=.e (.one (.c (.int k a))))(m:d y=.e (.one (.c (.int k' b))))(n:A5 op k a k' b=aa (c,obs))(q:ai obs) :
  bR P o d σ (.e (.one (.c (.int k c)))) σ:=by
 refine .quiet λs ρ hh hr=>?_
 have h1:=hr x;have h2:=hr y;rw[p] at h1;rw[m] at h2
 replace h1:=ga h1
 replace h2:=ga h2
 generalize f:ρ x=vx at h1;generalize g:ρ y=vy at h2;cases h1 with|int ha =>
 cases h2 with|int hb =>
 obtain⟨l,i,j⟩:=F5 (P:=P) t n q ha hb s.w;exact⟨.int k c,by simp only[aw,h,bZ,f,g,gD,cg,i,c7],.int l,by simp[aw,h,f,g,gD,jO,i,j]⟩
end
end Go.AM
namespace Go.AM
open Go.Conc (G)
def nu(i:Nat)(ci:List C)(es:Nat->List C):Nat->List C:=λj=>if j=i then ci else es j
def sO(lo hi:Nat)(z:List C)(es:Nat->List C):Nat->List C:=λj=>if lo<=j/\j<hi then z else es j
section
variable {P:an}{T:List (Nat×TI)}{o:av}{B:aq->D}{σ:List aW}{s:St}{l g:Nat}{E:ar}{k n:Nat}{es:Nat->List C}
theorem JD(r:aJ σ s)(e:σ[l]?=aa (.buf E k n es)){k' i f:Nat}{v:ak}(y:gB σ s v (.bp l (.el g k' i f)))(A:g=n) :
  ∃ b c vs zs,s.β[l]?=aa ⟨.slice (aa ⟨b,0,af⟩) 0 c,[b]⟩/\v=.pointer (aa ⟨b,i*k'+f,af⟩)/\s.w.heap[b]?=aa (.cells (vs++zs).toArray E (0,0))/\(vs++zs).length=c*k/\n<=c/\c<=9223372036854775807/\Flat s.M k n es vs/\∀ o,s.M b o=af:=by
 obtain⟨F,⟨b,c,d,z⟩,_,x⟩:=y;obtain⟨L,h,a⟩:=(x _ _ _ _ e).2 A;rw[d] at a;rcases r.box l _ L e h with⟨_,rfl⟩|⟨G,H,vs,zs,rfl,t,j,m,p,q,u⟩
 .cases a
 .cases a;exact⟨b,c,vs,zs,h,z,t,j,m,p,q,u⟩
theorem JE{g:Nat->ak}:∀ {ds:List C}{m:Nat},(∀ j c,ds[j]?=aa c->Rd s.M (g (m+j)) c)->dX σ s ((bc ds.length).map λj=>g (m+j)) (ds.map A.c)
 |[],m,_=>trivial
 |d::ds,m,h=>by
  rw[db,y7];refine⟨h 0 d rfl,?_⟩;have:=JE (ds:=ds) (m:=m+1) (λj c a=>by have:=h (j+1) c (by simpa using a);rwa [show m+1+j=m+(j+1) by omega])
  simpa[Function.comp_def,lr,kC 1] using this
theorem bR.WV(H:dk P T){t:ar}{x y:aq}(h:o.op=.indexAddr t x y){i f:TI}{E:ar}(hi:bL T t=aa i)(Q:i.desc=.slice E)(S:bL T E=aa f)
  {q m:Nat} {j:Int} {kk:IntKind} (N:B x=.e (.one (.bp l (.sl g f.size q m)))) (M:B y=.e (.one (.c (.int kk j)))) (U:0<=j) (h1:j<m):bR P o B σ (.e (.one (.bp l (.el g f.size (q+j.toNat) 0)))) σ:=by
 refine .quiet λs ρ hh hr=>?_
 have p:=hr x;rw[N] at p;have h2:=hr y;rw[M] at h2
 replace h2:=ga h2
 generalize F:ρ y=vy at h2;cases h2;have d:=p
 change gB σ s (ρ x) (.bp l _) at d
 obtain⟨lv,⟨a,a0,cap,J,O,L,K,R,z,G⟩,A,u⟩:=d;obtain⟨b,rfl,rfl⟩:=G (by omega)
 have I:=(H t i hi).run_underlying (w:=s.w);rw[Q] at I;obtain⟨r,rfl⟩:∃ r:Nat,j=r:=⟨j.toNat,by omega⟩
 have v:r<m:=by omega
 refine⟨.pointer (aa ⟨b,(q+r)*f.size,af⟩),?_,⟨lv,⟨b,J,z,by simp⟩,A,u⟩,?_⟩ <;>
 simp[aw,h,O,F,Instr.indexAt,asIntOf,I,(H E f S).run_sizeOf,di,v,ey]
theorem bR.P2(u:dk P T){t:ar}{x:aq}{f:Nat}(h:o.op=.fieldAddr t x f){m i q off:Nat}{j:TI}(y:B x=.e (.one (.bp l (.el g m i q))))(r:jR T t f=aa (off,j)):bR P o B σ (.e (.one (.bp l (.el g m i (q+off))))) σ:=by
 refine .quiet λs ρ hh hr=>?_
 have h1:=hr x;rw[y] at h1;have a:=h1
 change gB σ s (ρ x) (.bp l _) at a
 obtain⟨lv,⟨b,w,c,v⟩,d,p⟩:=a;exact⟨.pointer (aa ⟨b,i*m+q+off,af⟩),by simp[aw,h,v,mH u r],⟨lv,⟨b,w,c,by rw[lr]⟩,d,p⟩,by simp[aw,h,v,oo u r]⟩
theorem bR.WW{x:aq}(h:o.op=.nilCheck x){d i q:Nat}(r:B x=.e (.one (.bp l (.el g d i q)))):bR P o B σ (.e (.one (.bp l (.el g d i q)))) σ:=by
 refine .quiet λs ρ hh hr=>?_
 have h1:=hr x;rw[r] at h1;have c:=h1;have a:=h1
 change gB σ s (ρ x) (.bp l _) at a
 obtain⟨lv,⟨b,t,j,f⟩,m,p⟩:=a;exact⟨ρ x,by simp[aw,h,f],c,by simp[aw,h,f]⟩
theorem bR.WX(r:dk P T){x:aq}{b:Array ar}{t:ar}(h:o.op=.call { callee:=.builtin .len,args:=#[x],argTypes:=b })(v:b[0]?=aa t){i:TI}{E:ar}(hi:bL T t=aa i)(y:i.desc=.slice E)
  {A q m:Nat} (I:B x=.e (.one (.bp l (.sl g A q m)))):bR P o B σ (.e (.one (.c (.int .i64 m)))) σ:=by
 refine .quiet λs ρ hh hr=>?_
 have h1:=hr x;rw[I] at h1;have d:=h1
 change gB σ s (ρ x) (.bp l _) at d
 obtain⟨lv,⟨a,a0,cap,K,J,p,z,G,j,F⟩,u,H⟩:=d;have f:=(r t i hi).run_underlying (w:=s.w);rw[y] at f;refine⟨.int .i64 m,?_,Rd.int (by simp only[bD];omega),?_⟩ <;>
 simp[aw,h,resolve,invoke,builtin,Builtin.len_,J,f,goInt,v]
theorem bR.sliceB(G:dk P T){t:ar}{x:aq}{lo hi:Option aq}(h:o.op=.slice t x lo hi af){i j:TI}{E:ar}(v:bL T t=aa i)(S:i.desc=.slice E)(N:bL T E=aa j){q m:Nat}{d u:Option Int}
  (Q:B x=.e (.one (.bp l (.sl g j.size q m)))) (hl:uB B lo=aa d) (H:uB B hi=aa u) (K:ai (iU m d u)):bR P o B σ (.e (.one (.bp l (.sl g j.size (q+cE 0 d) (cE m u-cE 0 d))))) σ:=by
 refine .quiet λst ρ hh hr=>?_
 have h1:=hr x;rw[Q] at h1;have f:=h1
 change gB σ st (ρ x) (.bp l _) at f
 obtain⟨lv,⟨a,a0,cap,L,I,p,M,F,y,A⟩,z,r⟩:=f;obtain⟨hb,O,R⟩:=n6 (P:=P) (isS:=ab) p (jh hr hl) (jh hr H) K st.w;have c:=(G t i v).run_underlying (w:=st.w);rw[S] at c;refine⟨.slice (if cap=cE 0 d then a else a.map (·.add (cE 0 d*j.size))) (cE m u-cE 0 d) (cap-cE 0 d),?_,⟨lv,⟨_,a0,_,L,rfl,by omega,by omega,F,y,λJ=>?_⟩,z,r⟩,by simp[aw,h,I,Instr.sliceAt,c,Instr.slice,hb,pS (P:=P) (isS:=ab) p (jh hr hl) (jh hr H) K st.w]⟩
 .simp[aw,h,I,Instr.sliceAt,c,Instr.slice,hb,(G E j N).run_sizeOf]
 .obtain⟨b,rfl,rfl⟩:=A (by omega)
  refine⟨b,rfl,?_⟩;rw[aO (by omega)]
  simp[di,ey]
theorem bR.IU(L:dk P T){t:ar}{x:aq}(h:o.op=.load t x){i f:Nat}{F:TI}{e:E1}(U:B x=.e (.one (.bp l (.el g k i f))))(G:g=n)(hl:σ[l]?=aa (.buf E k n es))(hi:bL T t=aa F)(N:nh F ((im f (es i)).map A.c)=aa e)(r:i<n):bR P o B σ (.e e) σ:=by
 refine .n5 λs ρ hh hr=>?_
 have h1:=hr x;rw[U] at h1;obtain⟨b,X,vs,zs,V,O,d,W,S,Q,J,Z⟩:=JD hh hl h1 G;have Y:=J.width i r
 let g:Nat->ak:=λj=>vs.getD (i*k+j) aj
 have G:∀ j c,(im f (es i))[j]?=aa c->vs[i*k+(f+j)]?=aa (g (f+j))/\Rd s.M (g (f+j)) c:=by
  intro j c hj;rw[ny,mR] at hj;obtain⟨v,v1,R⟩:=J.rd i r (f+j) c hj;have:g (f+j)=v:=by simp[g,ag,v1]
  exact⟨by rw[this,v1],by rw[this];exact R⟩
 have I:=JE (σ:=σ) (s:=s) (g:=g) (ds:=im f (es i)) (m:=f) (λj c hj=>(G j c hj).2)
 have a:∀ (j:Nat) (v:ak),((bc (im f (es i)).length).map λj=>g (f+j))[j]?=aa v->s.w.cell? ⟨b,i*k+f+j,af⟩=aa v:=by
  intro j v hj;simp only[mT] at hj
  by_cases p:j<(im f (es i)).length
  .simp[p] at hj;subst hj;have h2:=(G j _ (aR p)).1;simp only[aY,d];have u:=(bt.1 h2).1;rw[show i*k+f+j=i*k+(f+j) by omega]
   simpa[b7 u] using h2
  .simp[p] at hj
 obtain⟨v,q,H⟩:=o7 (s:=s) (σ:=σ) (P:=P) (L t F hi) (b:=b) (off:=i*k+f) (e:=e) a I N;refine⟨v,by simp[aw,h,O,Instr.loadAt,Instr.sureAddr,q],H,λK z=>?_⟩
 have y:K∈(loadVar t ⟨b,i*k+f,af⟩).events P s.w #[]:=by
  have e:aw ρ o=(do pure (.value (<-loadVar t ⟨b,i*k+f,af⟩))):=by simp[aw,h,O,Instr.loadAt,Instr.sureAddr]
  rw[e] at z;simpa[q] using z
 obtain⟨j,hj,rfl⟩:=jr (L t F hi) (n:=(im f (es i)).length) (λj hj=>⟨_,a j (g (f+j)) (by simp[hj])⟩) (by have:=rO N;simpa using this) K y
 exact rH (bz V) (by simp)
theorem Flat.put{M:Mem}{vs oF:List ak}{i f:Nat}{cc ci:List C}(h:Flat M k n es vs)(hi:i<n)(w:fg f cc (es i)=aa ci)(hl:oF.length=cc.length)(z:∀ (j:Nat)(c:C),cc[j]?=aa c->∃ v,oF[j]?=aa v/\Rd M v c) :
  i*k+f+oF.length<=vs.length/\Flat M k n (nu i ci es) (vs.take (i*k+f)++oF++vs.drop (i*k+f+oF.length)):=by
 obtain⟨h1,h2⟩:=p6 w;have A:=h.width i hi;have hb:i*k+k<=n*k:=by
  have:=er k (show i+1<=n by omega)
  rwa [ey,pK] at this
 have r:=h.len;have q:i*k+f+oF.length<=vs.length:=by omega
 have d:∀ p,(vs.take (i*k+f)++oF++vs.drop (i*k+f+oF.length))[p]?=if p<i*k+f then vs[p]? else if p<i*k+f+oF.length then oF[p-(i*k+f)]? else vs[p]?:=by
  intro p;have u:(vs.take (i*k+f)).length=i*k+f:=by simp;omega
  by_cases c1:p<i*k+f
  .rw[aU c1,dq,b7 (by omega),et,aU c1]
  .rw[aO c1]
   by_cases c2:p<i*k+f+oF.length
   .rw[aU c2,dq,dg (by omega),b7 (by omega),u]
   .rw[aO c2,dg (by simp;omega),mR]
    congr 1
    simp;omega
 refine⟨q,⟨by simp;omega,λb a=>?_,λb a j c hj=>?_⟩⟩
 .simp only[nu];split
  .rw[h2];simp;omega
  .exact h.width b a
 .simp only[nu] at hj;rw[d];split at hj
  .rename_i e
   subst e;rw[h2] at hj
   by_cases c1:j<f
   .rw[dq,b7 (by simp;omega),et,aU c1] at hj
    rw[aU (by omega)]
    exact h.rd b hi j c hj
   .by_cases c2:j<f+cc.length
    .rw[dq,dg (by simp;omega),b7 (by simp;omega)] at hj
     obtain⟨v,v1,y⟩:=z _ c hj;refine⟨v,?_,y⟩;rw[aO (by omega),aU (by omega),<-v1]
     congr 1
     simp;omega
    .rw[dg (by simp;omega),mR] at hj
     rw[aO (by omega),aO (by omega)]
     refine h.rd b hi j c ?_;rw[<-hj]
     congr 1
     simp;omega
  .rename_i e
   have t:j<k:=by have:=(bt.1 hj).1;have:=h.width b a;omega
   rcases cr b i with m|x
   .have:(b+1)*k<=i*k:=er k m;rw[ey,pK] at this;rw[aU (by omega)]
    exact h.rd b a j c hj
   .have:(i+1)*k<=b*k:=er k (by omega)
    rw[ey,pK] at this;rw[aO (by omega),aO (by omega)]
    exact h.rd b a j c hj
theorem aJ.en(hh:aJ σ s)(hl:σ[l]?=aa (.buf E k n es)){b:Nat}{vs zs vG:List ak}{f:Nat}(q:s.β[l]?=aa ⟨.slice (aa ⟨b,0,af⟩) 0 f,[b]⟩)(y:(vs++zs).length=f*k)(u:n<=f)(t:f<=9223372036854775807){es':Nat->List C}(i:s.w.heap[b]?=aa (.cells (vs++zs).toArray E (0,0)))(G:Flat s.M k n es' vG)(H:vG.length=vs.length)(z:∀ o,s.M b o=af) :
  aJ (σ.set l (.buf E k n es')) { s with w:=s.w.setRow b (vG++zs).toArray }/\Step σ s (σ.set l (.buf E k n es')) { s with w:=s.w.setRow b (vG++zs).toArray }:=by
 have p:(s.w.setRow b (vG++zs).toArray).heap[b]?=aa (.cells (vG++zs).toArray E (0,0)):=setRow_heap s.w b _ _ E _ i;have d:∀ a,a≠b->(s.w.setRow b (vG++zs).toArray).heap[a]?=s.w.heap[a]?:=λa c=>setRow_other s.w b a _ c
 have m:s.β.set l ⟨.slice (aa ⟨b,0,af⟩) 0 f,[b]⟩=s.β:=by
  apply jk
  intro j
  by_cases e:l=j
  .subst e;rw[cf (bt.1 q).1,q]
  .rw[cQ e]
 obtain⟨A,F⟩:=hh.iT (M':=s.M) (w':=s.w.setRow b (vG++zs).toArray) (B':=.buf E k n es') (L':=⟨.slice (aa ⟨b,0,af⟩) 0 f,[b]⟩) hl q ⟨λ_=>rfl,ba _⟩ (by simp[World.setRow])
  (λa c hn=>d a (by rintro rfl;exact hn (by simp))) (λ_ _ _ _=>rfl) (λ_ _ _ h=>h) (λa I v x=>by
   have r:a≠b:=by rintro rfl;rw[z] at x;cases x
   have:=hh.mem a I v x;rw[<-this];simp only[aY];rw[d a r]) (λa c=>⟨.inl c,by have:=hh.lt _ (bz q) a c;simpa[World.setRow] using this⟩) rfl rfl rfl
  (.inr ⟨b,f,vG,zs,rfl,p,by simp only[bF] at y ⊢;omega,u,t,G,z⟩)
 rw[m] at A F;exact⟨A,F⟩
theorem rX{α:Type}:∀ {new l:List α},new.length=l.length->fg 0 new l=aa new
 |[],[],_=>rfl
 |[],_::_,h=>by simp at h
 |_::_,[],h=>by simp at h
 |n::ns,c::cs,h=>by simp only[fg,rX (new:=ns) (l:=cs) (by simpa using h)]
theorem bR.IV(V:dk P T){t:ar}{x y:aq}(h:o.op=.store t x y){i f:Nat}{m:TI}{new:List A}{cc ci:List C}(hx:B x=.e (.one (.bp l (.el g k i f))))(hg:g=n)(hl:σ[l]?=aa (.buf E k n es))(hi:bL T t=aa m)(hy:mW (B y)=aa new)(hn:new.length=m.size)(O:gH new=aa cc)(K:(es i).length=k->fg f cc (es i)=aa ci)(u:i<n) :
  bR P o B σ .any (σ.set l (.buf E k n (nu i ci es))):=by
 intro s ρ hh hr;have h1:=hr x;rw[hx] at h1;obtain⟨b,c0,vs,q,X,W,a,Q,N,M,S,R⟩:=JD hh hl h1 hg;have d:=nb hy (hr y);have I:=ki O d;have L:=dX.closed I;have F:(ρ y).cells.toList.length=cc.length:=by have:=I.length;simpa using this
 replace K:=K (S.width i u)
 obtain⟨q1,Y⟩:=S.put u K F L;have z:(ρ y).cells.size=m.size:=by rw[<-hn,<-d.length,gZ]
 obtain⟨Z,t2⟩:=hh.en hl X Q N M a Y (by simp only[bF,bn,gF];omega) R
 have p:=run_storeCells_at P b (i*k+f) E (ρ y).cells.toList 0 (vs++q).toArray s.w a (by simp only[nW,bF];omega) d.cell
 have G:((vs++q).toArray.toList.take (i*k+f+0)++(ρ y).cells.toList++(vs++q).toArray.toList.drop (i*k+f+0+(ρ y).cells.toList.length))=vs.take (i*k+f)++(ρ y).cells.toList++vs.drop (i*k+f+(ρ y).cells.toList.length)++q:=by
  rw[uR,gG,y4 (by omega),y5 (by omega),dq,dq,dq]
 rw[G] at p;refine⟨.skip,_,?_,rfl,Z,t2,?_⟩
 .simp[aw,h,W,Instr.storeAt,Instr.sureAddr,storeVar,(V t m hi).run_sizeOf,z,p]
 .intro U c;have e:aw ρ o=(do storeVar t ⟨b,i*k+f,af⟩ (ρ y);pure .skip):=by simp[aw,h,W,Instr.storeAt,Instr.sureAddr]
  rw[e] at c;have H:U∈(storeCells ⟨b,i*k+f,af⟩ (ρ y).cells.toList).events P s.w #[]:=by
   simp only[storeVar,aP,(V t m hi).run_sizeOf,z,aV,events_sizeOf,cW,fH,bH,bZ,cg,Sem.events_pure] at c;generalize (storeCells ⟨b,i*k+f,af⟩ (ρ y).cells.toList).run P s.w=r at c;cases r with
   |ok v w'=>simpa using c
   |halt x w'=>simpa using c
  rcases eN (ρ y).cells.toList 0 (vs++q).toArray s.w #[] a (by simp only[nW,bF];omega) d.cell U H with J|⟨j,_,_,rfl⟩
  .simp at J
  .exact mv (bz X) (by simp) (R _)
end
section
variable {σ:List aW}
theorem aJ.zj{s:St}(hh:aJ σ s){b:Nat}{vs:List ak}(h:∀ o,s.M b o=af)(i:∀ o v,vs[o]?=aa v->s.w.cell? ⟨b,o,af⟩=aa v) :
  aJ (σ.map λ_=>.dead) { s with M:=λa o=>if a=b then vs[o]? else s.M a o }/\∀ a o v,s.M a o=aa v->(if a=b then vs[o]? else s.M a o)=aa v:=by
 have f:=hh.kD;refine⟨⟨λa o v c=>?_,f.len,λl B L g j=>?_,f.gb,f.lt,f.own⟩,λa o v c=>?_⟩
 .by_cases e:a=b
  .subst e;simp only[bO] at c;exact i o v c
  .simp only[e,bH] at c;exact f.mem a o v c
 .have:=bz g;simp at this;rw[<-this.2];trivial
 .by_cases e:a=b
  .subst e;rw[h] at c;cases c
  .simp only[e,bH];exact c
theorem ft.vq{s:St}{M':Mem}{b:Nat}{es:Array Event}(h:ft { s with M:=M' } es){L:Loc}(i:L∈s.β)(hb:b∈L.bs)(l:∀ c o v,s.M c o=aa v->M' c o=aa v)(g:∀ c o v,M' c o=aa v->c=b∨s.M c o=aa v):ft s es:=by
 intro e k;have h1:=h e k;unfold oG at h1 ⊢;split at h1
 .obtain⟨a1,a2,a3⟩:=h1;refine⟨a1,a2,?_⟩;rcases a3 with a3|⟨a3,a4⟩|⟨a3,v,a4⟩
  .exact .inl a3
  .refine .inr (.inl ⟨a3,λf=>?_⟩)
   have:=a4 f
   rename_i a _
   cases j:s.M a.block a.off with
   |none=>rfl
   |some v=>have h2:=l _ _ _ j;simp only at this;rw[this] at h2;cases h2
  .rcases g _ _ _ a4 with h2|h2
   .exact .inr (.inl ⟨⟨L,i,by rw[h2];exact hb⟩,λf=>by rw[a3] at f;cases f⟩)
   .exact .inr (.inr ⟨a3,v,h2⟩)
 all_goals exact h1
end
def HP(k:Nat)(f:Nat->Nat->ak):Nat->List C:=λi=>(bc k).map λj=>.val (f i j)
theorem pO{k:Nat}{f:Nat->Nat->ak}{i j:Nat}{c:C}(h:(HP k f i)[j]?=aa c):j<k/\c=.val (f i j):=by
 have a:j<k:=by
  have:=(bt.1 h).1;simpa[HP] using this
 simp[HP,a] at h;exact⟨a,h.symm⟩
theorem C8{k:Nat}{f:Nat->Nat->ak}{i j:Nat}(h:j<k):(HP k f i)[j]?=aa (.val (f i j)):=by simp[HP,h]
theorem Rd.exact{M:Mem}{v:ak}{t:Bool}{k n:Nat}{es:Nat->List C}(h:Rd M v (.sl t k n es)) :
  ∃ f:Nat->Nat->ak,Rd M v (.sl t k n (HP k f))/\(∀ i,i<n->(es i).length=k)/\∀ i,i<n->∀ j c,(es i)[j]?=aa c->Rd M (f i j) c:=by
 cases h with
 |sl b off f a hb ht hk ha hm hr =>
  have e:∀ i,i<n->∀ j,j<k->∃ c,(es i)[j]?=aa c:=λi hi j hj=>⟨_,aR (by rw[hk i hi];exact hj)⟩
  refine⟨f,.sl b off f a hb ht (λi _=>by simp[HP]) ha (λi hi j c hj=>?_) (λi hi j c hj=>?_),hk,hr⟩
  .obtain⟨h1,_⟩:=pO hj;obtain⟨g,h2⟩:=e i hi j h1;exact hm i hi j g h2
  .obtain⟨h1,rfl⟩:=pO hj;obtain⟨g,h2⟩:=e i hi j h1;exact .val (hr i hi j g h2).cell
theorem z9{σ:List aW}{s:St}{l:Nat}{E:ar}{k n:Nat}{es:Nat->List C}{L:Loc}{a c:Option Addr}{cap:Nat}(e:σ[l]?=aa (.buf E k n es))(i:s.β[l]?=aa L)(q:L.v=.slice c 0 cap)(f:n<=cap)(p:cap<=9223372036854775807)
  (j:0<cap->∃ b,c=aa ⟨b,0,af⟩/\a=aa ⟨b,0,af⟩):gB σ s (.slice a n cap) (.bp l (.sl n k 0 n)) :=
 ⟨L.v,⟨a,c,cap,cap,rfl,f,by omega,p,q,λh=>by obtain⟨b,g,m⟩:=j h;exact⟨b,g,by simp[m]⟩⟩,(bt.1 e).1,λr k' n' es' he=>by
  rw[e] at he;cases he;exact⟨ba _,λ_=>⟨L,i,rfl⟩⟩⟩
set_option maxHeartbeats 1000000 in
theorem rz{P:an}{o:av}{σ:List aW}{x y:aq}{E:ar}{g:TI}(h:mr P o x y E g){l n q:Nat}{tx:Bool}{es es':Nat->List C}{s:St}{ρ:aq->ak}(r:aJ σ s)
  (h1:gB σ s (ρ x) (.bp l (.sl n g.size 0 n))) (hl:σ[l]?=aa (.buf E g.size n es)) (h2:Rd s.M (ρ y) (.sl tx g.size q es')) (R:(n+q)*g.bytes<=140737488355328) :
  ∃ nx s',(aw ρ o).run P s.w=.ok nx s'.w/\Qs (σ.set l (.buf E g.size (n+q) (cX n es es'))) s' nx (.e (.one (.bp l (.sl (n+q) g.size 0 (n+q)))))/\aJ (σ.set l (.buf E g.size (n+q) (cX n es es'))) s'/\Step σ s (σ.set l (.buf E g.size (n+q) (cX n es es'))) s'/\ft s ((aw ρ o).events P s.w #[]):=by
 obtain⟨t,t2,i,i2,ho,hi,hd,F,B⟩:=h.op;have K:l<σ.length:=(bt.1 hl).1;obtain⟨lv,⟨a,a0,cap,z,hv,U,Pq,V,C1,Vp⟩,_,Vq⟩:=h1;obtain⟨L,hL,Q⟩:=(Vq _ _ _ _ hl).2 rfl;rw[C1] at Q;have Ov:z=cap:=by omega
 subst Ov;have Z:0<z->∃ b,a0=aa ⟨b,0,af⟩/\a=aa ⟨b,0,af⟩:=λh=>by obtain⟨b,W,X⟩:=Vp h;exact⟨b,W,by simpa using X⟩
 have I:l<s.β.length:=(bt.1 hL).1;have S:=bz hL;have T7:=r.box l _ L hl hL;rw[c9 ho,hv];have row:0<z->∃ b vs zs,a=aa ⟨b,0,af⟩/\L=⟨.slice (aa ⟨b,0,af⟩) 0 z,[b]⟩/\s.w.heap[b]?=aa (.cells (vs++zs).toArray E (0,0))/\(vs++zs).length=z*g.size/\Flat s.M g.size n es vs/\∀ o,s.M b o=af:=by
  intro J;obtain⟨b,W,X⟩:=Z J;rcases T7 with⟨_,rfl⟩|⟨p,c1,vs,zs,rfl,h3,h4,h5,h6,h7,h8⟩
  .cases Q;omega
  .rw[W] at Q;cases Q;exact⟨b,vs,zs,X,rfl,h3,h4,h7,h8⟩
 by_cases h0:q=0
 .subst h0;have m:=jf (P:=P) (ty:=o.type) hi hd F B h.elem r (a:=a) U h2;simp only[gG];have ha:a9 n es (cX n es es'):=λi hi=>by simp[cX,hi]
  have Vt:eZ (σ.set l (.buf E g.size n (cX n es es'))) ⟨s.β.set l L,s.M,s.w,s.own⟩ (.buf E g.size n (cX n es es')) L:=by
   rcases T7 with h3|⟨p,c1,vs,zs,h2,h3,h4,h5,h6,h7,h8⟩
   .exact .inl h3
   .exact .inr ⟨p,c1,vs,zs,h2,h3,h4,h5,h6,h7.C7 ha,h8⟩
  have Gi:=r.iT (M':=s.M) (w':=s.w) (B':=.buf E g.size n (cX n es es')) (L':=L) hl hL ⟨λ_=>rfl,ba _⟩ (ba _) (λ_ _ _=>rfl) (λ_ _ _ _=>rfl) (λ_ _ _ h=>h) r.mem
   (λb R=>⟨.inl R,r.lt L S b R⟩) rfl rfl rfl Vt
  refine⟨.value (.slice a n z),_,?_,?_,Gi.1,Gi.2,eD (jL hi hd F B h.elem r U h2)⟩
  .simp[m]
  .exact z9 (E:=E) (by rw[cf K]) (by simp only;rw[cf I]) Q U V Z
 .by_cases k:n+q<=z
  .obtain⟨b,vs,zs,rfl,rfl,hw,A,hF,hM⟩:=row (by omega)
   obtain⟨f,LR,m⟩:=kh (P:=P) (ty:=o.type) hi hd F B h.elem r hw A h2 k;have Ow:vs.length=n*g.size:=hF.len;have Pt:f.length=q*g.size:=LR.len;have Y4:n*g.size+q*g.size<=z*g.size:=by rw[<-ey];exact er _ k
   have Iq:((vs++zs).take (n*g.size)++f++(vs++zs).drop (n*g.size+f.length))=(vs++f)++zs.drop f.length:=by
    rw[<-Ow];simp[uX]
   rw[Iq] at m;have Ip:=setRow_heap s.w b _ ((vs++f)++zs.drop f.length).toArray E _ hw;have Y:∀ p,p≠b->(s.w.setRow b ((vs++f)++zs.drop f.length).toArray).heap[p]?=s.w.heap[p]?:=λp H=>setRow_other s.w b p _ H
   obtain⟨t1,Mh⟩:=r.iT (M':=s.M) (w':=s.w.setRow b ((vs++f)++zs.drop f.length).toArray) (B':=.buf E g.size (n+q) (cX n es es')) (L':=⟨.slice (aa ⟨b,0,af⟩) 0 z,[b]⟩) hl hL ⟨λ_=>rfl,by omega⟩ (by simp[World.setRow])
    (λp H hn=>Y p (by rintro rfl;exact hn (by simp))) (λ_ _ _ _=>rfl) (λ_ _ _ h=>h) (λp o' v XI=>by
     have zD:p≠b:=by intro e;rw[e,hM] at XI;cases XI
     have:=r.mem p o' v XI;rw[<-this];simp only[aY];rw[Y p zD]) (λp H=>⟨.inl H,by have:=r.lt _ S p H;simpa[World.setRow] using this⟩) rfl rfl rfl
    (.inr ⟨b,z,vs++f,zs.drop f.length,rfl,Ip,by simp only[bF,gF] at A ⊢;omega,k,V,hF.append LR,hM⟩)
   refine⟨.value (.slice (aa ⟨b,0,af⟩) (n+q) z),_,?_,?_,t1,Mh,eD (lO hi hd F B h.elem r hw A h2 k S (by simp) (λo _=>hM o))⟩
   .simp[m]
   .exact z9 (E:=E) (by rw[cf K]) (by simp only;rw[cf I]) rfl k V λ_=>⟨b,rfl,rfl⟩
  .have hg:z<n+q:=by omega
   obtain⟨f2,h2x,Qe,nN⟩:=h2.exact;have gp:∃ (M':Mem) (f0:Nat->Nat->ak),aJ (σ.map λ_=>.dead) { s with M:=M' }/\(∀ p o v,s.M p o=aa v->M' p o=aa v)/\Rd M' (.slice a n z) (.sl ae g.size n (HP g.size f0))/\(∀ {es},ft { s with M:=M' } es->ft s es) /\
     (∀ i,i<n->(es i).length=g.size)/\∀ i,i<n->∀ j c,(es i)[j]?=aa c->Rd s.M (f0 i j) c:=by
    by_cases J:0<z
    .obtain⟨b,vs,zs,rfl,rfl,hw,A,hF,hM⟩:=row J;obtain⟨c1,c2⟩:=r.zj (b:=b) (vs:=vs) hM (λo v ho=>by
      simp only[aY,hw];have:o<vs.length:=(bt.1 ho).1;simpa[b7 this] using ho)
     have O:∀ i,i<n->∀ j c,(es i)[j]?=aa c->vs[i*g.size+j]?=aa (vs.getD (i*g.size+j) aj)/\Rd s.M (vs.getD (i*g.size+j) aj) c:=by
      intro i hi j c u;obtain⟨v,v1,v2⟩:=hF.rd i hi j c u;have e:vs.getD (i*g.size+j) aj=v:=by simp[ag,v1]
      exact⟨by rw[e,v1],by rw[e];exact v2⟩
     have OT:∀ i,i<n->∀ j,j<g.size->∃ c,(es i)[j]?=aa c:=λi hi j u=>⟨_,aR (by rw[hF.width i hi];exact u)⟩
     refine⟨_,λi j=>vs.getD (i*g.size+j) aj,c1,c2,.sl b 0 (λi j=>vs.getD (i*g.size+j) aj) U V (by simp) (λi _=>by simp[HP]) (λ_=>rfl) (λi hi j c u=>?_) (λi hi j c u=>?_),λhe=>?_,hF.width,λi hi j c u=>(O i hi j c u).2⟩
     .obtain⟨W,_⟩:=pO u;obtain⟨c',X⟩:=OT i hi j W;simp only[bm,bO];exact(O i hi j c' X).1
     .obtain⟨W,rfl⟩:=pO u;obtain⟨c',X⟩:=OT i hi j W;exact .val (O i hi j c' X).2.cell
     .exact he.vq (b:=b) S (by simp) c2 λp o v hv=>by
       by_cases e:p=b
       .exact .inl e
       .simp only[e,bH] at hv;exact .inr hv
    .have W:z=0:=by omega
     have X:n=0:=by omega
     subst W X;have G:=r.kD;exact⟨s.M,λ_ _=>aj,⟨G.mem,G.len,G.box,G.gb,G.lt,G.own⟩,λ_ _ _ h=>h,Rd.jM,λh=>h,λi hi=>by omega,λi hi=>by omega⟩
   obtain⟨M',f0,c1,c2,hR,Ta,Wk,hr0⟩:=gp;have Wp:Rd ({ s with M:=M' }:St).M (ρ y) (.sl tx g.size q (HP g.size f2)):=h2x.mono c2;obtain⟨vG,zs,N,Mg,Vu,Vv,hlen,m⟩:=iy (P:=P) (s:={ s with M:=M' }) (ty:=o.type) hi hd F B h.elem c1 hR Wp hg R h.bytes;have H8:=iW (P:=P) (s:={ s with M:=M' }) (ty:=o.type) hi hd F B h.elem c1 hR Wp hg R h.bytes;have hFs:Flat s.M g.size (n+q) (cX n es es') vG:=by
    refine⟨Mg.len,λi hi=>?_,λi hi j c u=>?_⟩
    .by_cases e:i<n
     .simp only[cX,e,bO];exact Wk i e
     .simp only[cX,e,bH];exact Qe _ (by omega)
    .by_cases e:i<n
     .simp only[cX,e,bO] at u;have Sq:j<g.size:=by have:=(bt.1 u).1;rw[Wk i e] at this;exact this
      obtain⟨v,v1,v2⟩:=Mg.rd i hi j (.val (f0 i j)) (by simp only[cX,e,bO];exact C8 Sq)
      rw[Rd.gm v2] at v1;exact⟨_,v1,hr0 i e j c u⟩
     .simp only[cX,e,bH] at u;have Sq:j<g.size:=by have:=(bt.1 u).1;rw[Qe _ (by omega)] at this;exact this
      obtain⟨v,v1,v2⟩:=Mg.rd i hi j (.val (f2 (i-n) j)) (by simp only[cX,e,bH];exact C8 Sq)
      rw[Rd.gm v2] at v1;exact⟨_,v1,nN _ (by omega) j c u⟩
   have nM:∀ o,s.M s.w.heap.size o=af:=λo=>by
    cases hm:s.M s.w.heap.size o with
    |none=>rfl
    |some v=>have:=r.block hm;omega
   obtain⟨t1,Mh⟩:=r.iT (M':=s.M) (w':=s.w.drew.alloc (.cells (vG++zs).toArray E)) (B':=.buf E g.size (n+q) (cX n es es')) (L':=⟨.slice (aa ⟨s.w.heap.size,0,af⟩) 0 N,[s.w.heap.size]⟩) hl hL
    ⟨λe=>absurd e (by omega),by omega⟩ (by simp) (λb R _=>cN s.w.drew _ R) (λ_ _ _ _=>rfl) (λ_ _ _ h=>h) (λb o v hm=>by
     have qu:=r.block hm;rw[<-r.mem b o v hm];simp only[aY];rw[cN s.w.drew _ qu];rfl) (λb R=>by
     simp at R;subst R;exact⟨.inr (ba _),by simp⟩) rfl rfl rfl (.inr ⟨s.w.heap.size,N,vG,zs,rfl,dE s.w.drew _,hlen,Vu,Vv,hFs,nM⟩)
   refine⟨.value (.slice (aa ⟨s.w.heap.size,0,af⟩) (n+q) N),_,?_,?_,t1,Mh,eD (Ta H8)⟩
   .simp only at m;simp[m]
   .exact z9 (E:=E) (by rw[cf K]) (by simp only;rw[cf I]) rfl Vu Vv λ_=>⟨_,rfl,rfl⟩
theorem bR.MI{P:an}{o:av}{d:aq->D}{σ:List aW}{x y:aq}{E:ar}{a:TI}(h:mr P o x y E a){l n b:Nat}{tx:Bool}{es es':Nat->List C}
  (f:d x=.e (.one (.bp l (.sl n a.size 0 n)))) (hl:σ[l]?=aa (.buf E a.size n es)) (c:∀ s v,dh σ s v (d y)->Rd s.M v (.sl tx a.size b es')) (hb:(n+b)*a.bytes<=140737488355328) :
  bR P o d σ (.e (.one (.bp l (.sl (n+b) a.size 0 (n+b))))) (σ.set l (.buf E a.size (n+b) (cX n es es'))) :=
 λs ρ hh hr=>rz h hh (by have:=hr x;rw[f] at this;exact this) hl (c s _ (hr y)) hb
section
variable {P:an}{T:List (Nat×TI)}{o:av}{d:aq->D}{σ:List aW}
theorem bR.WY(g:dk P T){x:aq}{b:Array ar}{t:ar}(h:o.op=.call { callee:=.builtin .len,args:=#[x],argTypes:=b })(j:b[0]?=aa t){i:TI}{E:ar}(hi:bL T t=aa i)(k:i.desc=.slice E)
  {a:Option Addr} {n cap:Nat} (l:d x=.e (.one (.c (.val (.slice a n cap))))) (hn:n<=9223372036854775807):bR P o d σ (.e (.one (.c (.int .i64 n)))) σ:=by
 refine .quiet λs ρ hh hr=>?_
 have h1:=hr x;rw[l] at h1;have m:=Rd.gm (ga h1);have f:=(g t i hi).run_underlying (w:=s.w);rw[k] at f;refine⟨.int .i64 n,?_,Rd.int (by simp only[bD];omega),?_⟩ <;>
 simp[aw,h,resolve,invoke,builtin,Builtin.len_,m,f,goInt,j]
theorem bR.Bm(p:dk P T){t:ar}{x y:aq}(h:o.op=.indexAddr t x y){i f:TI}{E:ar}(hi:bL T t=aa i)(q:i.desc=.slice E)(u:bL T E=aa f)
  {b off n cap:Nat} {j:Int} {kk:IntKind} (v:d x=.e (.one (.c (.val (.slice (aa ⟨b,off,af⟩) n cap))))) (r:d y=.e (.one (.c (.int kk j)))) (A:0<=j) (h1:j<n):bR P o d σ (.e (.one (.c (.val (.pointer (aa ⟨b,off+j.toNat*f.size,af⟩)))))) σ:=by
 refine .quiet λs ρ hh hr=>?_
 have a:=hr x;rw[v] at a;have z:=Rd.gm (ga a);have h2:=hr y;rw[r] at h2
 replace h2:=ga h2
 generalize l:ρ y=vy at h2;cases h2;have m:=(p t i hi).run_underlying (w:=s.w);rw[q] at m;obtain⟨g,rfl⟩:∃ g:Nat,j=g:=⟨j.toNat,by omega⟩
 have k:g<n:=by omega
 refine⟨.pointer (aa ⟨b,off+g*f.size,af⟩),?_,Rd.val rfl,?_⟩ <;>
 simp[aw,h,z,l,Instr.indexAt,asIntOf,m,(p E f u).run_sizeOf,di,k]
theorem bR.P3(g:dk P T){t:ar}{x:aq}{f:Nat}(h:o.op=.fieldAddr t x f){b off k:Nat}{j:TI}(l:d x=.e (.one (.c (.val (.pointer (aa ⟨b,off,af⟩))))))(a:jR T t f=aa (k,j)):bR P o d σ (.e (.one (.c (.val (.pointer (aa ⟨b,off+k,af⟩)))))) σ:=by
 refine .quiet λs ρ hh hr=>?_
 have h1:=hr x;rw[l] at h1;have i:=Rd.gm (ga h1);exact⟨.pointer (aa ⟨b,off+k,af⟩),by simp[aw,h,i,mH g a],Rd.val rfl,by simp[aw,h,i,oo g a]⟩
theorem bR.slice3(J:dk P T){t:ar}{x y z:aq}(h:o.op=.slice t x af (aa y) (aa z)){i I:TI}{E:ar}(F:bL T t=aa i)(W:i.desc=.slice E)(X:bL T E=aa I){tt:Bool}{k n:Nat}{es:Nat->List C}{u r:IntKind}{j m:Int}
  (U:∀ s v,dh σ s v (d x)->Rd s.M v (.sl tt k n es)) (R:d y=.e (.one (.c (.int u j)))) (V:d z=.e (.one (.c (.int r m)))) (G:0<=j) (h1:j<=m) (h2:m<=n):bR P o d σ (.e (.one (.c (.sl ae k j.toNat es)))) σ:=by
 refine .quiet λst ρ hh hr=>?_
 have q:=U st _ (hr x);have g:=hr y;rw[R] at g
 replace g:=ga g
 generalize B:ρ y=vy at g;cases g;have p:=hr z;rw[V] at p
 replace p:=ga p
 generalize A:ρ z=vz at p;cases p;obtain⟨a,cap,vs,H,K,N,ht,Y,Z⟩:=q.flat;rw[H] at q;have l:=(J t i F).run_underlying (w:=st.w);rw[W] at l;have em:((m.toNat:Nat):Int)=m:=uS (by omega)
 have hb:(Instr.sliceBounds ab n cap af (aa (.int u j)) (aa (.int r m))).run P st.w=.ok (0,j.toNat,m.toNat) st.w:=by
  simp[Instr.sliceBounds,run_sliceBound (P:=P) st.w r m cap _ (by omega) (by omega),run_sliceBound (P:=P) st.w u j m.toNat _ G (by omega)]
 have S:(Instr.sliceBounds ab n cap af (aa (.int u j)) (aa (.int r m))).events P st.w #[]=#[]:=by
  simp[Instr.sliceBounds,run_sliceBound (P:=P) st.w r m cap _ (by omega) (by omega),run_sliceBound (P:=P) st.w u j m.toNat _ G (by omega),eO (P:=P) st.w r m cap _ (by omega) (by omega),eO (P:=P) st.w u j m.toNat _ G (by omega)]
 refine⟨.slice a j.toNat m.toNat,?_,?_,by simp[aw,h,H,B,A,Instr.sliceAt,l,Instr.slice,hb,S]⟩
 .simp[aw,h,H,B,A,Instr.sliceAt,l,Instr.slice,hb,(J E I X).run_sizeOf];intro _;rcases a with _|⟨b,off,sp⟩ <;> simp[Addr.add]
 .cases q with
  |sl b off f _ _ _ O Q hm' Qc =>
   exact Rd.sl b off f (by omega) (by omega) (by simp) (λi hi=>O i (by omega)) (λL=>Q (by omega)) (λi hi j c hj=>hm' i (by omega) j c hj) (λi hi j c hj=>Qc i (by omega) j c hj)
end
theorem Flat.SL{M:Mem}{k n q m:Nat}{es Pp:Nat->List C}{vs oF:List ak}(h:Flat M k n es vs)(b:Flat M k m Pp oF)(g:q+m<=n) :
  Flat M k n (λi=>if q<=i/\i<q+m then Pp (i-q) else es i) (vs.take (q*k)++oF++vs.drop (q*k+oF.length)):=by
 have hl:=h.len;have r:=b.len;have hb:q*k+m*k<=n*k:=by rw[<-ey];exact er k g
 have l:(vs.take (q*k)).length=q*k:=by simp;omega
 have a:∀ p,(vs.take (q*k)++oF++vs.drop (q*k+oF.length))[p]?=if p<q*k then vs[p]? else if p<q*k+m*k then oF[p-q*k]? else vs[p]?:=by
  intro p
  by_cases c1:p<q*k
  .rw[aU c1,dq,b7 (by omega),et,aU c1]
  .rw[aO c1]
   by_cases c2:p<q*k+m*k
   .rw[aU c2,dq,dg (by omega),b7 (by omega),l]
   .rw[aO c2,dg (by simp;omega),mR]
    congr 1
    simp;omega
 refine⟨by simp;omega,λi hi=>?_,λi hi j c hj=>?_⟩
 .by_cases e:q<=i/\i<q+m
  .rw[aU e];exact b.width _ (by omega)
  .rw[aO e];exact h.width i hi
 .rw[a]
  by_cases e:q<=i/\i<q+m
  .rw[aU e] at hj;have f:j<k:=by have:=(bt.1 hj).1;rw[b.width _ (by omega)] at this;exact this
   have e1:q*k<=i*k:=er k e.1;have e2:i*k+k<=q*k+m*k:=by rw[<-ey,<-jo];exact er k e.2
   rw[aO (by omega),aU (by omega)]
   obtain⟨v,v1,s⟩:=b.rd (i-q) (by omega) j c hj
   refine⟨v,?_,s⟩;rw[<-v1,Nat.sub_mul]
   congr 1
   omega
  .rw[aO e] at hj;have f:j<k:=by have:=(bt.1 hj).1;rw[h.width i hi] at this;exact this
   have:i*k+j<q*k∨q*k+m*k<=i*k+j:=by
    by_cases c1:i<q
    .left
     have:i*k+k<=q*k:=by rw[<-jo];exact er k c1
     omega
    .right
     have:(q+m)*k<=i*k:=er k (by omega)
     rw[ey] at this;omega
   rcases this with c1|c1
   .rw[aU c1];exact h.rd i hi j _ hj
   .rw[aO (by omega),aO (by omega)];exact h.rd i hi j _ hj
theorem zi{s:St}{E k k':Nat}{es Vo:Nat->List C}{v:ak}{σ':List aW}{β:List Loc}{l:Nat}(g:Rd s.M v (.sl ab k' 0 Vo))(e:σ'[l]?=aa (.buf E k 0 es))(c:β[l]?=aa ⟨.slice af 0 0,[]⟩):gB σ' { s with β:=β } v (.bp l (.sl 0 k 0 0)):=by
 obtain⟨a,cap,vs,i,_,_,b,_,_⟩:=g.flat;have:=b rfl;subst this;refine⟨.slice af 0 0,⟨a,af,0,0,i,by omega,rfl,by omega,rfl,λh=>absurd h (by omega)⟩,(bt.1 e).1,λn j m f h=>?_⟩
 rw[e] at h;cases h;exact⟨ba _,λ_=>⟨_,c,rfl⟩⟩
theorem ft.SM{s:St}{β:List Loc}{v:ak}{es:Array Event}(h:ft { s with β:=β++[⟨v,[]⟩] } es)(c:s.β=β):ft s es:=by
 intro e f;have h1:=h e f;have key:∀ b,(∃ L∈β++[(⟨v,[]⟩:Loc)],b∈L.bs)->∃ L∈s.β,b∈L.bs:=λb ⟨L,a,hb⟩=>by
  rcases dr.1 a with a|a
  .exact⟨L,by rw[c];exact a,hb⟩
  .rw[fV] at a;subst a;simp at hb
 unfold oG at h1 ⊢;split at h1
 .obtain⟨a1,a2,a3⟩:=h1;refine⟨a1,a2,?_⟩;rcases a3 with a3|⟨a3,a4⟩|a3
  .exact .inl a3
  .exact .inr (.inl ⟨key _ a3,a4⟩)
  .exact .inr (.inr a3)
 .obtain⟨a1,a2⟩:=h1;exact⟨a1,a2.imp id (key _)⟩
 .exact h1
 .exact h1
theorem bR.F2{P:an}{o:av}{d:aq->D}{σ:List aW}{x y:aq}{E:ar}{a:TI}(h:mr P o x y E a){k m:Nat}{tx:Bool}{es es':Nat->List C}
  (t:d x=.e (.one (.c (.sl ab k 0 es)))) (q:∀ s v,dh σ s v (d y)->Rd s.M v (.sl tx a.size m es')) (hb:(0+m)*a.bytes<=140737488355328) :
  bR P o d σ (.e (.one (.bp σ.length (.sl (0+m) a.size 0 (0+m))))) (σ++[.buf E a.size (0+m) (cX 0 es es')]):=by
 intro s ρ hh hr;have h1:=hr x;rw[t] at h1;have h2:=q s _ (hr y);obtain⟨n,g2⟩:=hh.ix (B:=.buf E a.size 0 es) (L:=⟨.slice af 0 0,[]⟩) (.refl _ _) rfl hh (.inl ⟨rfl,rfl⟩) (by simp)
 have f:gB (σ++[.buf E a.size 0 es]) { s with β:=s.β++[⟨.slice af 0 0,[]⟩] } (ρ x) (.bp σ.length (.sl 0 a.size 0 0)):=zi (E:=E) (es:=es) (ga h1) (by simp) (by simp[<-hh.len])
 obtain⟨r,s',u,i,g,j,p⟩:=rz (P:=P) (σ:=σ++[.buf E a.size 0 es]) (s:={ s with β:=s.β++[⟨.slice af 0 0,[]⟩] }) (l:=σ.length) (es:=es) h n f (by simp) h2 hb
 have b:(σ++[aW.buf E a.size 0 es]).set σ.length (.buf E a.size (0+m) (cX 0 es es'))=σ++[.buf E a.size (0+m) (cX 0 es es')]:=by simp
 rw[b] at i g j;exact⟨r,s',u,i,g,g2.trans j,p.SM rfl⟩
def F3(i j m:Nat)(es:Nat->List C):Nat->List C:=λq=>if i<=q/\q<i+m then es (j+(q-i)) else es q
theorem bR.H7{P:an}{o:av}{d:aq->D}{σ:List aW}{x y:aq}{E:ar}{f:TI}(h:mr P o x y E f){l n i j m:Nat}{es:Nat->List C}
  (hx:d x=.e (.one (.bp l (.sl n f.size 0 i)))) (hy:d y=.e (.one (.bp l (.sl n f.size j m)))) (hl:σ[l]?=aa (.buf E f.size n es)) (Y1:i+m<=n) (hjm:j+m<=n) :
  bR P o d σ (.e (.one (.bp l (.sl n f.size 0 (i+m))))) (σ.set l (.buf E f.size n (F3 i j m es))):=by
 intro s ρ hh hr;obtain⟨t,t2,ti,ti2,ho,hi,hd,X,U⟩:=h.op;have h1:=hr x;rw[hx] at h1
 change gB σ s (ρ x) (.bp l _) at h1
 have h2:=hr y;rw[hy] at h2
 change gB σ s (ρ y) (.bp l _) at h2
 obtain⟨lv,⟨a,a0,cap,K,hv,V,Pq,V2,C1,Vp⟩,_,Vq⟩:=h1;obtain⟨L,hL,Pr⟩:=(Vq _ _ _ _ hl).2 rfl;rw[C1] at Pr;obtain⟨lv',⟨a',a0',k,c0',So,V3,aal,aam,V4,V5⟩,_,V6⟩:=h2;obtain⟨L',hU,O⟩:=(V6 _ _ _ _ hl).2 rfl;rw[hL] at hU;cases hU;rw[V4,Pr] at O;cases O;have Sp:=bz hL;have hu:=hi.run_underlying (w:=s.w);have R:=X.run_underlying (w:=s.w);rw[hd] at hu;rw[U] at R;rw[c9 ho,hv,So]
 by_cases Vr:n=0
 .have e1:i=0:=by omega
  have e2:m=0:=by omega
  subst Vr e1 e2;have Ps:σ.set l (.buf E f.size 0 (F3 0 j 0 es))=σ:=by
   have:F3 0 j 0 es=es:=by funext q;simp only[F3];rw[aO (by omega)]
   rw[this]
   apply jk
   intro q
   by_cases e:l=q
   .subst e;rw[cf (bt.1 hl).1,hl]
   .rw[cQ e]
  have hz:Rd s.M (.slice a' 0 k) (.sl ae f.size 0 λ_=>[]):=.sl 0 0 (λ_ _=>aj) (by omega) (by omega) (by simp) (λi hi=>by omega) (λh=>by omega) (λi hi=>by omega) (λi hi=>by omega)
  have F:=jf (P:=P) (ty:=o.type) hi hd X U h.elem hh (a:=a) V hz;rw[Ps];refine⟨.value (.slice a 0 cap),s,?_,?_,hh,.refl _ _,eD (jL hi hd X U h.elem hh V hz)⟩
  .simp[F]
  .exact⟨lv,⟨a,a0,cap,K,rfl,V,Pq,V2,C1,Vp⟩,(bt.1 hl).1,Vq⟩
 rcases hh.box l _ L hl hL with⟨e,_⟩|⟨b,c1,vs,Z,rfl,r,hz1,hz2,hz3,S,hM⟩
 .exact absurd e Vr
 cases Pr;have SN:0<cap:=by omega
 obtain⟨b1,e1,rfl⟩:=Vp SN;cases e1;have Ov:K=cap:=by omega
 subst Ov;rw[show b=b from rfl]
 have Ow:vs.length=n*f.size:=S.len;have u:i+m<=K:=by omega
 have hik:i*f.size+m*f.size<=n*f.size:=by rw[<-ey];exact er _ Y1
 have Sq:j*f.size+m*f.size<=n*f.size:=by rw[<-ey];exact er _ hjm
 obtain⟨c1,c2⟩:=hh.zj (b:=b) (vs:=vs) hM (λq v I=>by
  simp only[aY,r];have:q<vs.length:=(bt.1 I).1;simpa[b7 this] using I)
 let g:=(vs.drop (j*f.size)).take (m*f.size)
 have Pt:g.length=m*f.size:=by simp only[g,bn,gF];omega
 have Y2:∀ p,p<m*f.size->g[p]?=vs[j*f.size+p]?:=λp B=>by simp only[g,et,B,bO,mR]
 have LR:Flat s.M f.size m (λq=>es (j+q)) g:=by
  refine⟨Pt,λq I=>S.width _ (by omega),λq I p c B=>?_⟩
  have hpk:p<f.size:=by have:=(bt.1 B).1;rw[S.width _ (by omega)] at this;exact this
  obtain⟨v,v1,v2⟩:=S.rd (j+q) (by omega) p c B
  refine⟨v,?_,v2⟩;have hq2:q*f.size+f.size<=m*f.size:=by rw[<-jo];exact er _ I
  rw[Y2 _ (by omega),<-v1,ey]
  congr 1
  omega
 have z:∀ v∈g,v.oneCell'=ab:=LR.cell;have Sr:Rd (λA q=>if A=b then vs[q]? else s.M A q) (.slice a' m k) (.sl ae f.size m (HP f.size λq p=>vs.getD ((j+q)*f.size+p) aj)):=by
  refine .sl b (j*f.size) (λq p=>vs.getD ((j+q)*f.size+p) aj) V3 (by omega) (by simp) (λq _=>by simp[HP]) (λB=>?_) (λq I p c B=>?_) (λq I p c B=>?_)
  .obtain⟨b2,e2,e3⟩:=V5 (by omega)
   cases e2;exact e3
  .obtain⟨p1,_⟩:=pO B;have hq2:q*f.size+f.size<=m*f.size:=by rw[<-jo];exact er _ I
   simp only[bO];rw[<-ey,ag,aR (by rw[Ow,ey];omega)]
   rfl
  .obtain⟨p1,rfl⟩:=pO B;obtain⟨c',V7⟩:∃ c',(es (j+q))[p]?=aa c':=⟨_,aR (by rw[S.width _ (by omega)];exact p1)⟩
   obtain⟨v,v1,v2⟩:=S.rd (j+q) (by omega) p c' V7
   have e:vs.getD ((j+q)*f.size+p) aj=v:=by simp[ag,v1]
   rw[e];exact .val v2.cell
 obtain⟨H,Mg,hf,N⟩:=dO (P:=P) (s:={ s with M:=λA q=>if A=b then vs[q]? else s.M A q }) c1 Sr
 have hnn:H=g:=by
  apply jk
  intro p;have zk:H.length=m*f.size:=Mg.len
  by_cases B:p<m*f.size
  .have hk:0<f.size:=by
    rcases jF f.size with e|e
    .rw[e] at B;omega
    .exact e
   have I:p / f.size<m:=pB (by rw[jH];exact B)
   have Ss:p / f.size*f.size+p % f.size=p:=pE p f.size;obtain⟨v,v1,v2⟩:=Mg.rd _ I (p % f.size) _ (C8 (ik _ hk));rw[Ss] at v1;rw[v1,Y2 p B,Rd.gm v2];rw[ey,lr,Ss,ag,aR (by omega)]
   rfl
  .rw[eU (by omega),eU (by omega)]
 subst hnn;have H8:=gX (P:=P) (s:={ s with M:=λA q=>if A=b then vs[q]? else s.M A q }) c1 Sr (w:=s.w) rfl
 replace hf:(Builtin.firstCells f.size m (.slice a' m k)).run P s.w=.ok g.toArray s.w:=hf
 have Q:i*f.size+g.length<=(vs++Z).length:=by rw[Pt,bF];omega
 have J:=run_storeCells_at P b (i*f.size) E g 0 (vs++Z).toArray s.w r (by simpa using Q) z
 simp only[gG] at J;have Pu:((vs++Z).toArray.toList.take (i*f.size)++g++(vs++Z).toArray.toList.drop (i*f.size+g.length))=vs.take (i*f.size)++g++vs.drop (i*f.size+g.length)++Z:=by
  rw[uR,y4 (by omega),y5 (by omega),dq,dq,dq]
 rw[Pu] at J;have q2:=S.SL LR Y1;have he:(λq=>if i<=q/\q<i+m then (λq=>es (j+q)) (q-i) else es q)=F3 i j m es:=rfl
 rw[he] at q2;obtain⟨t1,Mh⟩:=hh.en hl hL hz1 hz2 hz3 r q2 (by simp only[bF,bn,gF];omega) hM
 have G:(Builtin.lenOf (.slice a' m k)).run P s.w=.ok m s.w:=by rw[N];rfl
 have Y:(Builtin.lenOf (.slice a' m k)).events P s.w #[]=#[]:=by rw[N];rfl
 refine⟨.value (.slice (aa ⟨b,0*f.size,af⟩) (i+m) K),_,?_,?_,t1,Mh,eD ?_⟩
 .have F:(Builtin.append_ #[t,t2] o.type #[.slice (aa ⟨b,0*f.size,af⟩) i K,.slice a' m k]).run P s.w=.ok (.slice (aa ⟨b,0*f.size,af⟩) (i+m) K) (s.w.setRow b (vs.take (i*f.size)++g++vs.drop (i*f.size+g.length)++Z).toArray):=by
   unfold Builtin.append_;simp only[iR,kZ,lK,bZ,hu,R,cg,h.elem.run_sizeOf,c7,gi,bH,G,u,bO,kg,hf,di,Nat.zero_mul,bm,J]
  simp only[bZ,F,cg,c7]
 .exact⟨.slice (aa ⟨b,0,af⟩) 0 K,⟨_,_,K,K,rfl,u,by omega,V2,rfl,λ_=>⟨b,rfl,rfl⟩⟩,by rw[mi];exact(bt.1 hl).1,λE2 k2 n2 Pp Vs=>by
   rw[cf (bt.1 hl).1] at Vs;cases Vs;exact⟨ba _,λ_=>⟨_,hL,rfl⟩⟩⟩
 .intro e W;unfold Builtin.append_ at W;simp only[iR,kZ,lK,aP,bZ,hu,R,aV,h.elem.run_sizeOf,c7,gi,bH,G,Y,u,bO,kg,hf,di,Nat.zero_mul,bm,J,
   pM,Sem.events_ite,events_underlying,events_sizeOf,Sem.events_pure] at W
  rcases eN g 0 (vs++Z).toArray s.w _ r (by simpa using Q) z e W with h3|⟨p,_,_,rfl⟩
  .have h4:ft { s with M:=λA q=>if A=b then vs[q]? else s.M A q } #[e]:=ft.one (sG (H8 e h3))
   exact h4.vq (b:=b) Sp (by simp) c2 (λA q v hv=>by
    by_cases e:A=b
    .exact .inl e
    .simp only[e,bH] at hv;exact .inr hv) e (by simp)
  .exact mv Sp (by simp) (hM _)
section
variable {P:an}{T:List (Nat×TI)}{o:av}{d:aq->D}{σ:List aW}
theorem bR.slice3B(J:dk P T){t:ar}{x w y z:aq}(h:o.op=.slice t x (aa w) (aa y) (aa z)){I G:TI}{E:ar}(H:bL T t=aa I)(V:I.desc=.slice E)(Y:bL T E=aa G){l g k q n:Nat}{A v u:IntKind}{i j m:Int}
  (S:d x=.e (.one (.bp l (.sl g k q n)))) (L:d w=.e (.one (.c (.int A i)))) (Q:d y=.e (.one (.c (.int v j)))) (U:d z=.e (.one (.c (.int u m)))) (h0:0<=i) (h1:i<=j) (h2:j<=m) (h3:m<=n):bR P o d σ (.e (.one .any)) σ:=by
 refine .quiet λst ρ hh hr=>?_
 have s:=hr x;rw[S] at s
 change gB σ st (ρ x) (.bp l _) at s
 obtain⟨lv,⟨a,a0,cap,Z,K,N,M,X,O,W⟩,_,_⟩:=s;have b:=hr w;rw[L] at b
 replace b:=ga b
 generalize B:ρ w=vw at b;cases b;have f:=hr y;rw[Q] at f
 replace f:=ga f
 generalize F:ρ y=vy at f;cases f;have r:=hr z;rw[U] at r
 replace r:=ga r
 generalize C:ρ z=vz at r;cases r;have p:=(J t I H).run_underlying (w:=st.w);rw[V] at p;have hb:(Instr.sliceBounds ab n cap (aa (.int A i)) (aa (.int v j)) (aa (.int u m))).run P st.w=.ok (i.toNat,j.toNat,m.toNat) st.w:=by
  simp[Instr.sliceBounds,run_sliceBound (P:=P) st.w u m cap _ (by omega) (by omega),run_sliceBound (P:=P) st.w v j m.toNat _ (by omega) (by omega),run_sliceBound (P:=P) st.w A i j.toNat _ (by omega) (by omega)]
 have R:(Instr.sliceBounds ab n cap (aa (.int A i)) (aa (.int v j)) (aa (.int u m))).events P st.w #[]=#[]:=by
  simp[Instr.sliceBounds,run_sliceBound (P:=P) st.w u m cap _ (by omega) (by omega),run_sliceBound (P:=P) st.w v j m.toNat _ (by omega) (by omega),run_sliceBound (P:=P) st.w A i j.toNat _ (by omega) (by omega),
   eO (P:=P) st.w u m cap _ (by omega) (by omega),eO (P:=P) st.w v j m.toNat _ (by omega) (by omega),eO (P:=P) st.w A i j.toNat _ (by omega) (by omega)]
 refine⟨.slice (if m.toNat=i.toNat then a else a.map (·.add (i.toNat*G.size))) (j.toNat-i.toNat) (m.toNat-i.toNat),?_,rfl,by simp[aw,h,K,B,F,C,Instr.sliceAt,p,Instr.slice,hb,R]⟩
 simp[aw,h,K,B,F,C,Instr.sliceAt,p,Instr.slice,hb,(J E G Y).run_sizeOf]
end
section drop
variable {σ1 rest:List aW}{s:St}
def St.cut(s:St)(n:Nat):St:={ s with β:=s.β.take n }
theorem gB.drop{v:ak}{a:A}(r:gB (σ1++rest) s v a)(d:F9 σ1.length a=ab):gB σ1 (s.cut σ1.length) v a:=by
 have lt:∀ {l:Nat},bw (l+1) σ1.length=ab->l<σ1.length:=λh=>dn h
 cases a with
 |c x=>exact r
 |any=>exact r
 |ptr l o =>
  have hl:=lt d;obtain⟨i,L,b,m,f⟩:=r;refine⟨λB g=>i B (by rw[b7 hl];exact g),L,b,?_,f⟩
  simp only[St.cut,et,hl,bO];exact m
 |ref l =>
  have hl:=lt d;obtain⟨i,L,m,f⟩:=r;refine⟨λB g=>i B (by rw[b7 hl];exact g),L,?_,f⟩
  simp only[St.cut,et,hl,bO];exact m
 |bp l w =>
  have hl:=lt d;obtain⟨lv,i,_,f⟩:=r;refine⟨lv,i,hl,λE k' n' es' g=>?_⟩
  obtain⟨h1,h2⟩:=f E k' n' es' (by rw[b7 hl];exact g)
  refine⟨h1,λe=>?_⟩
  obtain⟨L,p,j⟩:=h2 e;refine⟨L,?_,j⟩;simp only[St.cut,et,hl,bO];exact p
 |vec l k n es =>
  have hl:=lt d;obtain⟨i,_,f⟩:=r;refine⟨i,hl,λE k' n' es' g=>?_⟩
  obtain⟨h1,h2⟩:=f E k' n' es' (by rw[b7 hl];exact g)
  refine⟨h1,λe=>?_⟩
  obtain⟨L,p,j⟩:=h2 e;refine⟨L,?_,j⟩;simp only[St.cut,et,hl,bO];exact p
theorem dX.xA:∀ {vs:List ak}{cs:List A},dX (σ1++rest) s vs cs->Ga σ1.length cs=ab->dX σ1 (s.cut σ1.length) vs cs
 |[],[],_,_=>trivial
 |[],_::_,r,_=>r.elim
 |_::_,[],r,_=>r.elim
 |v::vs,c::cs,r,h=>by
  simp only[Ga] at h;cases a:F9 σ1.length c with
  |false=>simp[a] at h
  |true=>simp only[a] at h;exact⟨r.1.drop a,dX.xA r.2 h⟩
theorem mc.xA{v:ak}{e:E1}(r:mc (σ1++rest) s v e)(h:Iu σ1.length e=ab):mc σ1 (s.cut σ1.length) v e:=by
 cases e with
 |one a=>exact gB.drop r h
 |agg cs=>obtain⟨vs,h1,h2⟩:=r;exact⟨vs,h1,dX.xA h2 h⟩
theorem gI.xA:∀ {vs:List ak}{cs:List E1},gI (σ1++rest) s vs cs->xr σ1.length cs=ab->gI σ1 (s.cut σ1.length) vs cs
 |[],[],_,_=>trivial
 |[],_::_,r,_=>r.elim
 |_::_,[],r,_=>r.elim
 |v::vs,c::cs,r,h=>by
  simp only[xr] at h;cases a:Iu σ1.length c with
  |false=>simp[a] at h
  |true=>simp only[a] at h;exact⟨mc.xA r.1 a,gI.xA r.2 h⟩
theorem dh.drop{v:ak}{d:D}(r:dh (σ1++rest) s v d)(h:uy σ1.length d=ab):dh σ1 (s.cut σ1.length) v d:=by
 cases d with
 |e x=>exact mc.xA r h
 |fW xs=>obtain⟨vs,h1,h2⟩:=r;exact⟨vs,h1,gI.xA h2 h⟩
 |any=>trivial
theorem cC.drop{σ0:List aW}{s0:St}(st:cC σ0 s0 (σ1++rest) s)(a:σ0.length<=σ1.length):cC σ0 s0 σ1 (s.cut σ1.length):=by
 refine⟨st.size,st.eH,st.mem,st.jq,λL c b hb=>st.tK L (gY c) b hb,?_,st.os,st.tape,st.output,st.own⟩
 intro l B L d c;obtain⟨B',L',h1,h2,e⟩:=st.box l B L d c;have hl:l<σ1.length:=cz (bt.1 d).1 a;rw[b7 hl] at h1;exact⟨B',L',h1,by simp only[St.cut,et,hl,bO];exact h2,e⟩
theorem gB.rS{σ:List aW}{v:ak}{a:A}(hl:s.β.length=σ.length)(r:gB σ s v a):F9 σ.length a=ab:=by
 have ok:∀ {l:Nat},l<σ.length->bw (l+1) σ.length=ab:=λh=>ra h
 have lt:∀ {l:Nat} {L:Loc},s.β[l]?=aa L->l<σ.length:=λh=>by rw[<-hl];exact(bt.1 h).1
 cases a with
 |c x=>rfl
 |any=>rfl
 |ptr l o=>obtain⟨_,L,b,d,_⟩:=r;exact ok (lt d)
 |ref l=>obtain⟨_,L,d,_⟩:=r;exact ok (lt d)
 |bp l w=>obtain⟨lv,_,h,_⟩:=r;exact ok h
 |vec l k n es=>exact ok r.2.1
theorem dX.rS{σ:List aW}(hl:s.β.length=σ.length):∀ {vs:List ak}{cs:List A},dX σ s vs cs->Ga σ.length cs=ab
 |[],[],_=>rfl
 |[],_::_,r=>r.elim
 |_::_,[],r=>r.elim
 |v::vs,c::cs,r=>by simp only[Ga,r.1.rS hl];exact dX.rS hl r.2
theorem mc.rS{σ:List aW}(hl:s.β.length=σ.length){v:ak}{e:E1}(r:mc σ s v e):Iu σ.length e=ab:=by
 cases e with
 |one a=>exact gB.rS hl r
 |agg cs=>obtain⟨vs,_,h⟩:=r;exact dX.rS hl h
theorem gI.rS{σ:List aW}(hl:s.β.length=σ.length):∀ {vs:List ak}{cs:List E1},gI σ s vs cs->xr σ.length cs=ab
 |[],[],_=>rfl
 |[],_::_,r=>r.elim
 |_::_,[],r=>r.elim
 |v::vs,c::cs,r=>by simp only[xr,mc.rS hl r.1];exact gI.rS hl r.2
theorem dh.rS{σ:List aW}(hl:s.β.length=σ.length){v:ak}{d:D}(r:dh σ s v d):uy σ.length d=ab:=by
 cases d with
 |e x=>exact mc.rS hl r
 |fW xs=>obtain⟨vs,_,h⟩:=r;exact gI.rS hl h
 |any=>rfl
theorem aJ.Ts{s0:St}(i:aJ σ1 s0)(h:aJ (σ1++rest) s):aJ σ1 (s.cut σ1.length):=by
 have hl:σ1.length<=s.β.length:=by rw[h.len];simp
 refine⟨h.mem,by simp[St.cut,hl],?_,?_,?_,λb hb=>⟨(h.own b hb).1,λL c=>(h.own b hb).2 L (gY c)⟩⟩
 .intro l B L m c;have f:l<σ1.length:=(bt.1 m).1;simp only[St.cut,et,f,bO] at c;have a:=h.box l B L (by rw[b7 f];exact m) c
  have e:∃ p,s0.β[l]?=aa p:=⟨_,aR (by rw[i.len];exact f)⟩
  obtain⟨p,e⟩:=e;have g:=i.box l B p m e;cases B with
  |cells E cs =>
   obtain⟨b,vs,h1,h2,o,j⟩:=a;obtain⟨_,_,_,_,g3,_⟩:=g;exact⟨b,vs,h1,h2,dX.xA o (g3.rS i.len),j⟩
  |vec E k n es=>exact a
  |dM H=>exact a
  |dead=>trivial
  |loop N φ r =>
   obtain⟨l',tmps,fn,q,h1,h2,o,j,u⟩:=a;obtain⟨_,_,_,_,_,_,_,g4,_⟩:=g;exact⟨l',tmps,fn,q,h1,h2,o,λt=>(j t).drop ((g4 t).rS i.len),u⟩
  |rC=>exact a
  |buf E k n es=>exact a
 .intro l l' L L' c d b hb oP;simp only[St.cut,et] at c d;split at c <;> split at d <;> first|exact h.gb l l' L L' c d b hb oP|(cases c;done)|(cases d;done)
 .intro L c b hb;exact h.lt L (gY c) b hb
theorem OA.Bh{P:an}{X:Cx P}{N:Nat}{all:List av}{o:av}{φ:Fr}{σ:List aW}{E:ar}{k n:Nat}{es:Nat->List C}(h:OA X N all o φ σ (.e (.one (.vec σ.length k n es))) (σ++[.vec E k n es])):OA X N all o φ σ (.e (.one (.c (.sl ae k n es)))) σ:=by
 intro s a f hh b kk cs S i rest hb hi hK;refine h s a f hh b kk cs S i rest hb hi λv s' hv lG st=>?_
 have d:eW s' (s'.cut σ.length):=⟨rfl,λ_ _ _ h=>h,λ_ _ _=>rfl,lG.mem,λb hb=>hb.imp id λ⟨L,g,hb⟩=>⟨L,gY g,hb⟩⟩
 exact .ghost d (hK v (s'.cut σ.length) hv.1 (hh.Ts lG) (st.drop (ba _)))
end drop
end Go.AM
namespace Go.AM
section force
variable {p:Type}
def vP:C->(C->Option p)->Option p
 |.int k n,q=>q (.int k n)
 |.bool b,q=>q (.bool b)
 |.str s,q=>q (.str s)
 |.sl ab k n es,q=>q (.sl ab k n es)
 |.sl ae k n es,q=>q (.sl ae k n es)
 |.rp cs,q=>dj cs λcs=>q (.rp cs)
 |.Iz t cs,q=>dj cs λcs=>q (.Iz t cs)
 |.fn f a b,q=>dj a λa=>dj b λb=>q (.fn f a b)
 |c,q=>q c
theorem Gb(c:C)(q:C->Option p):vP c q=q c:=by
 cases c with
 |sl t=>cases t <;> rfl
 |rp cs=>simp[vP,cZ]
 |Iz t cs=>simp[vP,cZ]
 |fn f a b=>simp[vP,cZ]
 |_=>rfl
def vQ:A->(A->Option p)->Option p
 |.c x,q=>vP x λx=>q (.c x)
 |.ptr l o,q=>q (.ptr l o)
 |.vec l k n es,q=>q (.vec l k n es)
 |.ref l,q=>q (.ref l)
 |.bp l (.sl g k o n),q=>q (.bp l (.sl g k o n))
 |.bp l (.el g k i f),q=>q (.bp l (.el g k i f))
 |.any,q=>q .any
theorem x7(a:A)(q:A->Option p):vQ a q=q a:=by
 cases a with
 |bp l w=>cases w <;> simp[vQ]
 |_=>simp[vQ,Gb]
def vd:List A->(List A->Option p)->Option p
 |[],q=>q []
 |a::r,q=>vQ a λa=>vd r λr=>q (a::r)
theorem Dm(l:List A)(q:List A->Option p):vd l q=q l:=by
 induction l generalizing q with
 |nil=>rfl
 |cons a r b=>simp[vd,x7,b]
def zH:E1->(E1->Option p)->Option p
 |.one a,q=>vQ a λa=>q (.one a)
 |.agg cs,q=>vd cs λcs=>q (.agg cs)
theorem x8(a:E1)(q:E1->Option p):zH a q=q a:=by cases a <;> simp[zH,x7,Dm]
def ve:List E1->(List E1->Option p)->Option p
 |[],q=>q []
 |a::r,q=>zH a λa=>ve r λr=>q (a::r)
theorem Dn(l:List E1)(q:List E1->Option p):ve l q=q l:=by
 induction l generalizing q with
 |nil=>rfl
 |cons a r b=>simp[ve,x8,b]
def oh:D->(D->Option p)->Option p
 |.e x,q=>zH x λx=>q (.e x)
 |.fW xs,q=>ve xs λxs=>q (.fW xs)
 |.any,q=>q .any
theorem nk(a:D)(q:D->Option p):oh a q=q a:=by cases a <;> simp[oh,x8,Dn]
end force
def xB:D->Option (Bool×Nat×Nat×(Nat->List C))
 |.e (.one (.c (.sl t k n es)))=>aa (t,k,n,es)
 |.e (.one (.vec _ k n es))=>aa (ae,k,n,es)
 |_=>af
theorem mD{d:D}{t:Bool}{k n:Nat}{es:Nat->List C}(h:xB d=aa (t,k,n,es))(σ:List aW)(s:St)(v:ak)(r:dh σ s v d):Rd s.M v (.sl t k n es):=by
 unfold xB at h;split at h
 .cases h;exact r
 .cases h;exact r.1
 .cases h
def iV(l:List UInt8) (j:Int):UInt8:=l.getD j.toNat 0
def PU(T:List (Nat×TI))(t:ar)(d:D):Option D :=
 match bL T t with
 |none=>af
 |some i=>match i.desc with
  |.slice _=>match xB d with
   |some (_,_,n,_)=>aa (.e (.one (.c (.int .i64 n))))
   |none=>af
  |.string=>match d with
   |.e (.one (.c (.str s)))=>aa (.e (.one (.c (.int .i64 s.length))))
   |_=>af
  |_=>af
def IL(T:List (Nat×TI))(b a:ar)(d:D):Option (D×List Prop) :=
 match bL T b with
 |none=>af
 |some i1=>match bL T a with
  |none=>af
  |some i2=>match i2.desc with
   |.int k'=>match d with
    |.e (.one (.c (.int _ j)))=>aa (.e (.one (.c (.int k' j))),[bD k' j])
    |_=>af
   |.string=>match d with
    |.e (.one (.c (.str s)))=>aa (.e (.one (.c (.str s))),[])
    |d=>match i1.desc with
     |.slice E=>match bL T E with
      |some ie=>match ie.desc with
       |.int .u8=>match xB d with
        |some (_,k,n,es)=>match aA k 1 with
         |true=>match vR es 0 n with
          |some r=>aa (.e (.one (.c (.str r))),[])
          |none=>af
         |false=>af
        |none=>af
       |_=>af
      |none=>af
     |_=>af
   |_=>af
def Dp(T:List (Nat×TI))(a:aq->D)(t:ar)(x:aq)(lo hi:Option aq):Option (D×List Prop) :=
 match bL T t with
 |none=>af
 |some i=>match uB a lo with
  |none=>af
  |some l=>match uB a hi with
   |none=>af
   |some u=>match i.desc with
    |.string=>match a x with
     |.e (.one (.c (.str s)))=>aa (.e (.one (.c (.str (rT s l u)))),iU s.length l u)
     |_=>af
    |.slice E=>match bL T E with
     |none=>af
     |some ie=>match xB (a x) with
      |some (tt,k,n,es)=>match aA k ie.size with
       |true=>aa (.e (.one (.c (.sl (PV tt u) ie.size (cE n u-cE 0 l) (jb (cE 0 l) es)))),iU n l u)
       |false=>af
      |none=>af
    |_=>af
def x9(op:BinOp)(k:IntKind) (a:Int)(k':IntKind) (b:Int):Option (D×List Prop) :=
 match A5 op k a k' b with
 |some (c,obs)=>aa (.e (.one (.c (.int k c))),obs)
 |none=>af
theorem rU{op:BinOp}{k k':IntKind}{a b:Int}{d:D}{obs:List Prop}(h:x9 op k a k' b=aa (d,obs)):∃ c,d=.e (.one (.c (.int k c)))/\A5 op k a k' b=aa (c,obs):=by
 unfold x9 at h;split at h
 .rename_i c f g;cases h;exact⟨c,rfl,g⟩
 .cases h
def OH(T:List (Nat×TI))(op:BinOp)(t:ar)(x y:D):Option (D×List Prop) :=
 match x,y with
 |.e (.one (.c (.bool a))),.e (.one (.c (.bool b)))=>match bL T t with
  |some i=>match i.desc with
   |.bool=>match lU op (a==b) with
    |some c=>aa (.e (.one (.c (.bool c))),[])
    |none=>af
   |_=>af
  |none=>af
 |.e (.one (.c a)),.e (.one (.c b))=>match op with
  |.xor=>match a,b with
   |.int .i64 a,.int .i64 b=>aa (.e (.one (.c (.int .i64 ((a.toNat ^^^ b.toNat:Nat):Int)))),[0<=a,0<=b])
   |.int .u64 a,.int k' b=>x9 .xor .u64 a k' b
   |_,_=>af
  |.shl=>match a,b with
   |.int k a,.int k' b=>x9 .shl k a k' b
   |_,_=>af
  |.shr=>match a,b with
   |.int k a,.int k' b=>x9 .shr k a k' b
   |_,_=>af
  |.and=>match a,b with
   |.int k a,.int k' b=>x9 .and k a k' b
   |_,_=>af
  |_=>match ME op a b with
   |some (c,obs)=>aa (.e (.one (.c c)),obs)
   |none=>af
 |.e (.agg cs),.e (.agg es)=>match bL T t with
  |some i=>match i.eq with
   |[]=>af
   |d::ds=>match OI (d::ds) cs es with
    |some b=>match lU op b with
     |some c=>aa (.e (.one (.c (.bool c))),[])
     |none=>af
    |none=>af
  |none=>af
 |_,_=>af
def VA(T:List (Nat×TI))(CT:List (Nat×dC))(φ:Fr)(o:av):Option (D×List Prop) :=
 match o.op with
 |.move x|.assign x=>aa (cj φ x,[])
 |.index t x y=>match bL T t with
  |some i=>match i.desc with
   |.string=>match cj φ x,cj φ y with
    |.e (.one (.c (.str l))),.e (.one (.c (.int _ j)))=>aa (.e (.one (.c (.int .u8 (iV l j).toNat))),[0<=j,j<l.length])
    |_,_=>af
   |_=>af
  |none=>af
 |.indexAddr t x y=>match bL T t with
  |some i=>match i.desc with
   |.slice E=>match bL T E with
    |some ie=>match xB (cj φ x),cj φ y with
     |some (_,k,n,es),.e (.one (.c (.int _ j)))=>match aA k ie.size with
      |true=>aa (.e (.one (.c (.rp (es j.toNat)))),[0<=j,j<n])
      |false=>af
     |_,_=>af
    |none=>af
   |_=>af
  |none=>af
 |.slice t x lo hi af=>Dp T (cj φ) t x lo hi
 |.convert src dst x=>IL T src dst (cj φ x)
 |.call c=>match c.callee with
  |.builtin .len=>match c.args.toList,c.argTypes[0]? with
   |[x],aa t=>match PU T t (cj φ x) with
    |some d=>aa (d,[])
    |none=>af
   |_,_=>af
  |.value fo=>Bj CT φ fo c.args.toList
  |_=>af
 |.pick c a b=>match cj φ c with
  |.e (.one (.c (.bool ab)))=>aa (cj φ a,[])
  |.e (.one (.c (.bool ae)))=>aa (cj φ b,[])
  |_=>af
 |.binOp op t x y _=>OH T op t (cj φ x) (cj φ y)
 |.unOp op _ x=>match cj φ x with
  |.e (.one (.c a))=>match VC op a with
   |some c=>aa (.e (.one (.c c)),[])
   |none=>af
  |_=>af
 |.extract x j=>match cj φ x with
  |.fW xs=>match fZ j xs with
   |some e=>aa (.e e,[])
   |none=>af
  |_=>af
 |.fieldAddr t x f=>match jR T t f with
  |some (k,_)=>match cj φ x with
   |.e (.one (.ptr l off))=>aa (.e (.one (.ptr l (off+k))),[])
   |.e (.one (.c (.rp cs)))=>aa (.e (.one (.c (.rp (im k cs)))),[])
   |_=>af
  |none=>af
 |.field t x f=>match jR T t f with
  |some (k,j)=>match cj φ x with
   |.e (.agg cs)=>match nh j (im k cs) with
    |some e=>aa (.e e,[])
    |none=>af
   |_=>af
  |none=>af
 |.nilCheck x=>match cj φ x with
  |.e (.one (.ptr l off))=>aa (.e (.one (.ptr l off)),[])
  |.e (.one (.c (.rp cs)))=>aa (.e (.one (.c (.rp cs))),[])
  |_=>af
 |.build t parts=>match zI T (cj φ) t parts.toList with
  |some cs=>aa (.e (.agg cs),[])
  |none=>af
 |.buildSlice t n parts=>match Dc T (cj φ) t n parts.toList with
  |some (k,es)=>aa (.e (.one (.c (.sl ab k n λi=>es.getD i []))),[])
  |none=>af
 |.makeFunc fn a b=>match vS (cj φ) a.toList with
  |some ca=>match vS (cj φ) b.toList with
   |some cb=>aa (.e (.one (.c (.fn fn ca cb))),[])
   |none=>af
  |none=>af
 |.makeInterface t x=>match bL T t with
  |some i=>match rV i.desc with
   |false=>match vf t (cj φ x) with
    |some c=>aa (.e (.one (.c c)),[])
    |none=>af
   |true=>af
  |none=>af
 |.typeAssert x _ t ab=>match bL T t with
  |some i=>match rV i.desc with
   |false=>match cj φ x with
    |.e (.one (.c c))=>match pX t i c with
     |some (e,b)=>aa (.fW [e,.one (.c (.bool b))],[])
     |none=>af
    |_=>af
   |true=>af
  |none=>af
 |_=>af
def IE(T:List (Nat×TI))(φ:Fr)(σ:List aW)(t:ar)(x:aq):Option D :=
 match bL T t with
 |some i=>match cj φ x with
  |.e (.one (.ptr l off))=>match fZ l σ with
   |some (.cells _ cs)=>match nh i (im off cs) with
    |some e=>aa (.e e)
    |none=>af
   |_=>af
  |.e (.one (.c (.rp cs)))=>match nh i (cs.map A.c) with
   |some e=>aa (.e e)
   |none=>af
  |_=>af
 |none=>af
def WR(T:List (Nat×TI))(φ:Fr)(o:av):Option (D×List Prop) :=
 match o.op with
 |.indexAddr t x y=>match bL T t with
  |some i=>match i.desc with
   |.slice E=>match bL T E with
    |some ie=>match cj φ x,cj φ y with
     |.e (.one (.bp l (.sl g k q m))),.e (.one (.c (.int _ j)))=>match aA k ie.size with
      |true=>aa (.e (.one (.bp l (.el g ie.size (q+j.toNat) 0))),[0<=j,j<m])
      |false=>af
     |.e (.one (.c (.val (.slice (aa ⟨b,off,af⟩) n _)))),.e (.one (.c (.int _ j)))=>aa (.e (.one (.c (.val (.pointer (aa ⟨b,off+j.toNat*ie.size,af⟩))))),[0<=j,j<n])
     |_,_=>af
    |none=>af
   |_=>af
  |none=>af
 |.fieldAddr t x f=>match jR T t f with
  |some (k,_)=>match cj φ x with
   |.e (.one (.bp l (.el g a i q)))=>aa (.e (.one (.bp l (.el g a i (q+k)))),[])
   |.e (.one (.c (.val (.pointer (aa ⟨b,off,af⟩)))))=>aa (.e (.one (.c (.val (.pointer (aa ⟨b,off+k,af⟩))))),[])
   |_=>af
  |none=>af
 |.nilCheck x=>match cj φ x with
  |.e (.one (.bp l (.el g a i q)))=>aa (.e (.one (.bp l (.el g a i q))),[])
  |_=>af
 |.slice t x lo hi af=>match bL T t with
  |none=>af
  |some i=>match uB (cj φ) lo with
   |none=>af
   |some lw=>match uB (cj φ) hi with
    |none=>af
    |some u=>match i.desc with
     |.slice E=>match bL T E with
      |none=>af
      |some ie=>match cj φ x with
       |.e (.one (.bp l (.sl g k q m)))=>match aA k ie.size with
        |true=>aa (.e (.one (.bp l (.sl g ie.size (q+cE 0 lw) (cE m u-cE 0 lw)))),iU m lw u)
        |false=>af
       |_=>af
     |_=>af
 |.slice t x af (aa y) (aa z)=>match bL T t with
  |none=>af
  |some i=>match i.desc with
   |.slice E=>match bL T E with
    |none=>af
    |some _=>match xB (cj φ x),cj φ y,cj φ z with
     |some (_,k,n,es),.e (.one (.c (.int _ j))),.e (.one (.c (.int _ m)))=>aa (.e (.one (.c (.sl ae k j.toNat es))),[0<=j,j<=m,m<=n])
     |_,_,_=>af
   |_=>af
 |.slice t x (aa w) (aa y) (aa z)=>match bL T t with
  |none=>af
  |some i=>match i.desc with
   |.slice E=>match bL T E with
    |none=>af
    |some _=>match cj φ x,cj φ w,cj φ y,cj φ z with
     |.e (.one (.bp _ (.sl _ _ _ n))),.e (.one (.c (.int _ i))),.e (.one (.c (.int _ j))),.e (.one (.c (.int _ m)))=>aa (.e (.one .any),[0<=i,i<=j,j<=m,m<=n])
     |_,_,_,_=>af
   |_=>af
 |.call c=>match c.callee with
  |.builtin .len=>match c.args.toList,c.argTypes[0]? with
   |[x],aa t=>match bL T t with
    |some i=>match i.desc with
     |.slice _=>match cj φ x with
      |.e (.one (.bp _ (.sl _ _ _ m)))=>aa (.e (.one (.c (.int .i64 m))),[])
      |.e (.one (.c (.val (.slice _ n _))))=>aa (.e (.one (.c (.int .i64 n))),[n<=9223372036854775807])
      |_=>af
     |_=>af
    |none=>af
   |_,_=>af
  |_=>af
 |_=>af
def zE(T:List (Nat×TI))(φ:Fr)(σ:List aW)(t:ar)(x:aq):Option (D×List Prop) :=
 match bL T t with
 |some it=>match cj φ x with
  |.e (.one (.bp l (.el g k i f)))=>match fZ l σ with
   |some (.buf _ k' n es)=>match aA k' k with
    |true=>match nh it ((im f (es i)).map A.c) with
     |some e=>aa (.e e,[g=n,i<n])
     |none=>af
    |false=>af
   |_=>af
  |_=>af
 |none=>af
def IM:Nat->List C->Nat->Bool
 |0,cc,k=>aA cc.length k
 |_+1,_,_=>ae
def zJ(T:List (Nat×TI))(φ:Fr)(σ:List aW)(t:ar)(x y:aq):Option (D×List aW×List Prop) :=
 match bL T t with
 |some it=>match cj φ x with
  |.e (.one (.bp l (.el g k i f)))=>match fZ l σ with
   |some (.buf E k' n es)=>match aA k' k with
    |true=>match mW (cj φ y) with
     |some new=>match aA new.length it.size with
      |true=>match gH new with
       |some cc=>match IM f cc k with
        |true=>dj (en.sL l (.buf E k' n (nu i cc es)) σ) λσ'=>aa (.any,σ',[g=n,i<n])
        |false=>match fg f cc (es i) with
         |some ci=>dj (en.sL l (.buf E k' n (nu i ci es)) σ) λσ'=>aa (.any,σ',[g=n,i<n])
         |none=>af
       |none=>af
      |false=>af
     |none=>af
    |false=>af
   |_=>af
  |_=>af
 |none=>af
def MB(T:List (Nat×TI))(CT:List (Nat×dC))(φ:Fr)(σ:List aW)(o:av):Option (D×List Prop) :=
 match o.op with
 |.load t x=>match IE T φ σ t x with
  |some d=>aa (d,[])
  |none=>zE T φ σ t x
 |_=>match VA T CT φ o with
  |some r=>aa r
  |none=>WR T φ o
def PW(T:List (Nat×TI))(a:aq->D)(σ:List aW)(x y:aq)(t b:ar):Option (D×List aW×List Prop) :=
 match bL T t with
 |none=>af
 |some i=>match bL T b with
  |none=>af
  |some i2=>match i.desc with
   |.slice E=>match i2.desc with
    |.slice E2=>match aA E2 E with
     |false=>af
     |true=>match bL T E with
      |none=>af
      |some ie=>match bw 1 ie.bytes,bw 1 ie.size with
       |true,ab=>match xB (a y) with
        |none=>af
        |some (_,k',m,es')=>match aA k' ie.size with
         |false=>af
         |true=>match a x with
          |.e (.one (.c (.sl ab k n es)))=>match aA k ie.size with
           |true=>dj (σ++[.vec E ie.size (n+m) (cX n es es')]) λσ'=>aa (.e (.one (.vec σ.length ie.size (n+m) (cX n es es'))),σ',[(n+m)*ie.bytes<=140737488355328,n=0∨0<m])
           |false=>match aA n 0 with
            |true=>dj (σ++[.vec E ie.size (n+m) (cX n es es')]) λσ'=>aa (.e (.one (.vec σ.length ie.size (n+m) (cX n es es'))),σ',[(n+m)*ie.bytes<=140737488355328,n=0∨0<m])
            |false=>af
          |.e (.one (.vec l k n es))=>match fZ l σ with
           |some (.vec E' k2 n2 Pp)=>match aA E' E,aA k ie.size,aA k2 ie.size with
            |true,ab,ab=>dj (en.sL l (.vec E ie.size (n+m) (cX n es es')) σ) λσ'=>aa (.e (.one (.vec l ie.size (n+m) (cX n es es'))),σ',[n2=n,Pp=es,(n+m)*ie.bytes<=140737488355328])
            |_,_,_=>af
           |_=>af
          |.e (.one (.bp l (.sl g k 0 n)))=>match fZ l σ with
           |some (.buf E' k2 n2 Pp)=>match aA E' E,aA k ie.size,aA k2 ie.size with
            |true,ab,ab=>dj (en.sL l (.buf E ie.size (n2+m) (cX n2 Pp es')) σ) λσ'=>aa (.e (.one (.bp l (.sl (n2+m) ie.size 0 (n2+m)))),σ',[g=n2,n=n2,(n2+m)*ie.bytes<=140737488355328])
            |_,_,_=>af
           |_=>af
          |_=>af
       |_,_=>af
    |_=>af
   |_=>af
def WT(T:List (Nat×TI))(CT:List (Nat×dC))(φ:Fr)(σ:List aW)(o:av):Option (D×List aW×List Prop) :=
 match o.op with
 |.alloc _|.box _ _=>VD T φ σ o
 |.store t x y=>match VD T φ σ o with
  |some r=>aa r
  |none=>zJ T φ σ t x y
 |.call c=>match c.callee with
  |.builtin .append=>match c.args.toList,c.argTypes.toList with
   |[x,y],[t,a]=>PW T (cj φ) σ x y t a
   |_,_=>af
  |.value fo=>IN CT φ σ fo c.args.toList
  |_=>af
 |_=>af
def PX(T:List (Nat×TI))(a:aq->D)(x y:aq)(t b:ar):Option (D×List Prop) :=
 match bL T t with
 |none=>af
 |some i=>match bL T b with
  |none=>af
  |some i2=>match i.desc with
   |.slice E=>match i2.desc with
    |.slice E2=>match aA E2 E with
     |false=>af
     |true=>match bL T E with
      |none=>af
      |some ie=>match bw 1 ie.bytes,bw 1 ie.size with
       |true,ab=>match xB (a y) with
        |none=>af
        |some (_,k',m,es')=>match aA k' ie.size with
         |false=>af
         |true=>match a x with
          |.e (.one (.c (.sl ab k n es)))=>match aA n 0 with
           |true=>aa (.e (.one (.c (.sl ae ie.size (n+m) (cX n es es')))),[(n+m)*ie.bytes<=140737488355328,n=0∨0<m])
           |false=>af
          |_=>af
       |_,_=>af
    |_=>af
   |_=>af
def WU(T:List (Nat×TI))(φ:Fr)(o:av):Option (D×List Prop) :=
 match o.op with
 |.call c=>match c.callee with
  |.builtin .append=>match c.args.toList,c.argTypes.toList with
   |[x,y],[t,a]=>PX T (cj φ) x y t a
   |_,_=>af
  |_=>af
 |_=>af
def Bl:List (Nat×Bool)->Nat->Option Bool
 |[],_=>af
 |(i,b)::r,t=>match aA i t with|true=>aa b|false=>Bl r t
def Wy(ds:List (Nat×Bool)):Option Nat->Bool
 |none=>ae
 |some t=>match Bl ds (2000000+t) with
  |some ab=>ab
  |_=>ae
def isW(ds:List (Nat×Bool)):Option Nat->Bool
 |none=>ae
 |some t=>match Bl ds (3000000+t) with
  |some ab=>ab
  |_=>ae
def appW(w:Bool)(T:List (Nat×TI))(a:aq->D)(σ:List aW)(x y:aq)(t b:ar):Option (D×List aW×List Prop) :=
 match bL T t with
 |none=>af
 |some i=>match bL T b with
  |none=>af
  |some i2=>match i.desc with
   |.slice E=>match i2.desc with
    |.slice E2=>match aA E2 E with
     |false=>af
     |true=>match bL T E with
      |none=>af
      |some ie=>match bw 1 ie.bytes,bw 1 ie.size with
       |true,ab=>match w with
        |true=>match xB (a y) with
         |none=>af
         |some (_,k',m,es')=>match aA k' ie.size with
          |false=>af
          |true=>match a x with
           |.e (.one (.c (.sl ab k n es)))=>match aA n 0 with
            |true=>dj (σ++[.buf E ie.size (0+m) (cX 0 es es')]) λσ'=>aa (.e (.one (.bp σ.length (.sl (0+m) ie.size 0 (0+m)))),σ',[(0+m)*ie.bytes<=140737488355328])
            |false=>af
           |_=>af
        |false=>match a x,a y with
         |.e (.one (.bp l (.sl g k 0 i))),.e (.one (.bp l' (.sl g' k' j m)))=>match aA l' l with
          |false=>af
          |true=>match fZ l σ with
           |some (.buf E' k2 n es)=>match aA E' E,aA k ie.size,aA k' ie.size,aA k2 ie.size with
            |true,ab,ab,ab=>dj (en.sL l (.buf E ie.size n (F3 i j m es)) σ) λσ'=>aa (.e (.one (.bp l (.sl n ie.size 0 (i+m)))),σ',[g=n,g'=n,i+m<=n,j+m<=n])
            |_,_,_,_=>af
           |_=>af
         |_,_=>af
       |_,_=>af
    |_=>af
   |_=>af
def VE(w:Bool)(T:List (Nat×TI))(φ:Fr)(σ:List aW)(o:av):Option (D×List aW×List Prop) :=
 match o.op with
 |.call c=>match c.callee with
  |.builtin .append=>match c.args.toList,c.argTypes.toList with
   |[x,y],[t,a]=>appW w T (cj φ) σ x y t a
   |_,_=>af
  |_=>af
 |_=>af
def Tl(ds:List (Nat×Bool))(T:List (Nat×TI))(CT:List (Nat×dC))(φ:Fr)(σ:List aW)(o:av):Option (D×List aW×List Prop) :=
 match isW ds o.dst with
 |true=>VE ab T φ σ o
 |false=>match WT T CT φ σ o with
  |some r=>aa r
  |none=>VE ae T φ σ o
def IJ(ds:List (Nat×Bool))(d:Option Nat)(x:D)(obs:List Prop):Option (D×List Prop) :=
 match d with
 |none=>aa (x,obs)
 |some t=>match Bl ds t with
  |none=>aa (x,obs)
  |some b=>match x with
   |.e (.one (.c (.bool e)))=>aa (.e (.one (.c (.bool b))),kl obs [e=b])
   |_=>af
theorem MF{ds:List (Nat×Bool)}{d:Option Nat}{x y:D}{obs Dq:List Prop}(h:IJ ds d x obs=aa (y,Dq))(a:ai Dq):y=x/\ai obs:=by
 unfold IJ at h;split at h
 .cases h;exact⟨rfl,a⟩
 .split at h
  .cases h;exact⟨rfl,a⟩
  .split at h
   .cases h;rw[ai.cat] at a;have:_=_:=a.2;subst this;exact⟨rfl,a.1⟩
   .cases h
def E4(T:List (Nat×TI))(CT:List (Nat×dC))(ds:List (Nat×Bool))(all:List av)(φ:Fr)(σ:List aW)(o:av):Option (D×Option (List aW)×List Prop) :=
 let go:Option (D×Option (List aW)×List Prop):=match MB T CT φ σ o with
  |some (x,obs)=>match IJ ds o.dst x obs with
   |some (y,a)=>oh y λy=>aa (y,af,a)
   |none=>af
  |none=>match Wy ds o.dst with
   |true=>match WU T φ o with
    |some (x,obs)=>oh x λx=>aa (x,af,obs)
    |none=>af
   |false=>match Tl ds T CT φ σ o with
    |some (x,σ',obs)=>oh x λx=>aa (x,aa σ',obs)
    |none=>af
 match o.guard with
 |none=>go
 |some (j,b)=>match zK φ all j with
  |some (aa b')=>match b,b' with
   |true,ab=>go
   |false,ae=>go
   |_,_=>aa (.fW [],af,[])
  |some af=>aa (.fW [],af,[])
  |none=>af
section
variable {P:an}{X:Cx P}{T:List (Nat×TI)}{CT:List (Nat×dC)}{N:Nat}{all:List av}{φ:Fr}{σ:List aW}{o:av}
theorem MG(l:dk P T)(F:∀ σ s a,cw N σ s φ a->bk o (yielded all.toArray a.tmps)=ab){x y:aq}{t e:ar}{d:D}{obs:List Prop}(I:o.op=.call { callee:=.builtin .append,args:=#[x,y],argTypes:=#[t,e] })
  (h:PX T (cj φ) x y t e=aa (d,obs)) (b:ai obs):OA X N all o φ σ d σ:=by
 unfold PX at h;split at h
 .cases h
 rename_i i hi
 split at h
 .cases h
 rename_i i2 IP
 split at h
 case h_2=>cases h
 rename_i E H
 split at h
 case h_2=>cases h
 rename_i C f
 split at h
 .cases h
 rename_i j
 have G:=bE j;subst G;split at h
 .cases h
 rename_i z u
 split at h
 case h_2=>cases h
 rename_i q r
 have c:mr P o x y C z:=⟨⟨t,e,i,i2,I,l t i hi,H,l e i2 IP,f⟩,l _ _ u,by have:=dn q;omega,by have:=dn r;omega⟩
 split at h
 .cases h
 rename_i tx k' m es' hy
 split at h
 .cases h
 rename_i g
 have B:=bE g;subst B;have w:=λs v=>mD hy σ s v
 split at h
 .rename_i k n es hx
  split at h
  .rename_i A
   cases h;exact(OA.lJ F (bR.oQ c hx (.inr (bE A)) w b.1 b.2)).Bh
  .cases h
 .cases h
theorem MH(H:dk P T){Q:aq->D}{x y:aq}{t j:ar}{d:D}{σ':List aW}{obs:List Prop}(ho:o.op=.call { callee:=.builtin .append,args:=#[x,y],argTypes:=#[t,j] })
  (h:PW T Q σ x y t j=aa (d,σ',obs)) (a:ai obs):bR P o Q σ d σ':=by
 unfold PW at h;split at h
 .cases h
 rename_i i hi
 split at h
 .cases h
 rename_i i2 IP
 split at h
 case h_2=>cases h
 rename_i E S
 split at h
 case h_2=>cases h
 rename_i Z u
 split at h
 .cases h
 rename_i B
 have eE:=bE B;subst eE;split at h
 .cases h
 rename_i R O
 split at h
 case h_2=>cases h
 rename_i K L
 have b:mr P o x y Z R:=⟨⟨t,j,i,i2,ho,H t i hi,S,H j i2 IP,u⟩,H _ _ O,by have:=dn K;omega,by have:=dn L;omega⟩
 split at h
 .cases h
 rename_i tx k' m es' hy
 split at h
 .cases h
 rename_i A
 have Y:=bE A;subst Y;have c:=λs v=>mD hy σ s v
 split at h
 .rename_i k n es hx
  split at h
  .rename_i hk
   rw[cZ] at h;cases h;exact bR.oQ b hx (.inl (bE hk)) c a.1 a.2
  .split at h
   .rename_i V
    rw[cZ] at h;cases h;exact bR.oQ b hx (.inr (bE V)) c a.1 a.2
   .cases h
 .rename_i l k n es hx
  split at h
  .rename_i U W f e I
   split at h
   .rename_i z M G
    rw[cZ,lz] at h;cases h;obtain⟨F,J,r⟩:f=n/\e=es/\_:=a;subst F;subst J;have w:=bE z;subst w;have q:=bE M;have C:=bE G;subst C;subst q;exact bR.F4 b hx (dY I) c r
   .cases h
  .cases h
 .rename_i l g k n hx
  split at h
  .rename_i U W f e I
   split at h
   .rename_i z M G
    rw[cZ,lz] at h;cases h;obtain⟨F,J,r⟩:g=f/\n=f/\_:=a;subst F;subst J;have w:=bE z;subst w;have q:=bE M;have C:=bE G;subst C;subst q;exact bR.MI b hx (dY I) c r
   .cases h
  .cases h
 .cases h
theorem MJ(e:dk P T){c:aq->D}{x:aq}{a:Array ar}{t:ar}{d:D}(g:o.op=.call { callee:=.builtin .len,args:=#[x],argTypes:=a })(f:a[0]?=aa t)(h:PU T t (c x)=aa d):bR P o c σ d σ:=by
 unfold PU at h;split at h
 .cases h
 rename_i i hi
 split at h
 .rename_i E b
  split at h
  .rename_i tt k n es hs
   cases h;exact bR.Tu e g f hi b (λs v=>mD hs σ s v)
  .cases h
 .rename_i b
  split at h
  .rename_i s hs
   cases h;exact bR.PY e g f hi b hs
  .cases h
 .cases h
theorem IQ(f:dk P T){t:aq->D}{c b:ar}{x:aq}{d:D}{obs:List Prop}(m:o.op=.convert c b x)(h:IL T c b (t x)=aa (d,obs))(a:ai obs):bR P o t σ d σ:=by
 unfold IL at h;split at h
 .cases h
 rename_i i hi
 split at h
 .cases h
 rename_i i2 IP
 split at h
 .rename_i k' hd
  split at h
  .rename_i k j l
   cases h;exact bR.MK f m hi IP hd l a
  .cases h
 .rename_i hd
  split at h
  .rename_i s l
   cases h;exact bR.ML f m hi IP hd l
  .split at h
   .rename_i E q
    split at h
    .rename_i z y
     split at h
     .rename_i g
      split at h
      .rename_i tt k n es hs
       split at h
       .rename_i u
        have e:=bE u;subst e;split at h
        .rename_i r w
         cases h;exact bR.Gc f m hi IP q hd y g (λs v=>mD hs σ s v) w
        .cases h
       .cases h
      .cases h
     .cases h
    .cases h
   .cases h
 .cases h
theorem Gd(g:dk P T){f:aq->D}{t:ar}{x:aq}{lo hi:Option aq}{d:D}{obs:List Prop}(q:o.op=.slice t x lo hi af)(h:Dp T f t x lo hi=aa (d,obs))(a:ai obs):bR P o f σ d σ:=by
 unfold Dp at h;split at h
 .cases h
 rename_i i b
 split at h
 .cases h
 rename_i l j
 split at h
 .cases h
 rename_i u m
 split at h
 .rename_i c
  split at h
  .rename_i s y
   cases h;exact bR.IS g q b c y j m a
  .cases h
 .rename_i E c
  split at h
  .cases h
  rename_i z w
  split at h
  .rename_i tt k n es hs
   split at h
   .rename_i r
    cases h;have e:=bE r;subst e;exact bR.MM g q b c w (λs v=>mD hs σ s v) j m a
   .cases h
  .cases h
 .cases h
theorem vT{α:Type}{xs:Array α}{x:α}(h:xs.toList=[x]):xs=#[x]:=il h
theorem nv{α:Type}{xs:Array α}{x y:α}(h:xs.toList=[x,y]):xs=#[x,y]:=il h
theorem PZ(B:dk P T)(Q:b5 X CT){d:D}{obs:List Prop}(h:VA T CT φ o=aa (d,obs))(g:ai obs)(r:∀ σ s a,cw N σ s φ a->bk o (yielded all.toArray a.tmps)=ab):OA X N all o φ σ d σ:=by
 unfold VA at h;split at h
 .rename_i x C;cases h;exact OA.lJ r (bR.move C)
 .rename_i x C;cases h;exact OA.lJ r (bR.assign C)
 .rename_i t x y C
  split at h
  .rename_i i hi
   split at h
   .rename_i G
    split at h
    .rename_i l k j w J
     cases h;obtain⟨L,W⟩:0<=j/\j<(l.length:Int):=g;have:=bR.IT (σ:=σ) (m:=j.toNat) B C hi G w J (by omega) (by omega)
     have e:iV l j=l[j.toNat]'(by omega):=by simp[iV,ag,aR (by omega:j.toNat<l.length)]
     rw[e];exact OA.lJ r this
    .cases h
   .cases h
  .cases h
 .rename_i t x y C
  split at h
  .rename_i i hi
   split at h
   .rename_i E G
    split at h
    .rename_i ie M
     split at h
     .rename_i tt k n es k2 j w J
      split at h
      .rename_i hk
       cases h;obtain⟨L,W⟩:0<=j/\j<(n:Int):=g;have e:=bE hk;subst e;exact OA.lJ r (bR.indexAddr (m:=j.toNat) B C hi G M (λs v=>mD w σ s v) J (by omega) (by omega))
      .cases h
     .cases h
    .cases h
   .cases h
  .cases h
 .rename_i t x lo hi C
  exact OA.lJ r (Gd B C h g)
 .rename_i O dst x C
  exact OA.lJ r (IQ B C h g)
 .rename_i c C
  obtain⟨Y,args,Z⟩:=c;simp only at h;split at h
  .split at h
   .rename_i x t w R
    split at h
    .rename_i d' S
     cases h;have:=vT w;subst this;exact OA.lJ r (MJ B C R S)
    .cases h
   .cases h
  .exact OA.Bj Q r C h g
  .cases h
 .rename_i c a b q
  split at h
  .rename_i u;cases h;exact OA.lJ r (bR.pick q u)
  .rename_i u;cases h;exact OA.lJ r (bR.pick q u)
  .cases h
 .rename_i op t y z ty q
  unfold OH at h;split at h
  .rename_i a b A F
   split at h
   .rename_i i hi
    split at h
    .rename_i G
     split at h
     .rename_i c u;cases h;exact OA.lJ r (bR.P0 B q hi G A F u)
     .cases h
    .cases h
   .cases h
  .rename_i a b _ A F
   split at h
   .split at h
    .rename_i _ _ a' b' _ _
     cases h;exact OA.lJ r (bR.Tv q A F g.1 g.2)
    .obtain⟨c,rfl,u⟩:=rU h;exact OA.lJ r (bR.bits q A F u g)
    .cases h
   .split at h
    .obtain⟨c,rfl,u⟩:=rU h;exact OA.lJ r (bR.bits q A F u g)
    .cases h
   .split at h
    .obtain⟨c,rfl,u⟩:=rU h;exact OA.lJ r (bR.bits q A F u g)
    .cases h
   .split at h
    .obtain⟨c,rfl,u⟩:=rU h;exact OA.lJ r (bR.bits q A F u g)
    .cases h
   .split at h
    .rename_i c K u;cases h;exact OA.lJ r (bR.binOp q A F u g)
    .cases h
  .rename_i cs es A F
   split at h
   .rename_i i hi
    split at h
    .cases h
    .rename_i d ds Zr
     split at h
     .rename_i b I
      split at h
      .rename_i c u;cases h;exact OA.lJ r (bR.structEq B q hi (by rw[Zr];simp) A F (by rw[Zr];exact I) u)
      .cases h
     .cases h
   .cases h
  .cases h
 .rename_i op t y q
  split at h
  .rename_i a A
   split at h
   .rename_i c u;cases h;exact OA.lJ r (bR.unOp q A u)
   .cases h
  .cases h
 .rename_i y j q
  split at h
  .rename_i xs w
   split at h
   .rename_i e U;cases h;exact OA.lJ r (bR.extract q w (dY U))
   .cases h
  .cases h
 .rename_i t y f q
  split at h
  .rename_i k j H
   split at h
   .rename_i l off w;cases h;exact OA.lJ r (bR.rW B q w H)
   .rename_i cs w;cases h;exact OA.lJ r (bR.tO B q w H)
   .cases h
  .cases h
 .rename_i t y f q
  split at h
  .rename_i k j H
   split at h
   .rename_i cs w
    split at h
    .rename_i e V;cases h;exact OA.lJ r (bR.field B q w H V)
    .cases h
   .cases h
  .cases h
 .rename_i y q
  split at h
  .rename_i l off w;cases h;exact OA.lJ r (bR.tP q w)
  .rename_i cs w;cases h;exact OA.lJ r (bR.vU q w)
  .cases h
 .rename_i t parts q
  split at h
  .rename_i cs u;cases h;exact OA.lJ r (bR.build B q u)
  .cases h
 .rename_i t n parts q
  split at h
  .rename_i k es u;cases h;exact OA.lJ r (bR.buildSlice B q u)
  .cases h
 .rename_i fn a b q
  split at h
  .rename_i ca A
   split at h
   .rename_i cb F;cases h;exact OA.lJ r (bR.makeFunc q A F)
   .cases h
  .cases h
 .rename_i t x q
  split at h
  .rename_i i hi
   split at h
   .rename_i G
    split at h
    .rename_i c u;cases h;exact OA.lJ r (bR.makeInterface B q hi G u)
    .cases h
   .cases h
  .cases h
 .rename_i x xt t q
  split at h
  .rename_i i hi
   split at h
   .rename_i G
    split at h
    .rename_i c w
     split at h
     .rename_i e b A;cases h;exact OA.lJ r (bR.typeAssert B q hi G w A)
     .cases h
    .cases h
   .cases h
  .cases h
 .cases h
theorem P1(G:dk P T){d:D}{obs:List Prop}(h:WR T φ o=aa (d,obs))(r:ai obs):bR P o (cj φ) σ d σ:=by
 unfold WR at h;split at h
 .rename_i t x y B
  split at h
  .rename_i i hi
   split at h
   .rename_i E F
    split at h
    .rename_i M H
     split at h
     .rename_i l g k q m kk j A J
      split at h
      .rename_i R
       cases h;obtain⟨I,K⟩:0<=j/\j<(m:Int):=r;have e:=bE R;subst e;exact bR.WV G B hi F H A J I K
      .cases h
     .rename_i b off n cap kk j A J
      cases h;obtain⟨I,K⟩:0<=j/\j<(n:Int):=r;exact bR.Bm G B hi F H A J I K
     .cases h
    .cases h
   .cases h
  .cases h
 .rename_i t x f B
  split at h
  .rename_i k j S
   split at h
   .rename_i l g k0 i q A
    cases h;exact bR.P2 G B A S
   .rename_i b off A
    cases h;exact bR.P3 G B A S
   .cases h
  .cases h
 .rename_i x B
  split at h
  .rename_i l g k0 i q A
   cases h;exact bR.WW B A
  .cases h
 .rename_i t x lo hi B
  split at h
  .cases h
  rename_i i C
  split at h
  .cases h
  rename_i lw Z
  split at h
  .cases h
  rename_i u hu
  split at h
  .rename_i E F
   split at h
   .cases h
   rename_i M H
   split at h
   .rename_i l g k q m A
    split at h
    .rename_i R
     cases h;have e:=bE R;subst e;exact bR.sliceB G B C F H A Z hu r
    .cases h
   .cases h
  .cases h
 .rename_i t x y z B
  split at h
  .cases h
  rename_i i C
  split at h
  .rename_i E F
   split at h
   .cases h
   rename_i M H
   split at h
   .rename_i tt k n es kj j Y m A J Q
    cases h;obtain⟨I,K,O⟩:0<=j/\j<=m/\m<=(n:Int):=r;exact bR.slice3 G B C F H (λs v=>mD A σ s v) J Q I K O
   .cases h
  .cases h
 .rename_i t x w y z B
  split at h
  .cases h
  rename_i i C
  split at h
  .rename_i E F
   split at h
   .cases h
   rename_i M H
   split at h
   .rename_i l g k q n kw i kj j Y m A W J Q
    cases h;obtain⟨I,K,O,V⟩:0<=i/\i<=j/\j<=m/\m<=(n:Int):=r;exact bR.slice3B G B C F H A W J Q I K O V
   .cases h
  .cases h
 .rename_i c B
  obtain⟨cal,args,Vw⟩:=c;simp only at h;split at h
  .split at h
   .rename_i x t A U
    split at h
    .rename_i i hi
     split at h
     .rename_i E F
      split at h
      .rename_i l g k q m L
       cases h;have:=vT A;subst this;exact bR.WX G B U hi F L
      .rename_i a n cap L
       cases h;have:=vT A;subst this;exact bR.WY G B U hi F L r
      .cases h
     .cases h
    .cases h
   .cases h
  .cases h
 .cases h
theorem Ge(b:dk P T){t:ar}{x:aq}(q:o.op=.load t x){d:D}{obs:List Prop}(h:zE T φ σ t x=aa (d,obs))(a:ai obs):bR P o (cj φ) σ d σ:=by
 unfold zE at h;split at h
 .rename_i r hi
  split at h
  .rename_i l g k i f m
   split at h
   .rename_i E k' n es hB
    split at h
    .rename_i j
     have e:=bE j;subst e;split at h
     .rename_i e c
      cases h;exact bR.IU b q m a.1 (dY hB) hi c a.2
     .cases h
    .cases h
   .cases h
  .cases h
 .cases h
theorem Dr(m:dk P T){t:ar}{x y:aq}(r:o.op=.store t x y){d:D}{σ':List aW}{obs:List Prop}(h:zJ T φ σ t x y=aa (d,σ',obs))(a:ai obs):bR P o (cj φ) σ d σ':=by
 unfold zJ at h;split at h
 .rename_i v hi
  split at h
  .rename_i l g k i f q
   split at h
   .rename_i E k' n es hB
    split at h
    .rename_i u
     have e:=bE u;subst e;split at h
     .rename_i new hy
      split at h
      .rename_i c
       split at h
       .rename_i cc Ov
        split at h
        .rename_i j
         rw[cZ,lz] at h;cases h;have b:f=0/\cc.length=k':=by
          cases f with
          |zero=>exact⟨rfl,bE j⟩
          |succ f=>simp[IM] at j
         obtain⟨rfl,b⟩:=b;exact bR.IV m r q a.1 (dY hB) hi hy (bE c) Ov (λs=>rX (by rw[s,b])) a.2
        .split at h
         .rename_i ci WZ
          rw[cZ,lz] at h;cases h;exact bR.IV m r q a.1 (dY hB) hi hy (bE c) Ov (λ_=>WZ) a.2
         .cases h
       .cases h
      .cases h
     .cases h
    .cases h
   .cases h
  .cases h
 .cases h
theorem P4(f:dk P T)(m:b5 X CT){d:D}{obs:List Prop}(h:MB T CT φ σ o=aa (d,obs))(c:ai obs)(g:∀ σ s a,cw N σ s φ a->bk o (yielded all.toArray a.tmps)=ab):OA X N all o φ σ d σ:=by
 unfold MB at h;split at h
 .rename_i t y j
  split at h
  .rename_i q b
   cases h;unfold IE at b;split at b
   .rename_i i hi
    split at b
    .rename_i l off hx
     split at b
     .rename_i E cs hB
      split at b
      .rename_i e k;cases b;exact OA.lJ g (bR.E9 f j hx (dY hB) hi k)
      .cases b
     .cases b
    .rename_i cs hx
     split at b
     .rename_i e k;cases b;exact OA.lJ g (bR.IW f j hx hi k)
     .cases b
    .cases b
   .cases b
  .exact OA.lJ g (Ge f j h c)
 .split at h
  .rename_i r n
   cases h;exact PZ f m n c g
  .exact OA.lJ g (P1 f h c)
theorem P5(f:dk P T)(k:b5 X CT){d:D}{σ':List aW}{obs:List Prop}(h:WT T CT φ σ o=aa (d,σ',obs))(b:ai obs)(e:∀ σ s a,cw N σ s φ a->bk o (yielded all.toArray a.tmps)=ab):OA X N all o φ σ d σ':=by
 unfold WT at h;split at h
 .exact OA.lJ e (Ds f h b)
 .exact OA.lJ e (Ds f h b)
 .rename_i t x y m
  split at h
  .rename_i r n
   cases h;exact OA.lJ e (Ds f n b)
  .exact OA.lJ e (Dr f m h b)
 .rename_i c g
  obtain⟨i,args,j⟩:=c;simp only at h;split at h
  .split at h
   .rename_i x y t u q l
    have:=nv q;subst this;have:=nv l;subst this;exact OA.lJ e (MH f g h b)
   .cases h
  .exact OA.call k e g h b
  .cases h
 .cases h
theorem MN(r:dk P T){w:Bool}{C:aq->D}{x y:aq}{t c:ar}{d:D}{σ':List aW}{obs:List Prop}(ho:o.op=.call { callee:=.builtin .append,args:=#[x,y],argTypes:=#[t,c] })
  (h:appW w T C σ x y t c=aa (d,σ',obs)) (b:ai obs):bR P o C σ d σ':=by
 unfold appW at h;split at h
 .cases h
 rename_i i hi
 split at h
 .cases h
 rename_i i2 IP
 split at h
 case h_2=>cases h
 rename_i E hE
 split at h
 case h_2=>cases h
 rename_i Y e
 split at h
 .cases h
 rename_i q
 have Z:=bE q;subst Z;split at h
 .cases h
 rename_i I A
 split at h
 case h_2=>cases h
 rename_i u z
 have a:mr P o x y Y I:=⟨⟨t,c,i,i2,ho,r t i hi,hE,r c i2 IP,e⟩,r _ _ A,by have:=dn u;omega,by have:=dn z;omega⟩
 split at h
 .split at h
  .cases h
  rename_i tx k' m es' hy
  split at h
  .cases h
  rename_i f
  have W:=bE f;subst W;split at h
  .rename_i k n es hx
   split at h
   .rename_i U
    have S:=bE U;subst S;rw[cZ] at h;cases h;exact bR.F2 a hx (λs v=>mD hy _ s v) b
   .cases h
  .cases h
 .split at h
  .rename_i l g k i l' g' k' j m hx hy
   split at h
   .cases h
   rename_i B
   have el:=bE B;subst el;split at h
   .rename_i E' k2 n es hl
    split at h
    .rename_i M J q3 F
     have Q:=bE M;have R:=bE J;have H:=bE q3;have G:=bE F;rw[cZ] at h;cases h;obtain⟨O,K,L,V⟩:=b;subst O K Q R H G;have:=bR.H7 (σ:=σ) a hx hy (dY hl) L V;rw[<-lz] at this;exact this
    .cases h
   .cases h
  .cases h
theorem P6(e:dk P T)(j:b5 X CT){ds:List (Nat×Bool)}{d:D}{σ':List aW}{obs:List Prop}(h:Tl ds T CT φ σ o=aa (d,σ',obs))(b:ai obs)(f:∀ σ s a,cw N σ s φ a->bk o (yielded all.toArray a.tmps)=ab):OA X N all o φ σ d σ':=by
 have key:∀ w,VE w T φ σ o=aa (d,σ',obs)->OA X N all o φ σ d σ':=by
  intro w h;unfold VE at h;split at h
  .rename_i c n
   obtain⟨g,args,i⟩:=c;simp only at h;split at h
   .split at h
    .rename_i x y t q m k
     have:=nv m;subst this;have:=nv k;subst this;exact OA.lJ f (MN e n h b)
    .cases h
   .cases h
  .cases h
 unfold Tl at h;split at h
 .exact key _ h
 .split at h
  .rename_i r l
   cases h;exact P5 e j l b f
  .exact key _ h
theorem hY(q:dk P T)(v:b5 X CT){ds:List (Nat×Bool)}{d:D}{σ':Option (List aW)}{obs:List Prop}(h:E4 T CT ds all φ σ o=aa (d,σ',obs))(g:ai obs):OA X N all o φ σ d (σ'.getD σ):=by
 have go:(∀ σ s a,cw N σ s φ a->bk o (yielded all.toArray a.tmps)=ab)->(match MB T CT φ σ o with
  |some (x,obs)=>match IJ ds o.dst x obs with
   |some (y,m)=>oh y λy=>aa (y,af,m)
   |none=>af
  |none=>match Wy ds o.dst with
   |true=>match WU T φ o with
    |some (x,obs)=>oh x λx=>aa (x,af,obs)
    |none=>af
   |false=>match Tl ds T CT φ σ o with
    |some (x,σ',obs)=>oh x λx=>aa (x,aa σ',obs)
    |none=>af)=aa (d,σ',obs)->OA X N all o φ σ d (σ'.getD σ):=by
  intro r h;split at h
  .rename_i x k z
   split at h
   .rename_i y w G
    rw[nk] at h;cases h;obtain⟨rfl,C⟩:=MF G g;exact P4 q v z C r
   .cases h
  .split at h
   .split at h
    .rename_i x k e
     rw[nk] at h;cases h;unfold WU at e;split at e
     .rename_i c H
      obtain⟨E,args,F⟩:=c;simp only at e;split at e
      .split at e
       .rename_i x y t I B A
        have:=nv B;subst this;have:=nv A;subst this;exact MG q r H e g
       .cases e
      .cases e
     .cases e
    .cases h
   .split at h
    .rename_i x σ1 k e
     rw[nk] at h;cases h;exact P6 q v e g r
    .cases h
 unfold E4 at h;simp only at h;split at h
 .rename_i i
  exact go (λ_ _ _ _=>dJ i) h
 .rename_i j b i
  split at h
  .rename_i u l
   have n:∀ σ s a,cw N σ s φ a->bk o (yielded all.toArray a.tmps)=(aa u==aa b):=λσ s a f=>by simp only[bk,i,pY l f]
   split at h
   .exact go (λσ s a f=>(n σ s a f).trans rfl) h
   .exact go (λσ s a f=>(n σ s a f).trans rfl) h
   .cases h;refine OA.pass (λσ s a f=>(n σ s a f).trans ?_)
    cases b <;> cases u <;> simp_all
  .rename_i l
   cases h;exact OA.pass (λσ s a f=>by simp only[bk,i,pY l f];rfl)
  .cases h
end
def HU(φ:Fr)(o:av):Bool:=match o.op with
 |.load _ x=>match cj φ x with
  |.e (.one (.c (.rp _)))=>ae
  |_=>ab
 |_=>ae
theorem ID{T:List (Nat×TI)}{CT:List (Nat×dC)}{φ:Fr}{σ σ2:List aW}{o:av}(h:HU φ o=ae):MB T CT φ σ o=MB T CT φ σ2 o:=by
 unfold MB;split
 .rename_i t x a
  simp only[HU,a] at h;split at h
  .rename_i cs hx
   simp only[IE,zE,hx]
  .cases h
 .rfl
theorem IF{T:List (Nat×TI)}{CT:List (Nat×dC)}{ds:List (Nat×Bool)}{all:List av}{φ:Fr}{σ:List aW}{o:av}{d:D}{obs:List Prop}(h:HU φ o=ae)(a:E4 T CT ds all φ σ o=aa (d,af,obs))(σ2:List aW) :
  E4 T CT ds all φ σ2 o=aa (d,af,obs):=by
 unfold E4 at a ⊢;simp only at a ⊢;rw[ID (σ2:=σ) h];cases f:MB T CT φ σ o with
 |some r=>simp only[f] at a ⊢;exact a
 |none =>
  simp only[f] at a ⊢;cases c:Wy ds o.dst with
  |true=>simp only[c] at a ⊢;exact a
  |false =>
   simp only[c] at a ⊢;have key:∀ {y:Option (D×Option (List aW)×List Prop)},(match Tl ds T CT φ σ o with|some (x,σ',obs)=>oh x λx=>aa (x,aa σ',obs)|none=>af)=y->y≠aa (d,af,obs):=by
    intro y b e;subst e;split at b
    .rw[nk] at b;cases b
    .cases b
   split at a
   .exact absurd rfl (key a)
   .split at a
    .split at a
     .exact absurd rfl (key a)
     .exact absurd rfl (key a)
     .exact a
    .exact a
    .cases a
def oY(t:Nat):List av->Bool
 |[]=>ae
 |o::r=>match o.dst with
  |some d=>match aA d t with|true=>ab|false=>oY t r
  |none=>oY t r
theorem rP{t:Nat}:∀ {l:List av}{i:Nat}{o:av},l[i]?=aa o->o.dst=aa t->oY t l=ab
 |[],_,_,h,_=>by simp at h
 |p::r,0,o,h,a=>by
  simp at h;subst h;simp[oY,a,jI]
 |p::r,i+1,o,h,a=>by
  have:=rP (l:=r) (by simpa using h) a
  simp only[oY];split
  .split <;> simp[this]
  .exact this
theorem pV{t:Nat}:∀ {l:List av},oY t l=ab->∃ (i:Nat)(o:av),l[i]?=aa o/\o.dst=aa t
 |[],h=>by cases h
 |p::r,h=>by
  simp only[oY] at h;split at h
  .rename_i d e
   split at h
   .rename_i c
    exact⟨0,p,rfl,by rw[e,bE c]⟩
   .obtain⟨i,o,b,a⟩:=pV h;exact⟨i+1,o,by simpa using b,a⟩
  .obtain⟨i,o,b,a⟩:=pV h;exact⟨i+1,o,by simpa using b,a⟩
def nn:List av->Bool
 |[]=>ab
 |o::r=>match o.dst with
  |some d=>match oY d r with|true=>ae|false=>nn r
  |none=>nn r
theorem sS{t:Nat}:∀ {l:List av}{i j:Nat}{o p:av},nn l=ab->l[i]?=aa o->l[j]?=aa p->o.dst=aa t->p.dst=aa t->i=j
 |[],_,_,_,_,_,h,_,_,_=>by simp at h
 |q::r,0,0,_,_,_,_,_,_,_=>rfl
 |q::r,0,j+1,o,p,a,c,b,d1,d2=>by
  simp at c;subst c;simp only[nn,d1] at a;rw[rP (l:=r) (by simpa using b) d2] at a
  cases a
 |q::r,i+1,0,o,p,a,c,b,d1,d2=>by
  simp at b;subst b;simp only[nn,d2] at a;rw[rP (l:=r) (by simpa using c) d1] at a
  cases a
 |q::r,i+1,j+1,o,p,a,c,b,d1,d2=>by
  have:nn r=ab:=by
   simp only[nn] at a;split at a
   .split at a
    .cases a
    .exact a
   .exact a
  have f:r[i]?=aa o:=by simpa using c
  have d:r[j]?=aa p:=by simpa using b
  have e:=sS this f d d1 d2;omega
def uz(all:List av):Fr->Fr
 |[]=>[]
 |(t,d)::r=>match oY t all with|true=>uz all r|false=>(t,d)::uz all r
theorem lI{all:List av}{t:Nat}:∀ {φ:Fr},look (uz all φ) t=if oY t all=ab then .any else look φ t
 |[]=>by simp[uz,look]
 |(u,d)::r=>by
  simp only[uz]
  by_cases c:aA u t=ab
  .have e:=bE c;subst e;cases b:oY u all with
   |true=>simp only;rw[lI];simp[b]
   |false=>simp[look]
  .have a:aA u t=ae:=by cases h:aA u t with|true=>exact absurd h c|false=>rfl
   cases b:oY u all with
   |true=>simp only;rw[lI];simp[look,a]
   |false=>simp only[look,a,cond];rw[lI]
def b6:List Edge->List Nat
 |[]=>[]
 |e::r=>match e.ground with
  |.textOnly _=>b6 r
  |.gcOnly _=>b6 r
  |_=>e.on::b6 r
theorem eJ{j:Nat}:∀ {l:List Edge},j∈b6 l↔∃ e∈l,de e=ab/\e.on=j
 |[]=>by simp[b6]
 |e::r=>by
  have k:=eJ (j:=j) (l:=r);have yes:b6 (e::r)=e.on::b6 r->de e=ab->(j∈b6 (e::r)↔∃ d∈e::r,de d=ab/\d.on=j):=by
   intro i g;rw[i,ew,k]
   constructor
   .rintro(h|⟨d,a,b,c⟩)
    .exact⟨e,me,g,h.symm⟩
    .exact⟨d,j9 _ a,b,c⟩
   .rintro⟨d,a,b,c⟩;rcases ew.1 a with rfl|a
    .exact .inl c.symm
    .exact .inr ⟨d,a,b,c⟩
  have no:b6 (e::r)=b6 r->de e=ae->(j∈b6 (e::r)↔∃ d∈e::r,de d=ab/\d.on=j):=by
   intro i g;rw[i,k]
   constructor
   .rintro⟨d,a,b,c⟩;exact⟨d,j9 _ a,b,c⟩
   .rintro⟨d,a,b,c⟩;rcases ew.1 a with rfl|a
    .rw[g] at b;cases b
    .exact⟨d,a,b,c⟩
  cases f:e.ground with
  |textOnly w=>exact no (by simp only[b6,f]) (by unfold de Region.binds;rw[f];rfl)
  |gcOnly w=>exact no (by simp only[b6,f]) (by unfold de Region.binds;rw[f];rfl)
  |_=>exact yes (by simp only[b6,f]) (by unfold de Region.binds;rw[f])
def uA(i t:Nat):List av->Bool
 |[]=>ae
 |o::r=>match o.dst with
  |some d=>match aA d t with
   |true=>match hX i (b6 o.after.toList) with
    |true=>uA i t r
    |false=>ab
   |false=>uA i t r
  |none=>uA i t r
theorem vO{i t:Nat}:∀ {l:List av},uA i t l=ae->∀ (j:Nat)(o:av),l[j]?=aa o->o.dst=aa t->hX i (b6 o.after.toList)=ab
 |[],_,j,o,h,_=>by simp at h
 |p::r,h,0,o,a,b=>by
  simp at a;subst a;simp only[uA,b,jI] at h;cases c:hX i (b6 p.after.toList) with
  |true=>rfl
  |false=>simp[c] at h
 |p::r,h,j+1,o,a,b=>by
  have:uA i t r=ae:=by
   simp only[uA] at h;split at h
   .split at h
    .split at h
     .exact h
     .cases h
    .exact h
   .exact h
  exact vO this j o (by simpa using a) b
def oZ(all:List av):Fr->List (Nat×D×Bool)
 |[]=>[]
 |(t,d)::r=>match oY t all with
  |true=>(t,d,ab)::oZ all r
  |false=>(t,d,ae)::oZ all r
def kM(i:Nat)(all:List av):List (Nat×D×Bool)->Fr
 |[]=>[]
 |(t,d,b)::r=>match b with
  |false=>(t,d)::kM i all r
  |true=>match uA i t all with
   |true=>kM i all r
   |false=>(t,d)::kM i all r
theorem x6{i:Nat}{all:List av}{t:Nat}:∀ {φ:Fr},look (kM i all (oZ all φ)) t=if oY t all=ab/\uA i t all=ab then .any else look φ t
 |[]=>by simp[oZ,kM,look]
 |(u,d)::r=>by
  have h:=x6 (i:=i) (all:=all) (t:=t) (φ:=r);have c:look ((u,d)::kM i all (oZ all r)) t=if aA u t=ab then d else look (kM i all (oZ all r)) t:=by
   simp only[look];cases aA u t <;> rfl
  have a:look ((u,d)::r) t=if aA u t=ab then d else look r t:=by simp only[look];cases aA u t <;> rfl
  cases f:oY u all with
  |false =>
   simp only[oZ,f,kM];rw[c,a,h]
   by_cases b:aA u t=ab
   .have e:=bE b;subst e;simp[f]
   .simp[b]
  |true =>
   cases g:uA i u all with
   |true =>
    simp only[oZ,f,kM,g];rw[a,h]
    by_cases b:aA u t=ab
    .have e:=bE b;subst e;simp[f,g]
    .simp[b]
   |false =>
    simp only[oZ,f,kM,g];rw[c,a,h]
    by_cases b:aA u t=ab
    .have e:=bE b;subst e;simp[g]
    .simp[b]
def js(m:Nat->Bool):Nat->List (Option Nat×D)->Fr->Fr
 |_,[],φ=>φ
 |i,(d,x)::r,φ=>match m i with
  |true=>match d with
   |some t=>(t,x)::js m (i+1) r φ
   |none=>js m (i+1) r φ
  |false=>js m (i+1) r φ
theorem nq{m:Nat->Bool}{φ:Fr}{t:Nat}:∀ {l:List (Option Nat×D)}{i:Nat},(∃ j x,l[j]?=aa (aa t,x)/\m (i+j)=ab/\look (js m i l φ) t=x)∨look (js m i l φ) t=look φ t
 |[],i=>.inr rfl
 |(d,x)::r,i=>by
  have n:=nq (m:=m) (φ:=φ) (t:=t) (l:=r) (i:=i+1);have step:look (js m i ((d,x)::r) φ) t=look (js m (i+1) r φ) t->((∃ j b,((d,x)::r)[j]?=aa (aa t,b)/\m (i+j)=ab/\look (js m i ((d,x)::r) φ) t=b)∨look (js m i ((d,x)::r) φ) t=look φ t):=by
   intro e;rw[e];rcases n with⟨j,b,o,g,k⟩|h
   .exact .inl ⟨j+1,b,by simpa using o,by rw[show i+(j+1)=i+1+j by omega];exact g,k⟩
   .exact .inr h
  cases a:m i with
  |false=>exact step (by simp[js,a])
  |true =>
   cases d with
   |none=>exact step (by simp[js,a])
   |some u =>
    by_cases f:aA u t=ab
    .have e:=bE f;subst e;exact .inl ⟨0,x,rfl,by simpa using a,by simp[js,a,look]⟩
    .have c:aA u t=ae:=by cases h:aA u t with|true=>exact absurd h f|false=>rfl
     exact step (by simp[js,a,look,c])
structure C4 where
 i:Nat
 pre:List (Option Nat×D)
 σ:List aW
 cls:List (List Bool)
 zF:List Bool
 MC:List Bool
 obs:List Prop
def Sx(i:Nat):List Nat->Bool
 |[]=>ab
 |k::r=>match Nat.blt k i with|true=>Sx i r|false=>ae
theorem Dl{i:Nat}:∀ {l:List Nat},Sx i l=ab->∀ k∈l,k<i
 |[],_,k,h=>by simp at h
 |x::r,h,k,a=>by
  simp only[Sx] at h;cases b:Nat.blt x i with
  |false=>simp[b] at h
  |true =>
   simp only[b] at h;rcases ew.1 a with rfl|a
   .exact dn b
   .exact Dl h k a
def bit:List Bool->Nat->Bool
 |[],_=>ae
 |b::_,0=>b
 |_::r,n+1=>bit r n
def xy:List Bool->List Bool->List Bool
 |[],b=>b
 |true::a,[]=>ab::a
 |false::a,[]=>ae::a
 |true::a,_::b=>ab::xy a b
 |false::a,ab::b=>ab::xy a b
 |false::a,ae::b=>ae::xy a b
theorem mz:∀ {a b:List Bool}{j:Nat},bit (xy a b) j=(bit a j||bit b j)
 |[],b,j=>by simp[xy,bit]
 |true::a,[],j=>by simp[xy,bit]
 |false::a,[],j=>by simp[xy,bit]
 |true::a,c::b,0=>by simp[xy,bit]
 |true::a,c::b,j+1=>by simp only[xy,bit];exact mz
 |false::a,ab::b,0=>by simp[xy,bit]
 |false::a,ab::b,j+1=>by simp only[xy,bit];exact mz
 |false::a,ae::b,0=>by simp[xy,bit]
 |false::a,ae::b,j+1=>by simp only[xy,bit];exact mz
def sT:Nat->List Bool
 |0=>[ab]
 |n+1=>ae::sT n
theorem rQ:∀ {n j:Nat},bit (sT n) j=decide (n=j)
 |0,0=>rfl
 |0,j+1=>by simp[sT,bit]
 |n+1,0=>by simp[sT,bit]
 |n+1,j+1=>by simp only[sT,bit,rQ];simp
def E5(a:List (List Bool)):List Nat->List Bool
 |[]=>[]
 |e::r=>match fZ e a with
  |some c=>xy (xy c (sT e)) (E5 a r)
  |none=>xy (sT e) (E5 a r)
theorem zG{b:List (List Bool)}{j:Nat}:∀ {l:List Nat},bit (E5 b l) j=ab->∃ e∈l,e=j∨∃ c,b[e]?=aa c/\bit c j=ab
 |[],h=>by simp[E5,bit] at h
 |e::r,h=>by
  simp only[E5,fi] at h;have d:∀ {a:Nat},bit (sT e) a=ab->e=a:=by
   intro a h;rw[rQ] at h;simpa using h
  have rest:bit (E5 b r) j=ab->∃ f∈e::r,f=j∨∃ c,b[f]?=aa c/\bit c j=ab:=by
   intro h;obtain⟨f,k,g⟩:=zG h;exact⟨f,j9 _ k,g⟩
  split at h
  .rename_i c i
   rw[mz,mz,lN,lN] at h;rcases h with(h|h)|h
   .exact⟨e,by simp,.inr ⟨c,i,h⟩⟩
   .exact⟨e,by simp,.inl (d h)⟩
   .exact rest h
  .rw[mz,lN] at h;rcases h with h|h
   .exact⟨e,by simp,.inl (d h)⟩
   .exact rest h
def sU:List Bool->List Bool->Bool
 |[],_=>ab
 |true::a,ab::b=>sU a b
 |true::_,_=>ae
 |false::a,_::b=>sU a b
 |false::a,[]=>sU a []
theorem pW:∀ {a b:List Bool}{j:Nat},sU a b=ab->bit a j=ab->bit b j=ab
 |[],b,j,_,d=>by simp[bit] at d
 |true::a,ab::b,0,_,_=>rfl
 |true::a,ab::b,j+1,h,d=>by simp only[bit] at d ⊢;exact pW (by simpa[sU] using h) d
 |true::a,ae::b,j,h,_=>by simp[sU] at h
 |true::a,[],j,h,_=>by simp[sU] at h
 |false::a,c::b,0,_,d=>by simp[bit] at d
 |false::a,c::b,j+1,h,d=>by simp only[bit] at d ⊢;exact pW (by simpa[sU] using h) d
 |false::a,[],0,_,d=>by simp[bit] at d
 |false::a,[],j+1,h,d=>by
  simp only[bit] at d;have:=pW (j:=j) (by simpa[sU] using h) d
  simp[bit] at this
def rR(T:List (Nat×TI))(CT:List (Nat×dC))(N:Nat)(ds:List (Nat×Bool))(all:List av)(φm:List (Nat×D×Bool))(st:C4)(o:av):Option C4 :=
 match iP N o.dst with
 |false=>af
 |true =>
  dj (b6 o.after.toList) λes =>
  match Sx st.i es with
  |false=>af
  |true=>match E4 T CT ds all (js (λj=>hX j es) 0 st.pre (kM st.i all φm)) st.σ o with
   |none=>af
   |some (x,σ',obs) =>
    dj (E5 st.cls es) λa =>
    match σ',HU (js (λj=>hX j es) 0 st.pre (kM st.i all φm)) o with
    |none,ae=>dj (st.pre++[(o.dst,x)]) λpre=>dj (st.cls++[a]) λcls=>dj (kl obs st.obs) λobs=>aa ⟨st.i+1,pre,st.σ,cls,st.zF,st.MC,obs⟩
    |none,ab=>match sU st.zF a with
     |true=>dj (st.pre++[(o.dst,x)]) λpre=>dj (st.cls++[a]) λcls=>dj (kl obs st.obs) λobs=>dj (xy st.MC (sT st.i)) λb=>aa ⟨st.i+1,pre,st.σ,cls,st.zF,b,obs⟩
     |false=>af
    |some σ',_=>match sU st.MC a with
     |true=>dj (st.pre++[(o.dst,x)]) λpre=>dj (st.cls++[a]) λcls=>dj (kl obs st.obs) λobs=>dj (xy st.MC (sT st.i)) λb=>dj (xy st.zF (sT st.i)) λc=>aa ⟨st.i+1,pre,σ',cls,c,b,obs⟩
     |false=>af
def MD(T:List (Nat×TI))(CT:List (Nat×dC))(N:Nat)(ds:List (Nat×Bool))(all:List av)(φm:List (Nat×D×Bool)):List av->C4->Option C4
 |[],st=>aa st
 |o::r,st=>match rR T CT N ds all φm st o with
  |some qn=>MD T CT N ds all φm r qn
  |none=>af
def E6(T:List (Nat×TI))(CT:List (Nat×dC))(N:Nat)(ds:List (Nat×Bool))(all:List av)(φ:Fr)(σ:List aW):Option (Fr×List aW×List Prop) :=
 match nn all with
 |false=>af
 |true=>dj (oZ all φ) λφm=>match MD T CT N ds all φm all ⟨0,[],σ,[],[],[],[]⟩ with
  |some st=>dj (js (λ_=>ab) 0 st.pre (uz all φ)) λa=>aa (a,st.σ,st.obs)
  |none=>af
end Go.AM
namespace Go.AM
open Go.Conc (G)
def ja:av:=⟨af,.move (.tmp 0),0,"",#[],af⟩
section
variable (T:List (Nat×TI))(CT:List (Nat×dC))(N:Nat)(ds:List (Nat×Bool))(all:List av)(φm:List (Nat×D×Bool))
def xz(st:C4):Nat->C4
 |0=>st
 |i+1=>(rR T CT N ds all φm (xz st i) (all.getD i ja)).getD (xz st i)
def LX(st:C4)(i:Nat):Fr:=js (λj=>hX j (b6 (all.getD i ja).after.toList)) 0 (xz T CT N ds all φm st i).pre (kM (xz T CT N ds all φm st i).i all φm)
def E7(st:C4)(i:Nat):Option (D×Option (List aW)×List Prop):=E4 T CT ds all (LX T CT N ds all φm st i) (xz T CT N ds all φm st i).σ (all.getD i ja)
def xD(st:C4)(i:Nat):D:=match E7 T CT N ds all φm st i with|some (x,_,_)=>x|none=>.any
def oK(st:C4)(i:Nat):Bool:=match E7 T CT N ds all φm st i with|some (_,aa _,_)=>ab|_=>ae
def tN(st:C4)(i:Nat):Bool:=!HU (LX T CT N ds all φm st i) (all.getD i ja)&&!oK T CT N ds all φm st i
def OD(st:C4)(i:Nat):List Bool:=E5 (xz T CT N ds all φm st i).cls (b6 (all.getD i ja).after.toList)
end
section
variable {T:List (Nat×TI)}{CT:List (Nat×dC)}{N:Nat}{ds:List (Nat×Bool)}{all:List av}{φm:List (Nat×D×Bool)}
structure IG (T:List (Nat×TI))(CT:List (Nat×dC))(N:Nat)(ds:List (Nat×Bool))(all:List av)(φm:List (Nat×D×Bool))(st qn:C4)(o:av)(x:D)(σ':Option (List aW))(obs:List Prop):Prop where
 dst:iP N o.dst=ab
 lt:Sx st.i (b6 o.after.toList)=ab
 op:E4 T CT ds all (js (λj=>hX j (b6 o.after.toList)) 0 st.pre (kM st.i all φm)) st.σ o=aa (x,σ',obs)
 i:qn.i=st.i+1
 pre:qn.pre=st.pre++[(o.dst,x)]
 cls:qn.cls=st.cls++[E5 st.cls (b6 o.after.toList)]
 σ:qn.σ=σ'.getD st.σ
 obs:qn.obs=kl obs st.obs
 eff:qn.zF=if σ'.isSome=ab then xy st.zF (sT st.i) else st.zF
 nf:qn.MC=if (HU (js (λj=>hX j (b6 o.after.toList)) 0 st.pre (kM st.i all φm)) o||σ'.isSome)=ab then xy st.MC (sT st.i) else st.MC
 load:HU (js (λj=>hX j (b6 o.after.toList)) 0 st.pre (kM st.i all φm)) o=ab->σ'.isSome=ae->sU st.zF (E5 st.cls (b6 o.after.toList))=ab
 k5:σ'.isSome=ab->sU st.MC (E5 st.cls (b6 o.after.toList))=ab
theorem Bi{st qn:C4}{o:av}(h:rR T CT N ds all φm st o=aa qn):∃ x σ' obs,IG T CT N ds all φm st qn o x σ' obs:=by
 unfold rR at h;split at h
 .cases h
 rename_i d
 simp only[cZ] at h;split at h
 .cases h
 rename_i a
 split at h
 .cases h
 rename_i x σ' obs gT
 refine⟨x,σ',obs,?_⟩;cases σ' with
 |none =>
  cases b:HU (js (λj=>hX j (b6 o.after.toList)) 0 st.pre (kM st.i all φm)) o with
  |false =>
   simp only[b,cZ] at h;cases h;exact⟨d,a,gT,rfl,rfl,rfl,rfl,rfl,by simp,by simp[b],by simp[b],by simp⟩
  |true =>
   simp only[b,cZ] at h;split at h
   .rename_i c
    cases h;exact⟨d,a,gT,rfl,rfl,rfl,rfl,rfl,by simp,by simp[b],λ_ _=>c,by simp⟩
   .cases h
 |some σ' =>
  simp only[cZ] at h;split at h
  .rename_i c
   cases h;exact⟨d,a,gT,rfl,rfl,rfl,rfl,rfl,by simp,by simp,by simp,λ_=>c⟩
  .cases h
theorem E8{st sf:C4}:∀ {rest:List av}{k:Nat},(∀ i,rest[i]?=all[k+i]?)->MD T CT N ds all φm rest (xz T CT N ds all φm st k)=aa sf ->
  (∀ i o,rest[i]?=aa o->rR T CT N ds all φm (xz T CT N ds all φm st (k+i)) o=aa (xz T CT N ds all φm st (k+i+1)))/\xz T CT N ds all φm st (k+rest.length)=sf
 |[],k,_,h=>by
  cases h;exact⟨by simp,rfl⟩
 |p::r,k,c,h=>by
  simp only[MD] at h;have f:all[k]?=aa p:=by have:=c 0;simpa using this.symm
  split at h
  .rename_i b a
   have e:xz T CT N ds all φm st (k+1)=b:=by
    simp only[xz,ag,f,dG,a]
   rw[<-e] at h;obtain⟨g,d⟩:=E8 (rest:=r) (k:=k+1) (λi=>by have:=c (i+1);simpa[lr,kC 1] using this) h
   refine⟨λi o hi=>?_,by rw[<-d];congr 1;simp;omega⟩
   cases i with
   |zero=>simp at hi;subst hi;simpa[e] using a
   |succ i =>
    have:=g i o (by simpa using hi)
    rw[show k+(i+1)=k+1+i by omega]
    exact this
  .cases h
theorem IH{j:Nat}:∀ {l:List Nat},hX j l=ab->j∈l:=by
 intro l
 induction l with
 |nil=>intro h;cases h
 |cons a r c =>
  intro h;simp only[hX] at h;cases b:aA j a with
  |true=>rw[bE b];exact me
  |false=>simp[b] at h;exact j9 _ (c h)
theorem II{P:an}{X:Cx P}(hf:P.follows Departure.mixedOrders=ab)(hT:dk P T)(hC:b5 X CT){ops:Array av}{φ φ':Fr}{σ σ':List aW}{obs:List Prop}(h:E6 T CT N ds ops.toList φ σ=aa (φ',σ',obs))(Wz:ai obs){Q:Post}(hQ:Q .normal φ' σ')(id:Nat) :
  AW X N (.region id ops ab) Q φ σ:=by
 unfold E6 at h;split at h
 .cases h
 rename_i Tm
 rw[cZ] at h;split at h
 case h_2=>cases h
 rename_i sf rK
 rw[cZ] at h;cases h;generalize V:ops.toList=all at *;generalize WA:oZ all φ=φm at *;have u:∀ i:Nat,ops[i]?=all[i]?:=λi=>by rw[<-V,rh]
 have HR:ops.size=all.length:=by rw[<-V];simp
 let g:C4:=⟨0,[],σ,[],[],[],[]⟩
 obtain⟨j3,I⟩:=E8 (T:=T) (CT:=CT) (N:=N) (ds:=ds) (φm:=φm) (st:=g) (rest:=all) (k:=0) (λi=>by simp) rK
 simp only[bm] at j3 I
 let F:=xz T CT N ds all φm g
 have n:∀ i o,all[i]?=aa o->all.getD i ja=o:=λi o h=>by simp[ag,h]
 have WB:∀ i o,all[i]?=aa o->LX T CT N ds all φm g i=(js (λj=>hX j (b6 (o).after.toList)) 0 (F i).pre (kM (F i).i all φm)):=λi o h=>by
  unfold LX;rw[n i o h]
 have facts:∀ i o,all[i]?=aa o->∃ O,IG T CT N ds all φm (F i) (F (i+1)) o (xD T CT N ds all φm g i) (if oK T CT N ds all φm g i=ab then aa (F (i+1)).σ else af) O:=by
  intro i o r;obtain⟨x,σ1,O,q⟩:=Bi (j3 i o r);have R:=q.op;have hR:E7 T CT N ds all φm g i=aa (x,σ1,O):=by
   unfold E7 LX;rw[n i o r];exact R
  have hx:xD T CT N ds all φm g i=x:=by unfold xD;rw[hR]
  cases σ1 with
  |none =>
   have z:oK T CT N ds all φm g i=ae:=by unfold oK;rw[hR]
   exact⟨O,by rw[hx,z];exact q⟩
  |some σ2 =>
   have z:oK T CT N ds all φm g i=ab:=by unfold oK;rw[hR]
   have WC:(F (i+1)).σ=σ2:=q.σ;exact⟨O,by rw[hx,z,aU rfl,WC];exact q⟩
 have U:∀ i,i<=all.length->(F i).i=i:=by
  intro i
  induction i with
  |zero=>intro _;rfl
  |succ i H =>
   intro hi;obtain⟨_,q⟩:=facts i _ (aR (by omega))
   rw[q.i,H (by omega)]
 have Tn:∀ i,i<=all.length->∀ j,(F i).pre[j]?=if j<i then (all[j]?).map (λo=>(o.dst,xD T CT N ds all φm g j)) else af:=by
  intro i
  induction i with
  |zero=>intro _ j;simp[F,xz,g]
  |succ i H =>
   intro hi j;obtain⟨_,q⟩:=facts i _ (aR (by omega))
   have hlen:(F i).pre.length=i:=by
    apply Nat.le_antisymm
    .apply Nat.le_of_not_lt
     intro C;have:=H (by omega) i
     rw[aO (by omega),uM] at this
     omega
    .cases i with
     |zero=>omega
     |succ k =>
      have:=H (by omega) k
      rw[aU (by omega),aR (by omega:k<all.length)] at this
      exact(bt.1 this).1
   rw[q.pre]
   by_cases J:j<i
   .rw[b7 (by omega),H (by omega) j,aU J,aU (by omega)]
   .rw[dg (by omega)]
    by_cases e:j=i
    .subst e;simp[hlen,aR (by omega:j<all.length)]
    .rw[aO (by omega),eU (by simp;omega)]
 have WE:∀ i,i<=all.length->∀ j,(F i).cls[j]?=if j<i then aa (OD T CT N ds all φm g j) else af:=by
  intro i
  induction i with
  |zero=>intro _ j;simp[F,xz,g]
  |succ i H =>
   intro hi j;obtain⟨_,q⟩:=facts i _ (aR (by omega))
   have hlen:(F i).cls.length=i:=by
    apply Nat.le_antisymm
    .apply Nat.le_of_not_lt
     intro C;have:=H (by omega) i
     rw[aO (by omega),uM] at this
     omega
    .cases i with
     |zero=>omega
     |succ k =>
      have:=H (by omega) k
      rw[aU (by omega)] at this
      exact(bt.1 this).1
   rw[q.cls]
   by_cases J:j<i
   .rw[b7 (by omega),H (by omega) j,aU J,aU (by omega)]
   .rw[dg (by omega)]
    by_cases e:j=i
    .subst e;rw[aU (by omega),hlen,pJ]
     simp only[kZ,OD,n j _ (aR (by omega:j<all.length))]
     rfl
    .rw[aO (by omega),eU (by simp;omega)]
 have WG:∀ i,i<=all.length->∀ j,bit (F i).zF j=(decide (j<i)&&oK T CT N ds all φm g j):=by
  intro i
  induction i with
  |zero=>intro _ j;simp[F,xz,g,bit]
  |succ i H =>
   intro hi j;obtain⟨_,q⟩:=facts i _ (aR (by omega))
   rw[q.eff];cases z:oK T CT N ds all φm g i with
   |false =>
    simp only[gi,bH,Option.isSome_none];rw[H (by omega) j]
    by_cases e:j=i
    .subst e;simp[z]
    .have:(j<i+1)↔j<i:=by omega
     simp[this]
   |true =>
    simp only[bO,Option.isSome_some];rw[mz,H (by omega) j,rQ,U i (by omega)]
    by_cases e:j=i
    .subst e;simp[z]
    .have:(j<i+1)↔j<i:=by omega
     have B:¬i=j:=λh=>e h.symm
     simp[this,B]
 have Zo:∀ i,i<=all.length->∀ j,bit (F i).MC j=(decide (j<i)&&!tN T CT N ds all φm g j):=by
  intro i
  induction i with
  |zero=>intro _ j;simp[F,xz,g,bit]
  |succ i H =>
   intro hi j;obtain⟨_,q⟩:=facts i _ (aR (by omega))
   have To:(if oK T CT N ds all φm g i=ab then aa (F (i+1)).σ else af).isSome=oK T CT N ds all φm g i:=by cases oK T CT N ds all φm g i <;> rfl
   have LU:tN T CT N ds all φm g i=!(HU (js (λj=>hX j (b6 (all[i]'(by omega)).after.toList)) 0 (F i).pre (kM (F i).i all φm)) (all[i]'(by omega))||oK T CT N ds all φm g i):=by
    unfold tN;rw[WB i _ (aR (by omega)),n i _ (aR (by omega))]
    simp
   rw[q.nf,To];cases z:(HU (js (λj=>hX j (b6 (all[i]'(by omega)).after.toList)) 0 (F i).pre (kM (F i).i all φm)) (all[i]'(by omega))||oK T CT N ds all φm g i) with
   |false =>
    simp only[gi,bH];rw[H (by omega) j]
    by_cases e:j=i
    .subst e;simp[LU,z]
    .have:(j<i+1)↔j<i:=by omega
     simp[this]
   |true =>
    simp only[bO];rw[mz,H (by omega) j,rQ,U i (by omega)]
    by_cases e:j=i
    .subst e;simp[LU,z]
    .have:(j<i+1)↔j<i:=by omega
     have B:¬i=j:=λh=>e h.symm
     simp[this,B]
 have Tp:∀ i,i<=all.length->ai (F i).obs:=by
  have back:∀ k i,i+k=all.length->ai (F i).obs:=by
   intro k
   induction k with
   |zero =>
    intro i hi;have:F i=sf:=by rw[<-I];simp[F,<-hi]
    rw[this];exact Wz
   |succ k H =>
    intro i hi;obtain⟨_,q⟩:=facts i _ (aR (by omega))
    have:=H (i+1) (by omega)
    rw[q.obs,ai.cat] at this;exact this.2
  intro i hi;exact back (all.length-i) i (by omega)
 have oaI:∀ i o,all[i]?=aa o->OA X N all o (LX T CT N ds all φm g i) (F i).σ (xD T CT N ds all φm g i) (F (i+1)).σ:=by
  intro i o r;have hi:i<all.length:=(bt.1 r).1;obtain⟨_,q⟩:=facts i o r;have Sz:=Tp (i+1) (by omega)
  rw[q.obs,ai.cat] at Sz;have:=hY (P:=P) (N:=N) hT hC q.op Sz.1;rw[q.σ];unfold LX;rw[n i o r];exact this
 let idx:Nat->Option Nat:=λt=>(bc all.length).find? (λi=>decide ((all.getD i ja).dst=aa t))
 have y:∀ t j,idx t=aa j->∃ o,all[j]?=aa o/\o.dst=aa t:=by
  intro t j hj;have E:=List.find?_some hj;have B:j<all.length:=by simpa using List.mem_of_find?_eq_some hj
  refine⟨all[j],aR B,?_⟩;simpa[aR B] using E
 have M:∀ i o d,all[i]?=aa o->o.dst=aa d->idx d=aa i:=by
  intro i o d r hd;have hi:i<all.length:=(bt.1 r).1;cases hx:idx d with
  |none =>
   have:=uT.1 hx i (by simpa using hi)
   simp[r,hd] at this
  |some j =>
   obtain⟨p,PN,PO⟩:=y d j hx;rw[sS Tm PN r PO hd]
 have W:∀ t,oY t all=ab↔∃ j,idx t=aa j:=by
  intro t
  constructor
  .intro h;obtain⟨i,o,E,B⟩:=pV h;exact⟨i,M i o t E B⟩
  .rintro⟨j,hj⟩;obtain⟨o,E,B⟩:=y t j hj;exact rP E B
 have K:∀ i o,all[i]?=aa o->∀ e∈o.after,de e=ab->e.on<i:=by
  intro i o r e z hb;have hi:i<all.length:=(bt.1 r).1;obtain⟨_,q⟩:=facts i o r;have:=Dl q.lt e.on (eJ.2 ⟨e,by simpa using z,hb,rfl⟩)
  rw[U i (by omega)] at this
  exact this
 have OE:=K;have hd:vM X N ops φ (λi=>(F i).σ) (xD T CT N ds all φm g) (LX T CT N ds all φm g) (tN T CT N ds all φm g) (λi=>decide (i<all.length)&&oK T CT N ds all φm g i) (λi j=>i<all.length/\bit (OD T CT N ds all φm g i) j=ab) idx (js (λ_=>ab) 0 sf.pre (uz all φ)):=by
  refine⟨hf,?_,?_,?_,?_,?_,?_,?_,?_,?_,?_⟩
  .intro i o r;rw[u] at r;exact OE i o r
  .intro i o d r hd;rw[u] at r;obtain⟨_,q⟩:=facts i o r;exact⟨M i o d r hd,iY q.dst d hd⟩
  .intro d i h;obtain⟨o,E,B⟩:=y d i h;exact⟨o,by rw[u];exact E,B⟩
  .intro i z;rcases cr i all.length with hi|hi
   .obtain⟨_,q⟩:=facts i _ (aR hi);have:oK T CT N ds all φm g i=ae:=by simpa[hi] using z
    have hσ:=q.σ;rw[this] at hσ;simpa using hσ
   .have h0:all.getD i ja=ja:=by simp[ag,eU hi]
    show (F (i+1)).σ=(F i).σ;have:rR T CT N ds all φm (F i) ja=af∨∃ s',rR T CT N ds all φm (F i) ja=aa s':=by
     cases rR T CT N ds all φm (F i) ja with
     |none=>exact .inl rfl
     |some s'=>exact .inr ⟨s',rfl⟩
    show ((rR T CT N ds all φm (F i) (all.getD i ja)).getD (F i)).σ=(F i).σ;rw[h0];rcases this with h|⟨s',h⟩
    .rw[h];rfl
    .rw[h];obtain⟨x,σ1,ob,q⟩:=Bi h;have R:=q.op;have:σ1=af:=by
      unfold E4 at R;simp only[ja,MB,VA,IJ,nk] at R;cases R;rfl
     rw[dG,q.σ,this];rfl
  .intro i o r _;rw[u] at r;have:=oaI i o r;rw[<-V] at this ⊢;exact this
  .intro i o r S;rw[u] at r;have hi:i<all.length:=(bt.1 r).1;have A:HU (js (λj=>hX j (b6 (o).after.toList)) 0 (F i).pre (kM (F i).i all φm)) o=ae/\oK T CT N ds all φm g i=ae:=by
    unfold tN at S;rw[WB i o r,n i o r] at S;simpa using S
   refine⟨by simp[A.2],λk=>?_⟩
   obtain⟨ob,q⟩:=facts i o r;have R:=q.op;rw[A.2] at R;have WH:=IF A.1 (by simpa using R) (F k).σ
   have Sz:=Tp (i+1) (by omega)
   rw[q.obs,ai.cat] at Sz;have:=hY (P:=P) (N:=N) hT hC WH Sz.1;rw[V];unfold LX;rw[n i o r];exact this
  .intro L hL i j ⟨hi,hb⟩;have hU:∀ i,i<all.length->L i->∀ e,e∈b6 (all.getD i ja).after.toList->L e:=by
    intro i hi WJ e z;rw[n i _ (aR hi)] at z;obtain⟨e',E,B,rfl⟩:=eJ.1 z;exact hL i all[i] (by rw[u];exact aR hi) WJ e' (by simpa using E) B
   have key:∀ i,i<all.length->∀ j,bit (OD T CT N ds all φm g i) j=ab->(∀ e∈b6 (all.getD i ja).after.toList,L e)->L j:=by
    intro i
    induction i using Nat.strongRecOn with
    |_ i H =>
     intro hi j hb OF;obtain⟨e,z,h⟩:=zG hb;have C:e<i:=by
      have HS:=z;rw[n i _ (aR hi)] at HS;obtain⟨e',E,B,rfl⟩:=eJ.1 HS;exact OE i _ (aR hi) e' (by simpa using E) B
     rcases h with rfl|⟨c,hc,HQ⟩
     .exact OF _ z
     .have:=WE i (by omega) e
      rw[aU C] at this;have V7:(F i).cls[e]?=aa c:=hc;rw[V7] at this;cases this;exact H e C (by omega) j HQ (hU e (by omega) (OF e z))
   refine⟨λWJ=>key i hi j hb (hU i hi WJ),all[i],by rw[u];exact aR hi,λPQ=>key i hi j hb ?_⟩
   intro e z;rw[n i _ (aR hi)] at z;obtain⟨e',E,B,rfl⟩:=eJ.1 z;exact PQ e' (by simpa using E) B
  .intro i f hi LW z zD VB;rw[HR] at hi LW;have HS:oK T CT N ds all φm g f=ab:=by simpa[LW] using z
   rcases cr f i with C|Pv
   .refine .inl ⟨C,hi,?_⟩;obtain⟨_,q⟩:=facts i _ (aR hi);have C2:OD T CT N ds all φm g i=E5 (F i).cls (b6 (all[i]).after.toList):=by unfold OD;rw[n i _ (aR hi)]
    rw[C2];cases WK:oK T CT N ds all φm g i with
    |true =>
     have E:=q.k5 (by rw[WK];rfl)
     refine pW E ?_;rw[Zo i (by omega) f]
     have:tN T CT N ds all φm g f=ae:=by unfold tN;simp[HS]
     simp[C,this]
    |false =>
     have PR:HU (js (λj=>hX j (b6 (all[i]).after.toList)) 0 (F i).pre (kM (F i).i all φm)) all[i]=ab:=by
      unfold tN at VB;rw[WB i _ (aR hi),n i _ (aR hi),WK] at VB;simpa using VB
     have E:=q.load PR (by rw[WK];rfl)
     refine pW E ?_;rw[WG i (by omega) f]
     simp[C,HS]
   .have C:i<f:=by omega
    refine .inr ⟨C,LW,?_⟩;obtain⟨_,q⟩:=facts f _ (aR LW);have C2:OD T CT N ds all φm g f=E5 (F f).cls (b6 (all[f]).after.toList):=by unfold OD;rw[n f _ (aR LW)]
    rw[C2];have E:=q.k5 (by rw[HS];rfl)
    refine pW E ?_;rw[Zo f (by omega) i]
    simp[C,VB]
  .intro i o r t σ s v Y;rw[u] at r;have hi:i<all.length:=(bt.1 r).1;unfold LX;rw[n i o r];rcases nq (m:=λj=>hX j (b6 o.after.toList)) (φ:=kM (F i).i all φm) (t:=t) (l:=(F i).pre) (i:=0) with⟨j,x,E,B,h3⟩|h3
   .have WL:look (js (λj=>hX j (b6 o.after.toList)) 0 (xz T CT N ds all φm g i).pre (kM (xz T CT N ds all φm g i).i all φm)) t=x:=h3
    rw[WL];have hp:=Tn i (by omega) j
    rw[E] at hp;have J:j<i:=by
     apply Nat.lt_of_not_le;intro hle;rw[aO (by omega)] at hp;cases hp
    rw[aU J,aR (by omega:j<all.length)] at hp
    simp only[jl,cV,kB] at hp;obtain⟨PN,PO⟩:=hp;have G:=M j _ t (aR (by omega:j<all.length)) PN.symm
    rw[G] at Y;simp only at Y;rw[aU] at Y
    .rw[PO];exact Y
    .have WM:j∈b6 o.after.toList:=by
      simp only[bm] at B;exact IH B
     obtain⟨e,a,b,c⟩:=eJ.1 WM;exact⟨e,by simpa using a,b,c⟩
   .have WL:look (js (λj=>hX j (b6 o.after.toList)) 0 (xz T CT N ds all φm g i).pre (kM (xz T CT N ds all φm g i).i all φm)) t=look (kM (F i).i all φm) t:=h3
    rw[WL,U i (by omega),<-WA,x6]
    split
    .trivial
    .rename_i Tq
     cases G:idx t with
     |some j =>
      have hD:=(W t).2 ⟨j,G⟩;have hN:uA i t all=ae:=by
       cases hn:uA i t all with
       |false=>rfl
       |true=>exact absurd ⟨hD,hn⟩ Tq
      obtain⟨oj,WN,hdj⟩:=y t j G;have hm:=IH (vO hN j oj WN hdj);obtain⟨e,z,hb,heq⟩:=eJ.1 hm;rw[G] at Y;simp only at Y;split at Y
      ·
       rename_i hex
       obtain⟨e2,Vs,hb2,abl⟩:=hex;have b1:=K i o r e2 Vs hb2;have b2:=K j oj WN e (by simpa using z) hb
       omega
      .rw[aU ⟨oj,by rw[u];exact WN,e,by simpa using z,hb,heq⟩] at Y
       exact Y
     |none=>simpa[G] using Y
  .intro t σ s v Y;have hF:F all.length=sf:=I;rcases nq (m:=λ_=>ab) (φ:=uz all φ) (t:=t) (l:=sf.pre) (i:=0) with⟨j,x,E,_,h3⟩|h3
   .rw[h3];have hp:=Tn all.length (ba _) j;rw[hF,E] at hp;have J:j<all.length:=by
     apply Nat.lt_of_not_le;intro hle;rw[aO (by omega)] at hp;cases hp
    rw[aU J,aR J] at hp;simp only[jl,cV,kB] at hp;obtain⟨PN,PO⟩:=hp;rw[M j _ t (aR J) PN.symm] at Y;rw[PO];exact Y
   .rw[h3,lI];split
    .trivial
    .rename_i Tq
     cases G:idx t with
     |some j=>exact absurd ((W t).2 ⟨j,G⟩) Tq
     |none=>simpa[G] using Y
 intro s a LU hh b kk cs SS hb WO;have LR:F ops.size=sf:=by rw[HR];exact I
 refine .next rfl λZ C3=>?_
 have C3:=X.iO C3;have Tr:=hh.rely C3;have PS:=LU.rely C3 hh;have PT:Step σ Z σ { Z with w:={ Z.w with drawn:=Z.w.drawn+1 } }:=Step.same rfl rfl rfl rfl;have F8:aJ σ { Z with w:={ Z.w with drawn:=Z.w.drawn+1 } }:=Tr.same rfl;have WQ:=C3.stepW.trans (PT.oA Tr);refine⟨_,{ Z with w:={ Z.w with drawn:=Z.w.drawn+1 } },#[],lP,⟨⟨σ,σ,Tr,F8,PT⟩,.nil⟩,?_⟩;simp only[Region.schedule,hf,Bool.true_or,bO];refine hd.arr hb (s0:={ Z with w:={ Z.w with drawn:=Z.w.drawn+1 } }) (λs2 a2 f2 B oT=>?_) ops.size _ (by simp) ?_ ?_ 0 _ a (by omega) ?_ ?_ F8 (.refl _ _) _
 .simp only[LR] at f2 B oT;exact WO .normal _ _ s2 a2 hQ f2 B (WQ.trans oT)
 .simp
 .intro i o r hi;simp[cT,mP] at hi;split at hi <;> simp at hi
 .intro f LW Zq;simp[cT,mP];split <;> simp
 .have A:=PS.mono (PT.oA Tr) Tr.len;refine⟨A.size,A.defers,λt=>?_⟩
  unfold gn;cases G:idx t with
  |none=>exact A.slot t
  |some j =>
   simp only;rw[aO]
   .exact A.slot t
   .simp[cT,mP];split <;> simp
end
end Go.AM
namespace Go.AM
section
variable {P:an}{X:Cx P}{N:Nat}{Qf:Post}{K:List It}{φ:Fr}{σ:List aW}
theorem AK.draw{T:List (Nat×TI)}{CT:List (Nat×dC)}(c:P.follows Departure.mixedOrders=ab)(d:dk P T)(hC:b5 X CT){ds:List (Nat×Bool)}{ops:Array av}{b:Fr}{σ':List aW}{obs:List Prop}{id:Nat}
  (h:E6 T CT N ds ops.toList φ σ=aa (b,σ',obs)) (a:ai obs) (k:AK X N Qf K .normal b σ'):AK X N Qf (.code (.region id ops ab)::K) .normal φ σ :=
 II c d hC h a k id
end
def vK(T:List (Nat×TI))(CT:List (Nat×dC))(ds:List (Nat×Bool))(N:Nat)(K:List It)(φ:Fr)(σ:List aW):Option (List It×Fr×List aW×List Prop) :=
 match K with
 |[]=>af
 |.blk _::K=>aa (K,φ,σ,[])
 |.ops _ []::K=>aa (K,φ,σ,[])
 |.ops all (o::rest)::K=>match iP N o.dst with
  |true=>match E4 T CT ds all φ σ o with
   |some (x,af,obs)=>dj (m9 o.dst x φ) λφ=>aa (.ops all rest::K,φ,σ,obs)
   |some (x,aa σ',obs)=>dj (m9 o.dst x φ) λφ=>aa (.ops all rest::K,φ,σ',obs)
   |none=>af
  |false=>af
 |.code c::K=>match c with
  |.skip=>aa (K,φ,σ,[])
  |.seq x y=>aa (.code x::.code y::K,φ,σ,[])
  |.block id c=>aa (.code c::.blk id::K,φ,σ,[])
  |.region id ops d=>match Bl ds (id+1000000) with
   |some _=>af
   |none=>match d with
    |false=>aa (.ops ops.toList ops.toList::K,φ,σ,[])
    |true=>match E6 T CT N ds ops.toList φ σ with
     |some (a,σ',obs)=>aa (K,a,σ',obs)
     |none=>af
  |.exit id=>match kO id K with
   |some K'=>aa (K',φ,σ,[])
   |none=>af
  |.cond (.tmp t) x y=>match look φ t with
   |.e (.one (.c (.bool ab)))=>aa (.code x::K,φ,σ,[])
   |.e (.one (.c (.bool ae)))=>aa (.code y::K,φ,σ,[])
   |_=>af
  |_=>af
theorem Jz{P:an}{X:Cx P}(p:P.follows Departure.mixedOrders=ab){T:List (Nat×TI)}(g:dk P T){CT:List (Nat×dC)}(f:b5 X CT){ds:List (Nat×Bool)}{N:Nat}{Qf:Post}{K m:List It}{φ d:Fr}{σ σ':List aW}{obs:List Prop}
  (h:vK T CT ds N K φ σ=aa (m,d,σ',obs)) (l:ai obs) (k:AK X N Qf m .normal d σ'):AK X N Qf K .normal φ σ:=by
 unfold vK at h;split at h
 .cases h
 .cases h;exact AK.QG k
 .cases h;exact AK.QH k
 .rename_i all o rest K0
  cases b:iP N o.dst with
  |false=>simp[b] at h
  |true =>
   simp only[b] at h;have n:=iY b;split at h
   .rename_i x a j
    rw[cZ] at h;cases h;exact jE.wi (hY g f j l) n k
   .rename_i x σ1 a j
    rw[cZ] at h;cases h;exact jE.wi (hY g f j l) n k
   .cases h
 .rename_i c K0
  split at h
  .cases h;exact AK.skip k
  .cases h;exact AK.seq k
  .cases h;exact AK.block k
  .split at h
   .cases h
   .split at h
    .cases h;exact AK.region k
    .split at h
     .rename_i q σ1 a b
      cases h;exact AK.draw p g f b l k
     .cases h
  .split at h
   .rename_i s r;cases h;exact AK.exit r k
   .cases h
  .rename_i t x y
   split at h
   .rename_i i;cases h;exact AK.cond rfl i (λ_=>k) (λe=>by cases e)
   .rename_i i;cases h;exact AK.cond rfl i (λe=>by cases e) (λ_=>k)
   .cases h
  .cases h
def fh(T:List (Nat×TI))(CT:List (Nat×dC))(ds:List (Nat×Bool))(N:Nat):Nat->List It->Fr->List aW->List Prop->Option (List It×Fr×List aW×List Prop)
 |0,K,φ,σ,obs=>dj obs λobs=>aa (K,φ,σ,obs)
 |n+1,K,φ,σ,obs=>match vK T CT ds N K φ σ with
  |some (b,a,σ',o)=>fh T CT ds N n b a σ' (kl o obs)
  |none=>dj obs λobs=>aa (K,φ,σ,obs)
theorem Fu{P:an}{X:Cx P}(f:P.follows Departure.mixedOrders=ab){T:List (Nat×TI)}(i:dk P T){CT:List (Nat×dC)}(g:b5 X CT){ds:List (Nat×Bool)}{N:Nat}{Qf:Post}:∀ {n:Nat}{K b:List It}{φ a:Fr}{σ σ':List aW}{obs Dq:List Prop},
  fh T CT ds N n K φ σ obs=aa (b,a,σ',Dq)->ai Dq->AK X N Qf b .normal a σ'->AK X N Qf K .normal φ σ/\ai obs
 |0,K,b,φ,a,σ,σ',obs,Dq,h,c,k=>by
  simp only[fh,cZ] at h;cases h;exact⟨k,c⟩
 |n+1,K,b,φ,a,σ,σ',obs,Dq,h,c,k=>by
  simp only[fh] at h;cases e:vK T CT ds N K φ σ with
  |none =>
   simp only[e,cZ] at h;cases h;exact⟨k,c⟩
  |some r =>
   obtain⟨o,j,σ1,m⟩:=r;simp only[e] at h;obtain⟨l,d⟩:=Fu f i g h c k;rw[ai.cat] at d;exact⟨Jz f i g e d.1 l,d.2⟩
theorem AK.fh{P:an}{X:Cx P}(d:P.follows Departure.mixedOrders=ab){T:List (Nat×TI)}(e:dk P T){CT:List (Nat×dC)}(hC:b5 X CT)(ds:List (Nat×Bool)){N:Nat}{Qf:Post}(n:Nat){K c:List It}{φ b:Fr}{σ σ':List aW}{a:List Prop}
  (h:AM.fh T CT ds N n K φ σ []=aa (c,b,σ',a)) (f:ai a) (k:AK X N Qf c .normal b σ'):AK X N Qf K .normal φ σ:=(Fu d e hC h f k).1
section
variable {P:an}{X:Cx P}{N:Nat}{Qf:Post}{K:List It}{φ:Fr}{σ:List aW}
def zB(rs:List ResultVar)(ks:List Nat)(φ:Fr)(res:D):Option (List Prop) :=
 match xw φ rs with
 |some ds=>match rN ds with
  |some d=>match uy ks.length res with
   |true=>Bf d (jQ ks res)
   |false=>af
  |none=>af
 |none=>af
theorem AK.eB{fn:Func}{c:Nat}{res:D}{σ':List aW}(ks:List Nat){ps:List Prop}(h:zB fn.results.toList ks φ res=aa ps)(e:ai ps)(g:kW ks σ=aa σ')(b:km σ'=ab)(hn:eh ks=ab)(i:∀ j,j<c->ks[j]?=aa j) :
  AK X N (cn fn c res σ') (.code .ret::K) .normal φ σ:=by
 refine AK.ret ⟨.inl rfl,ks,?_⟩;unfold zB at h;split at h
 .rename_i ds Iw
  split at h
  .rename_i d f
   split at h
   .rename_i a
    exact⟨ds,d,ps,Iw,f,h,e,a,g,b,hn,i⟩
   .cases h
  .cases h
 .cases h
theorem AK.br{fn:Func}{res:D}{ps:List Prop}(h:zB fn.results.toList [] φ res=aa ps)(a:ai ps):AK X N (cn fn 0 res []) (.code .ret::K) .normal φ σ :=
 AK.eB [] h a rfl rfl rfl (λj h=>by omega)
theorem cn.zero{fn:Func}{res:D}{ps:List Prop}(h:zB fn.results.toList [] φ res=aa ps)(c:ai ps):cn fn 0 res [] .ret φ σ:=by
 refine⟨.inl rfl,[],?_⟩;unfold zB at h;split at h
 .rename_i ds Iw
  split at h
  .rename_i d b
   split at h
   .rename_i a
    exact⟨ds,d,ps,Iw,b,h,c,a,rfl,rfl,rfl,λj h=>by omega⟩
   .cases h
  .cases h
 .cases h
theorem AK.leave{id:Nat}{φ:Fr}{σ:List aW}{A:Fr->List aW->Prop}{Qr:Post}{K m n:List It}(h1:kO id K=af)(h2:kO id m=aa n)(k:AK X N Qr n .normal φ σ) :
  AK X N (λe f σ'=>match e with
   |.normal=>A f σ'
   |e=>AK X N Qr m e f σ') (.code (.exit id)::K) .normal φ σ:=by
 have key:∀ {K:List It},kO id K=af->∀ {Q:Post},Q (.exit id) φ σ->AK X N Q K (.exit id) φ σ:=by
  intro K
  induction K with
  |nil=>intro _ Q h;exact h
  |cons i r l =>
   intro d Q h;cases i with
   |code c=>exact l (by simpa[kO] using d) h
   |ops a b=>exact l (by simpa[kO] using d) h
   |blk j =>
    simp only[kO] at d;cases hb:aA id j with
    |true=>simp[hb] at d
    |false =>
     simp[hb] at d;have g:id≠j:=λe=>by rw[e,jI] at hb;cases hb
     simp only[AK,g,bH];exact l d h
 exact AW.exit (key h1 (AK.wc h2 k))
theorem AK.iq{φ:Fr}{σ:List aW}{A:Fr->List aW->Prop}{Qr:Post}{K b:List It}(k:Qr .ret φ σ) :
  AK X N (λe a σ'=>match e with
   |.normal=>A a σ'
   |e=>AK X N Qr b e a σ') (.code .ret::K) .normal φ σ:=AK.ret (AK.r5 (Qf:=Qr) k)
theorem AK.again{S:Type}{I:S->Prop}{fr:S->Fr}{st:S->List aW}{b:S->Nat}{x:S}{Qr:Post}(y:S){ps:List Prop}(f:r6 φ (fr y)=aa ps)(g:ai ps)(h:I y)(c:b y<b x)(d:σ=st y) :
  AK X N (λe a σ'=>match e with
   |.normal=>∃ y,I y/\b y<b x/\r7 a (fr y)/\σ'=st y
   |e=>Qr e a σ') [] .normal φ σ:=⟨y,h,c,dK f g,d⟩
theorem AK.we{S:Type}{c:Code}(I:S->Prop)(fr:S->Fr)(st:S->List aW)(b:S->Nat)(x:S){ps:List Prop}(f:r6 φ (fr x)=aa ps)(g:ai ps)(h:I x)(d:st x=σ)
  (round:∀ x,I x->AK X N (λe a σ'=>match e with
   |.normal=>∃ y,I y/\b y<b x/\r7 a (fr y)/\σ'=st y
   |e=>AK X N Qf K e a σ') [.code c] .normal (fr x) (st x)):AK X N Qf (.code (.loop c)::K) .normal φ σ :=
 AK.loop I fr st b x h (dK f g) d round
def Fits(args:List D)(σ:List aW):Prop:=∃ s vs,cG σ s vs args/\aJ σ s
theorem Fits.at{args:List D}{σ:List aW}(h:Fits args σ){j:Nat}{d:D}(hj:args[j]?=aa d):∃ s v,dh σ s v d:=by
 obtain⟨s,vs,a,_⟩:=h;obtain⟨_,b⟩:=cG.get a;have:=b j;rw[hj] at this;exact⟨s,_,this⟩
theorem Fits.str{args:List D}{σ:List aW}(h:Fits args σ)(j:Nat){l:List UInt8}(hj:args[j]?=aa (.e (.one (.c (.str l))))):l.length<=9223372036854775807:=by
 obtain⟨s,v,a⟩:=h.at hj;cases ga a with
 |str h hl=>exact hl
theorem Fits.sl{args:List D}{σ:List aW}(h:Fits args σ)(j:Nat){t:Bool}{k n:Nat}{es:Nat->List C}(hj:args[j]?=aa (.e (.one (.c (.sl t k n es))))):n<=9223372036854775807:=by
 obtain⟨s,v,d⟩:=h.at hj;cases ga d with
 |sl b off f a hb=>omega
theorem Ev.body{f:aX}{fn:Func}{c:Code}{args:List D}{σ σ':List aW}{res:D}(d:P.funcs[f]?=aa fn)(a:(fn.name== "runtime.NumGoroutine")=ae)(hb:fn.body=aa c)(b:bw args.length fn.ntmps=ab)
  (h:Fits args σ->AK X fn.ntmps (cn fn σ.length res σ') [.code c] .normal (iA 0 args) σ):Ev X f args σ res σ':=by
 refine⟨⟨fn,d,a,by rw[hb];rfl⟩,λs vs hr hh=>?_⟩
 exact(Ev.intro d a hb (dn b) (AK.of_code (h ⟨s,vs,hr,hh⟩))).2 s vs hr hh
theorem AK.join{c:Code}{d:List It}(b:Fr)(σ':List aW)(h:(∀ (a:Fr)(ps:List Prop),r6 a b=aa ps->ai ps->AK X N Qf (.code c::d) .normal a σ')->AK X N Qf K .normal φ σ)
  (k:AK X N Qf (.code c::d) .normal b σ'):AK X N Qf K .normal φ σ :=
 h λ_ _ h1 h2=>AW.le k (dK h1 h2)
end
end Go.AM
namespace Go.AM
open Go.Proofs
theorem bA{P:an}{t:ar}{i:TypeInfo}(h:P.types[t]?=aa i):P.info? t=aa i:=by
 unfold Tables.info?;rw[aU (gE.1 h).1];exact h
theorem dk.nil{P:an}:dk P []:=λ_ _ h=>by cases h
theorem dk.cons{P:an}{t:ar}{i:TI}{T:List (Nat×TI)}(h:bS P t i)(r:dk P T):dk P ((t,i)::T):=by
 intro a i2 h2;simp only[bL] at h2;cases hb:aA t a with
 |true=>rw[hb] at h2;cases h2;rw[<-bE hb];exact h
 |false=>rw[hb] at h2;exact r a i2 h2
namespace R1
abbrev f0(a:String)(b c:Nat)(d:String)(e:Nat):Field:={ name:=a,type:=b,offset:=c,embedded:=ae,tag:= "",pkgPath:=d,byteOffset:=e }
def i2:TI:=⟨1,8,ae,TypeDesc.int IntKind.i64,[.int .i64 0],[]⟩
theorem g2:bS ah 2 i2:=⟨Tryz.underlying2,rfl,⟨_,_,bA Tryz.type2,rfl,rfl,rfl,rfl,⟨#[],rfl⟩,rfl⟩,λh=>absurd rfl h⟩
def i3:TI:=⟨1,8,ae,TypeDesc.int IntKind.i64,[.int .i64 0],[]⟩
theorem g3:bS ah 3 i3:=⟨Tryz.underlying3,rfl,⟨_,_,bA Tryz.type3,rfl,rfl,rfl,rfl,⟨#[],rfl⟩,rfl⟩,λh=>absurd rfl h⟩
def i4:TI:=⟨1,1,ae,TypeDesc.bool,[.bool ae],[]⟩
theorem g4:bS ah 4 i4:=⟨Tryz.underlying4,rfl,⟨_,_,bA Tryz.type4,rfl,rfl,rfl,rfl,⟨#[],rfl⟩,rfl⟩,λh=>absurd rfl h⟩
def i5:TI:=⟨1,1,ae,TypeDesc.int IntKind.u8,[.int .u8 0],[]⟩
theorem g5:bS ah 5 i5:=⟨Tryz.underlying5,rfl,⟨_,_,bA Tryz.type5,rfl,rfl,rfl,rfl,⟨#[],rfl⟩,rfl⟩,λh=>absurd rfl h⟩
def i6:TI:=⟨1,1,ae,TypeDesc.int IntKind.u8,[.int .u8 0],[]⟩
theorem g6:bS ah 6 i6:=⟨Tryz.underlying6,rfl,⟨_,_,bA Tryz.type6,rfl,rfl,rfl,rfl,⟨#[],rfl⟩,rfl⟩,λh=>absurd rfl h⟩
def i8:TI:=⟨4,24,ab,bl #[(f0 "x" 2 0 "runtime" 0),(f0 "y" 3 1 "runtime" 8),(f0 "signed" 4 2 "runtime" 16),(f0 "code" 6 3 "runtime" 17)],[.int .i64 0,.int .i64 0,.bool ae,.int .u8 0],[]⟩
theorem g8:bS ah 8 i8:=⟨Tryz.underlying8,rfl,⟨_,_,bA Tryz.type8,rfl,rfl,rfl,rfl,⟨_,rfl⟩,rfl⟩,λh=>absurd rfl h⟩
def i9:TI:=⟨1,16,ae,TypeDesc.string,[.str []],[]⟩
theorem g9:bS ah 9 i9:=⟨Tryz.underlying9,rfl,⟨_,_,bA Tryz.type9,rfl,rfl,rfl,rfl,⟨#[],rfl⟩,rfl⟩,λh=>absurd rfl h⟩
def i16:TI:=⟨1,8,ae,TypeDesc.pointer 296,[.mb],[]⟩
theorem g16:bS ah 16 i16:=⟨Tryz.underlying16,rfl,⟨_,_,bA Tryz.type16,rfl,rfl,rfl,rfl,⟨#[],rfl⟩,rfl⟩,λh=>absurd rfl h⟩
def i20:TI:=⟨1,16,ae,TypeDesc.interface #[],[.n8],[]⟩
theorem g20:bS ah 20 i20:=⟨Tryz.underlying20,rfl,⟨_,_,bA Tryz.type20,rfl,rfl,rfl,rfl,⟨#[],rfl⟩,rfl⟩,λh=>absurd rfl h⟩
def i21:TI:=⟨1,4,ae,TypeDesc.int IntKind.i32,[.int .i32 0],[]⟩
theorem g21:bS ah 21 i21:=⟨Tryz.underlying21,rfl,⟨_,_,bA Tryz.type21,rfl,rfl,rfl,rfl,⟨#[],rfl⟩,rfl⟩,λh=>absurd rfl h⟩
def i22:TI:=⟨1,24,ae,TypeDesc.slice 5,[.sl ab 0 0 (λ_=>[])],[]⟩
theorem g22:bS ah 22 i22:=⟨Tryz.underlying22,rfl,⟨_,_,bA Tryz.type22,rfl,rfl,rfl,rfl,⟨#[],rfl⟩,rfl⟩,λh=>absurd rfl h⟩
def i23:TI:=⟨1,24,ae,TypeDesc.slice 55,[.sl ab 0 0 (λ_=>[])],[]⟩
theorem g23:bS ah 23 i23:=⟨Tryz.underlying23,rfl,⟨_,_,bA Tryz.type23,rfl,rfl,rfl,rfl,⟨#[],rfl⟩,rfl⟩,λh=>absurd rfl h⟩
def i24:TI:=⟨1,24,ae,TypeDesc.slice 59,[.sl ab 0 0 (λ_=>[])],[]⟩
theorem g24:bS ah 24 i24:=⟨Tryz.underlying24,rfl,⟨_,_,bA Tryz.type24,rfl,rfl,rfl,rfl,⟨#[],rfl⟩,rfl⟩,λh=>absurd rfl h⟩
def i25:TI:=⟨1,24,ae,TypeDesc.slice 86,[.sl ab 0 0 (λ_=>[])],[]⟩
theorem g25:bS ah 25 i25:=⟨Tryz.underlying25,rfl,⟨_,_,bA Tryz.type25,rfl,rfl,rfl,rfl,⟨#[],rfl⟩,rfl⟩,λh=>absurd rfl h⟩
def i27:TI:=⟨3,72,ab,bl #[(f0 "Packs" 23 0 "" 0),(f0 "Snaps" 24 1 "" 24),(f0 "Log" 25 2 "" 48)],[.sl ab 0 0 (λ_=>[]),.sl ab 0 0 (λ_=>[]),.sl ab 0 0 (λ_=>[])],[]⟩
theorem g27:bS ah 27 i27:=⟨Tryz.underlying27,rfl,⟨_,_,bA Tryz.type27,rfl,rfl,rfl,rfl,⟨_,rfl⟩,rfl⟩,λh=>absurd rfl h⟩
def i28:TI:=⟨1,24,ae,TypeDesc.slice 3,[.sl ab 0 0 (λ_=>[])],[]⟩
theorem g28:bS ah 28 i28:=⟨Tryz.underlying28,rfl,⟨_,_,bA Tryz.type28,rfl,rfl,rfl,rfl,⟨#[],rfl⟩,rfl⟩,λh=>absurd rfl h⟩
def i30:TI:=⟨5,120,ab,bl #[(f0 "Store" 27 0 "" 0),(f0 "Marks" 28 3 "" 72),(f0 "Left" 28 4 "" 96)],[.sl ab 0 0 (λ_=>[]),.sl ab 0 0 (λ_=>[]),.sl ab 0 0 (λ_=>[]),.sl ab 0 0 (λ_=>[]),.sl ab 0 0 (λ_=>[])],[]⟩
theorem g30:bS ah 30 i30:=⟨Tryz.underlying30,rfl,⟨_,_,bA Tryz.type30,rfl,rfl,rfl,rfl,⟨_,rfl⟩,rfl⟩,λh=>absurd rfl h⟩
def i32:TI:=⟨4,40,ab,bl #[(f0 "Kind" 3 0 "" 0),(f0 "N" 3 1 "" 8),(f0 "M" 3 2 "" 16),(f0 "Body" 9 3 "" 24)],[.int .i64 0,.int .i64 0,.int .i64 0,.str []],[TypeDesc.int IntKind.i64,TypeDesc.int IntKind.i64,TypeDesc.int IntKind.i64,TypeDesc.string]⟩
theorem g32:bS ah 32 i32:=⟨Tryz.underlying32,rfl,⟨_,_,bA Tryz.type32,rfl,rfl,rfl,rfl,⟨_,rfl⟩,rfl⟩,λ_=>jV (fs:=[(f0 "Kind" 3 0 "" 0),(f0 "N" 3 1 "" 8),(f0 "M" 3 2 "" 16),(f0 "Body" 9 3 "" 24)]) Tryz.underlying32 (by decide +kernel) Tryz.eqGuardType32 ⟨by decide,rfl,Tryz.underlying3,ay,by decide,rfl,Tryz.underlying3,ay,by decide,rfl,Tryz.underlying3,ay,by decide,rfl,Tryz.underlying9,ay,ay⟩⟩
def i33:TI:=⟨1,24,ae,TypeDesc.slice 48,[.sl ab 0 0 (λ_=>[])],[]⟩
theorem g33:bS ah 33 i33:=⟨Tryz.underlying33,rfl,⟨_,_,bA Tryz.type33,rfl,rfl,rfl,rfl,⟨#[],rfl⟩,rfl⟩,λh=>absurd rfl h⟩
def i35:TI:=⟨12,216,ab,bl #[(f0 "Key" 3 0 "" 0),(f0 "Sweep" 30 1 "" 8),(f0 "Lie" 32 6 "" 128),(f0 "Keeps" 33 10 "" 168),(f0 "Found" 28 11 "" 192)],[.int .i64 0,.sl ab 0 0 (λ_=>[]),.sl ab 0 0 (λ_=>[]),.sl ab 0 0 (λ_=>[]),.sl ab 0 0 (λ_=>[]),.sl ab 0 0 (λ_=>[]),.int .i64 0,.int .i64 0,.int .i64 0,.str [],.sl ab 0 0 (λ_=>[]),.sl ab 0 0 (λ_=>[])],[]⟩
theorem g35:bS ah 35 i35:=⟨Tryz.underlying35,rfl,⟨_,_,bA Tryz.type35,rfl,rfl,rfl,rfl,⟨_,rfl⟩,rfl⟩,λh=>absurd rfl h⟩
def i42:TI:=⟨1,8,ae,TypeDesc.pointer 65,[.mb],[]⟩
theorem g42:bS ah 42 i42:=⟨Tryz.underlying42,rfl,⟨_,_,bA Tryz.type42,rfl,rfl,rfl,rfl,⟨#[],rfl⟩,rfl⟩,λh=>absurd rfl h⟩
def i48:TI:=⟨2,16,ab,bl #[(f0 "Long" 3 0 "" 0),(f0 "Sum" 3 1 "" 8)],[.int .i64 0,.int .i64 0],[TypeDesc.int IntKind.i64,TypeDesc.int IntKind.i64]⟩
theorem g48:bS ah 48 i48:=⟨Tryz.underlying48,rfl,⟨_,_,bA Tryz.type48,rfl,rfl,rfl,rfl,⟨_,rfl⟩,rfl⟩,λ_=>jV (fs:=[(f0 "Long" 3 0 "" 0),(f0 "Sum" 3 1 "" 8)]) Tryz.underlying48 (by decide +kernel) Tryz.eqGuardType48 ⟨by decide,rfl,Tryz.underlying3,ay,by decide,rfl,Tryz.underlying3,ay,ay⟩⟩
def i53:TI:=⟨1,24,ae,TypeDesc.slice 88,[.sl ab 0 0 (λ_=>[])],[]⟩
theorem X4:bS ah 53 i53:=⟨Tryz.underlying53,rfl,⟨_,_,bA Tryz.type53,rfl,rfl,rfl,rfl,⟨#[],rfl⟩,rfl⟩,λh=>absurd rfl h⟩
def i55:TI:=⟨2,32,ab,bl #[(f0 "No" 3 0 "" 0),(f0 "Item" 53 1 "" 8)],[.int .i64 0,.sl ab 0 0 (λ_=>[])],[]⟩
theorem g55:bS ah 55 i55:=⟨Tryz.underlying55,rfl,⟨_,_,bA Tryz.type55,rfl,rfl,rfl,rfl,⟨_,rfl⟩,rfl⟩,λh=>absurd rfl h⟩
def i57:TI:=⟨1,24,ae,TypeDesc.slice 90,[.sl ab 0 0 (λ_=>[])],[]⟩
theorem g57:bS ah 57 i57:=⟨Tryz.underlying57,rfl,⟨_,_,bA Tryz.type57,rfl,rfl,rfl,rfl,⟨#[],rfl⟩,rfl⟩,λh=>absurd rfl h⟩
def i59:TI:=⟨2,32,ab,bl #[(f0 "No" 3 0 "" 0),(f0 "All" 57 1 "" 8)],[.int .i64 0,.sl ab 0 0 (λ_=>[])],[]⟩
theorem g59:bS ah 59 i59:=⟨Tryz.underlying59,rfl,⟨_,_,bA Tryz.type59,rfl,rfl,rfl,rfl,⟨_,rfl⟩,rfl⟩,λh=>absurd rfl h⟩
def i63:TI:=⟨1,8,ae,TypeDesc.pointer 27,[.mb],[]⟩
theorem g63:bS ah 63 i63:=⟨Tryz.underlying63,rfl,⟨_,_,bA Tryz.type63,rfl,rfl,rfl,rfl,⟨#[],rfl⟩,rfl⟩,λh=>absurd rfl h⟩
def i65:TI:=⟨2,32,ab,bl #[(f0 "b" 22 0 "loop.example/depositary/spec" 0),(f0 "p" 3 1 "loop.example/depositary/spec" 24)],[.sl ab 0 0 (λ_=>[]),.int .i64 0],[]⟩
theorem g65:bS ah 65 i65:=⟨Tryz.underlying65,rfl,⟨_,_,bA Tryz.type65,rfl,rfl,rfl,rfl,⟨_,rfl⟩,rfl⟩,λh=>absurd rfl h⟩
def i69:TI:=⟨1,24,ae,TypeDesc.slice 129,[.sl ab 0 0 (λ_=>[])],[]⟩
theorem Ya:bS ah 69 i69:=⟨Tryz.underlying69,rfl,⟨_,_,bA Tryz.type69,rfl,rfl,rfl,rfl,⟨#[],rfl⟩,rfl⟩,λh=>absurd rfl h⟩
def i71:TI:=⟨8,104,ab,bl #[(f0 "Kind" 3 0 "" 0),(f0 "By" 3 1 "" 8),(f0 "Tree" 69 2 "" 16),(f0 "Lie" 32 3 "" 40),(f0 "Keep" 28 7 "" 80)],[.int .i64 0,.int .i64 0,.sl ab 0 0 (λ_=>[]),.int .i64 0,.int .i64 0,.int .i64 0,.str [],.sl ab 0 0 (λ_=>[])],[]⟩
theorem g71:bS ah 71 i71:=⟨Tryz.underlying71,rfl,⟨_,_,bA Tryz.type71,rfl,rfl,rfl,rfl,⟨_,rfl⟩,rfl⟩,λh=>absurd rfl h⟩
def i86:TI:=⟨2,16,ab,bl #[(f0 "By" 3 0 "" 0),(f0 "Snap" 3 1 "" 8)],[.int .i64 0,.int .i64 0],[TypeDesc.int IntKind.i64,TypeDesc.int IntKind.i64]⟩
theorem g86:bS ah 86 i86:=⟨Tryz.underlying86,rfl,⟨_,_,bA Tryz.type86,rfl,rfl,rfl,rfl,⟨_,rfl⟩,rfl⟩,λ_=>jV (fs:=[(f0 "By" 3 0 "" 0),(f0 "Snap" 3 1 "" 8)]) Tryz.underlying86 (by decide +kernel) Tryz.eqGuardType86 ⟨by decide,rfl,Tryz.underlying3,ay,by decide,rfl,Tryz.underlying3,ay,ay⟩⟩
def i88:TI:=⟨2,24,ab,bl #[(f0 "Name" 3 0 "" 0),(f0 "Body" 9 1 "" 8)],[.int .i64 0,.str []],[TypeDesc.int IntKind.i64,TypeDesc.string]⟩
theorem Z2:bS ah 88 i88:=⟨Tryz.underlying88,rfl,⟨_,_,bA Tryz.type88,rfl,rfl,rfl,rfl,⟨_,rfl⟩,rfl⟩,λ_=>jV (fs:=[(f0 "Name" 3 0 "" 0),(f0 "Body" 9 1 "" 8)]) Tryz.underlying88 (by decide +kernel) Tryz.eqGuardType88 ⟨by decide,rfl,Tryz.underlying3,ay,by decide,rfl,Tryz.underlying9,ay,ay⟩⟩
def i90:TI:=⟨2,40,ab,bl #[(f0 "Path" 9 0 "" 0),(f0 "Names" 28 1 "" 16)],[.str [],.sl ab 0 0 (λ_=>[])],[]⟩
theorem g90:bS ah 90 i90:=⟨Tryz.underlying90,rfl,⟨_,_,bA Tryz.type90,rfl,rfl,rfl,rfl,⟨_,rfl⟩,rfl⟩,λh=>absurd rfl h⟩
def i112:TI:=⟨1,24,ae,TypeDesc.slice 55,[.sl ab 0 0 (λ_=>[])],[]⟩
theorem Yb:bS ah 112 i112:=⟨Tryz.underlying112,rfl,⟨_,_,bA Tryz.type112,rfl,rfl,rfl,rfl,⟨#[],rfl⟩,rfl⟩,λh=>absurd rfl h⟩
def i114:TI:=⟨3,72,ab,bl #[{ name:= "packed",type:=112,offset:=0,embedded:=ab,tag:= "",pkgPath:= "loop.example/depositary/impl",byteOffset:=0 },(f0 "snaps" 24 1 "loop.example/depositary/impl" 24),(f0 "log" 25 2 "loop.example/depositary/impl" 48)],[.sl ab 0 0 (λ_=>[]),.sl ab 0 0 (λ_=>[]),.sl ab 0 0 (λ_=>[])],[]⟩
theorem Yc:bS ah 114 i114:=⟨Tryz.underlying114,rfl,⟨_,_,bA Tryz.type114,rfl,rfl,rfl,rfl,⟨_,rfl⟩,rfl⟩,λh=>absurd rfl h⟩
def i129:TI:=⟨2,32,ab,bl #[(f0 "Path" 9 0 "" 0),(f0 "Text" 9 1 "" 16)],[.str [],.str []],[TypeDesc.string,TypeDesc.string]⟩
theorem U0:bS ah 129 i129:=⟨Tryz.underlying129,rfl,⟨_,_,bA Tryz.type129,rfl,rfl,rfl,rfl,⟨_,rfl⟩,rfl⟩,λ_=>jV (fs:=[(f0 "Path" 9 0 "" 0),(f0 "Text" 9 1 "" 16)]) Tryz.underlying129 (by decide +kernel) Tryz.eqGuardType129 ⟨by decide,rfl,Tryz.underlying9,ay,by decide,rfl,Tryz.underlying9,ay,ay⟩⟩
def i139:TI:=⟨1,24,ae,TypeDesc.slice 9,[.sl ab 0 0 (λ_=>[])],[]⟩
theorem Yd:bS ah 139 i139:=⟨Tryz.underlying139,rfl,⟨_,_,bA Tryz.type139,rfl,rfl,rfl,rfl,⟨#[],rfl⟩,rfl⟩,λh=>absurd rfl h⟩
def i154:TI:=⟨1,8,ae,TypeDesc.int IntKind.u64,[.int .u64 0],[]⟩
theorem Ye:bS ah 154 i154:=⟨Tryz.underlying154,rfl,⟨_,_,bA Tryz.type154,rfl,rfl,rfl,rfl,⟨#[],rfl⟩,rfl⟩,λh=>absurd rfl h⟩
def i164:TI:=⟨1,24,ae,TypeDesc.slice 206,[.sl ab 0 0 (λ_=>[])],[]⟩
theorem Yf:bS ah 164 i164:=⟨Tryz.underlying164,rfl,⟨_,_,bA Tryz.type164,rfl,rfl,rfl,rfl,⟨#[],rfl⟩,rfl⟩,λh=>absurd rfl h⟩
def i170:TI:=⟨1,8,ae,TypeDesc.int IntKind.i64,[.int .i64 0],[]⟩
theorem Yg:bS ah 170 i170:=⟨Tryz.underlying170,rfl,⟨_,_,bA Tryz.type170,rfl,rfl,rfl,rfl,⟨#[],rfl⟩,rfl⟩,λh=>absurd rfl h⟩
def i179:TI:=⟨1,4,ae,TypeDesc.int IntKind.u32,[.int .u32 0],[]⟩
theorem Yh:bS ah 179 i179:=⟨Tryz.underlying179,rfl,⟨_,_,bA Tryz.type179,rfl,rfl,rfl,rfl,⟨#[],rfl⟩,rfl⟩,λh=>absurd rfl h⟩
def i181:TI:=⟨1,8,ae,TypeDesc.int IntKind.u64,[.int .u64 0],[]⟩
theorem Yi:bS ah 181 i181:=⟨Tryz.underlying181,rfl,⟨_,_,bA Tryz.type181,rfl,rfl,rfl,rfl,⟨#[],rfl⟩,rfl⟩,λh=>absurd rfl h⟩
def i182:TI:=⟨1,24,ae,TypeDesc.slice 193,[.sl ab 0 0 (λ_=>[])],[]⟩
theorem Yj:bS ah 182 i182:=⟨Tryz.underlying182,rfl,⟨_,_,bA Tryz.type182,rfl,rfl,rfl,rfl,⟨#[],rfl⟩,rfl⟩,λh=>absurd rfl h⟩
def i184:TI:=⟨0,0,ab,bl #[],[],[]⟩
theorem Yk:bS ah 184 i184:=⟨Tryz.underlying184,rfl,⟨_,_,bA Tryz.type184,rfl,rfl,rfl,rfl,⟨_,rfl⟩,rfl⟩,λh=>absurd rfl h⟩
def i185:TI:=⟨0,0,ab,bl #[],[],[]⟩
theorem Yl:bS ah 185 i185:=⟨Tryz.underlying185,rfl,⟨_,_,bA Tryz.type185,rfl,rfl,rfl,rfl,⟨_,rfl⟩,rfl⟩,λh=>absurd rfl h⟩
def i186:TI:=⟨0,0,ab,bl #[],[],[]⟩
theorem Ym:bS ah 186 i186:=⟨Tryz.underlying186,rfl,⟨_,_,bA Tryz.type186,rfl,rfl,rfl,rfl,⟨_,rfl⟩,rfl⟩,λh=>absurd rfl h⟩
def i188:TI:=⟨1,8,ab,bl #[(f0 "_" 185 0 "sync/atomic" 0),(f0 "_" 186 0 "sync/atomic" 0),(f0 "v" 181 0 "sync/atomic" 0)],[.int .u64 0],[]⟩
theorem Yn:bS ah 188 i188:=⟨Tryz.underlying188,rfl,⟨_,_,bA Tryz.type188,rfl,rfl,rfl,rfl,⟨_,rfl⟩,rfl⟩,λh=>absurd rfl h⟩
def i190:TI:=⟨2,16,ab,bl #[(f0 "noCopy" 184 0 "sync" 0),(f0 "state" 188 0 "sync" 0),(f0 "sema" 179 1 "sync" 8)],[.int .u64 0,.int .u32 0],[]⟩
theorem Yo:bS ah 190 i190:=⟨Tryz.underlying190,rfl,⟨_,_,bA Tryz.type190,rfl,rfl,rfl,rfl,⟨_,rfl⟩,rfl⟩,λh=>absurd rfl h⟩
def i193:TI:=⟨2,24,ab,bl #[(f0 "piece" 9 0 "loop.example/depositary/impl" 0),(f0 "ok" 4 1 "loop.example/depositary/impl" 16)],[.str [],.bool ae],[TypeDesc.string,TypeDesc.bool]⟩
theorem Yp:bS ah 193 i193:=⟨Tryz.underlying193,rfl,⟨_,_,bA Tryz.type193,rfl,rfl,rfl,rfl,⟨_,rfl⟩,rfl⟩,λ_=>jV (fs:=[(f0 "piece" 9 0 "loop.example/depositary/impl" 0),(f0 "ok" 4 1 "loop.example/depositary/impl" 16)]) Tryz.underlying193 (by decide +kernel) Tryz.eqGuardType193 ⟨by decide,rfl,Tryz.underlying9,ay,by decide,rfl,Tryz.underlying4,ay,ay⟩⟩
def i206:TI:=⟨2,16,ab,bl #[(f0 "Name" 3 0 "" 0),(f0 "Pack" 3 1 "" 8)],[.int .i64 0,.int .i64 0],[TypeDesc.int IntKind.i64,TypeDesc.int IntKind.i64]⟩
theorem Yq:bS ah 206 i206:=⟨Tryz.underlying206,rfl,⟨_,_,bA Tryz.type206,rfl,rfl,rfl,rfl,⟨_,rfl⟩,rfl⟩,λ_=>jV (fs:=[(f0 "Name" 3 0 "" 0),(f0 "Pack" 3 1 "" 8)]) Tryz.underlying206 (by decide +kernel) Tryz.eqGuardType206 ⟨by decide,rfl,Tryz.underlying3,ay,by decide,rfl,Tryz.underlying3,ay,ay⟩⟩
def i211:TI:=⟨1,8,ae,TypeDesc.int IntKind.i64,[.int .i64 0],[]⟩
theorem Yr:bS ah 211 i211:=⟨Tryz.underlying211,rfl,⟨_,_,bA Tryz.type211,rfl,rfl,rfl,rfl,⟨#[],rfl⟩,rfl⟩,λh=>absurd rfl h⟩
def i213:TI:=⟨1,16,ae,TypeDesc.interface #[("Error",242)],[.n8],[]⟩
theorem Ys:bS ah 213 i213:=⟨Tryz.underlying213,rfl,⟨_,_,bA Tryz.type213,rfl,rfl,rfl,rfl,⟨#[],rfl⟩,rfl⟩,λh=>absurd rfl h⟩
def i216:TI:=⟨1,8,ae,TypeDesc.int IntKind.u64,[.int .u64 0],[]⟩
theorem Yt:bS ah 216 i216:=⟨Tryz.underlying216,rfl,⟨_,_,bA Tryz.type216,rfl,rfl,rfl,rfl,⟨#[],rfl⟩,rfl⟩,λh=>absurd rfl h⟩
def i220:TI:=⟨1,8,ae,TypeDesc.pointer 3,[.mb],[]⟩
theorem Yu:bS ah 220 i220:=⟨Tryz.underlying220,rfl,⟨_,_,bA Tryz.type220,rfl,rfl,rfl,rfl,⟨#[],rfl⟩,rfl⟩,λh=>absurd rfl h⟩
def i237:TI:=⟨1,8,ae,TypeDesc.pointer 239,[.mb],[]⟩
theorem Yv:bS ah 237 i237:=⟨Tryz.underlying237,rfl,⟨_,_,bA Tryz.type237,rfl,rfl,rfl,rfl,⟨#[],rfl⟩,rfl⟩,λh=>absurd rfl h⟩
def i239:TI:=⟨2,32,ab,bl #[(f0 "addr" 237 0 "strings" 0),(f0 "buf" 22 1 "strings" 8)],[.mb,.sl ab 0 0 (λ_=>[])],[]⟩
theorem Yw:bS ah 239 i239:=⟨Tryz.underlying239,rfl,⟨_,_,bA Tryz.type239,rfl,rfl,rfl,rfl,⟨_,rfl⟩,rfl⟩,λh=>absurd rfl h⟩
def i256:TI:=⟨1,8,ae,TypeDesc.pointer 252,[.mb],[]⟩
theorem Yx:bS ah 256 i256:=⟨Tryz.underlying256,rfl,⟨_,_,bA Tryz.type256,rfl,rfl,rfl,rfl,⟨#[],rfl⟩,rfl⟩,λh=>absurd rfl h⟩
def i289:TI:=⟨2,2,ab,bl #[(f0 "lo" 5 0 "unicode/utf8" 0),(f0 "hi" 5 1 "unicode/utf8" 1)],[.int .u8 0,.int .u8 0],[TypeDesc.int IntKind.u8,TypeDesc.int IntKind.u8]⟩
theorem Yy:bS ah 289 i289:=⟨Tryz.underlying289,rfl,⟨_,_,bA Tryz.type289,rfl,rfl,rfl,rfl,⟨_,rfl⟩,rfl⟩,λ_=>jV (fs:=[(f0 "lo" 5 0 "unicode/utf8" 0),(f0 "hi" 5 1 "unicode/utf8" 1)]) Tryz.underlying289 (by decide +kernel) Tryz.eqGuardType289 ⟨by decide,rfl,Tryz.underlying5,ay,by decide,rfl,Tryz.underlying5,ay,ay⟩⟩
def i290:TI:=⟨32,32,ab,TypeDesc.array 16 289,[.int .u8 0,.int .u8 0,.int .u8 0,.int .u8 0,.int .u8 0,.int .u8 0,.int .u8 0,.int .u8 0,.int .u8 0,.int .u8 0,.int .u8 0,.int .u8 0,.int .u8 0,.int .u8 0,.int .u8 0,.int .u8 0,.int .u8 0,.int .u8 0,.int .u8 0,.int .u8 0,.int .u8 0,.int .u8 0,.int .u8 0,.int .u8 0,.int .u8 0,.int .u8 0,.int .u8 0,.int .u8 0,.int .u8 0,.int .u8 0,.int .u8 0,.int .u8 0],[]⟩
theorem Yz:bS ah 290 i290:=⟨Tryz.underlying290,rfl,⟨_,_,bA Tryz.type290,rfl,rfl,rfl,rfl,⟨_,rfl⟩,rfl⟩,λh=>absurd rfl h⟩
def i291:TI:=⟨1,8,ae,TypeDesc.pointer 308,[.mb],[]⟩
theorem YA:bS ah 291 i291:=⟨Tryz.underlying291,rfl,⟨_,_,bA Tryz.type291,rfl,rfl,rfl,rfl,⟨#[],rfl⟩,rfl⟩,λh=>absurd rfl h⟩
def i294:TI:=⟨0,0,ab,TypeDesc.array 0 16,[],[]⟩
theorem YB:bS ah 294 i294:=⟨Tryz.underlying294,rfl,⟨_,_,bA Tryz.type294,rfl,rfl,rfl,rfl,⟨_,rfl⟩,rfl⟩,λh=>absurd rfl h⟩
def i296:TI:=⟨0,0,ab,bl #[(f0 "_" 294 0 "runtime" 0)],[],[]⟩
theorem YC:bS ah 296 i296:=⟨Tryz.underlying296,rfl,⟨_,_,bA Tryz.type296,rfl,rfl,rfl,rfl,⟨_,rfl⟩,rfl⟩,λh=>absurd rfl h⟩
def i308:TI:=⟨1,16,ab,bl #[(f0 "s" 9 0 "errors" 0)],[.str []],[TypeDesc.string]⟩
theorem YD:bS ah 308 i308:=⟨Tryz.underlying308,rfl,⟨_,_,bA Tryz.type308,rfl,rfl,rfl,rfl,⟨_,rfl⟩,rfl⟩,λ_=>jV (fs:=[(f0 "s" 9 0 "errors" 0)]) Tryz.underlying308 (by decide +kernel) Tryz.eqGuardType308 ⟨by decide,rfl,Tryz.underlying9,ay,ay⟩⟩
def tt:List (Nat×TI):=[(2,i2),(3,i3),(4,i4),(5,i5),(6,i6),(8,i8),(9,i9),(16,i16),(20,i20),(21,i21),(22,i22),(23,i23),(24,i24),(25,i25),(27,i27),(28,i28),(30,i30),(32,i32),(33,i33),(35,i35),(42,i42),(48,i48),(53,i53),(55,i55),(57,i57),(59,i59),(63,i63),(65,i65),(69,i69),(71,i71),(86,i86),(88,i88),(90,i90),(112,i112),(114,i114),(129,i129),(139,i139),(154,i154),(164,i164),(170,i170),(179,i179),(181,i181),(182,i182),(184,i184),(185,i185),(186,i186),(188,i188),(190,i190),(193,i193),(206,i206),(211,i211),(213,i213),(216,i216),(220,i220),(237,i237),(239,i239),(256,i256),(289,i289),(290,i290),(291,i291),(294,i294),(296,i296),(308,i308)]
theorem tok:dk ah tt:=(dk.cons g2 (dk.cons g3 (dk.cons g4 (dk.cons g5 (dk.cons g6 (dk.cons g8 (dk.cons g9 (dk.cons g16 (dk.cons g20 (dk.cons g21 (dk.cons g22 (dk.cons g23 (dk.cons g24 (dk.cons g25 (dk.cons g27 (dk.cons g28 (dk.cons g30 (dk.cons g32 (dk.cons g33 (dk.cons g35 (dk.cons g42 (dk.cons g48 (dk.cons X4 (dk.cons g55 (dk.cons g57 (dk.cons g59 (dk.cons g63 (dk.cons g65 (dk.cons Ya (dk.cons g71 (dk.cons g86 (dk.cons Z2 (dk.cons g90 (dk.cons Yb (dk.cons Yc (dk.cons U0 (dk.cons Yd (dk.cons Ye (dk.cons Yf (dk.cons Yg (dk.cons Yh (dk.cons Yi (dk.cons Yj (dk.cons Yk (dk.cons Yl (dk.cons Ym (dk.cons Yn (dk.cons Yo (dk.cons Yp (dk.cons Yq (dk.cons Yr (dk.cons Ys (dk.cons Yt (dk.cons Yu (dk.cons Yv (dk.cons Yw (dk.cons Yx (dk.cons Yy (dk.cons Yz (dk.cons YA (dk.cons YB (dk.cons YC (dk.cons YD dk.nil)))))))))))))))))))))))))))))))))))))))))))))))))))))))))))))))
end R1
end Go.AM
namespace Go.AM
abbrev Bs:=List UInt8
abbrev dS(s:Bs):D:=.e (.one (.c (.str s)))
abbrev dI(n:Int):D:=.e (.one (.c (.int .i64 n)))
abbrev dU(n:Int):D:=.e (.one (.c (.int .u8 n)))
abbrev dB(b:Bool):D:=.e (.one (.c (.bool b)))
theorem ku{s:Bs}{i:Nat}:iV s i=s.getD i 0:=rfl
namespace R1
open Go.Proofs
variable {X:Cx ah}
theorem eQ:Tryz.prog.follows Departure.mixedOrders=ab:=rfl
theorem aE{X:Cx ah}{CT:List (Nat×dC)}(c:b5 X CT)(ds:List (Nat×Bool)){N:Nat}{Qf:Post}(n:Nat){K d:List It}{φ b:Fr}{σ σ':List aW}{a:List Prop}
  (h:AM.fh tt CT ds N n K φ σ []=aa (d,b,σ',a)) (e:ai a) (k:AK X N Qf d .normal b σ'):AK X N Qf K .normal φ σ:=AK.fh eQ tok c ds n h e k
theorem bd{X:Cx ah}(ds:List (Nat×Bool)){N:Nat}{Qf:Post}(n:Nat){K c:List It}{φ b:Fr}{σ σ':List aW}{a:List Prop}
  (h:AM.fh tt [] ds N n K φ σ []=aa (c,b,σ',a)) (d:ai a) (k:AK X N Qf c .normal b σ'):AK X N Qf K .normal φ σ:=AK.fh eQ tok b5.nil ds n h d k
theorem bP{X:Cx ah}{N:Nat}{Qf:Post}{K c:List It}{φ b:Fr}{σ σ':List aW}{a:List Prop}
  (h:AM.fh tt [] [] N 100 K φ σ []=aa (c,b,σ',a)) (d:ai a) (k:AK X N Qf c .normal b σ'):AK X N Qf K .normal φ σ:=AK.fh eQ tok b5.nil [] 100 h d k
theorem ee{X:Cx ah}{N:Nat}{Qf:Post}{K c:List It}{φ b:Fr}{σ σ':List aW}{a:List Prop}
  (h:AM.fh tt [] [] N 200 K φ σ []=aa (c,b,σ',a)) (d:ai a) (k:AK X N Qf c .normal b σ'):AK X N Qf K .normal φ σ:=AK.fh eQ tok b5.nil [] 200 h d k
def l6(b:Int):Bool:=decide (97<=b)&&decide (b<=101)
theorem NY(b:Int):Ev X 104 [dU b] [] (dB (l6 b)) []:=by
 refine Ev.body Tryz.func104 rfl rfl rfl λ_=>?_
 by_cases h:97<=b
 .refine bd [(4,ab)] 100 rfl ?_ (AK.br rfl ?_) <;> simp[ai,h,l6]
 .refine bd [(4,ae)] 100 rfl ?_ (AK.br rfl ?_) <;> simp[ai,h,l6]
def eR(b:UInt8):Bool:=decide (97<=b.toNat)&&decide (b.toNat<=122)
def ck(s:Bs):Bool:=s.all eR
theorem sA{s:Bs}(h:∀ j,j<s.length->eR (s.getD j 0)=ab):ck s=ab:=by
 simp only[ck,bq];intro b a;obtain⟨i,hi,rfl⟩:=dN a;have:=h i hi;simpa[ag,aR hi] using this
theorem kH{s:Bs}{j:Nat}(h:j<s.length)(a:eR (s.getD j 0)=ae):ck s=ae:=by
 cases b:ck s with
 |false=>rfl
 |true =>
  simp only[ck,bq] at b;have:=b _ (dy h);simp[ag,aR h] at a;rw[a] at this;cases this
theorem EB(s:Bs):Ev X 105 [dS s] [] (dB (ck s)) []:=by
 refine Ev.body Tryz.func105 rfl rfl rfl λe=>?_
 have g:=e.str 0 rfl;refine bP rfl ay ?_;refine AK.we (λi=>i<=s.length/\∀ j,j<i->eR (s.getD j 0)=ab) (λi:Nat=>[(0,dS s),(3,dI i)]) (λ_=>[]) (λi=>s.length-i) 0 rfl (by simp[ai.cat,ai]) ⟨by omega,by omega⟩ rfl ?_
 rintro i ⟨hi,a⟩
 by_cases h:i<s.length
 .generalize c:s.getD i 0=b
  by_cases k:b.toNat<97
  .refine bd [(7,ab),(13,ab)] 100 rfl ?_ (AK.iq (cn.zero rfl ?_))
   .simp only[ai,ku,bh,c];omega
   .rw[ai,kH h (by rw[c];simp only[eR,rf,bY];omega)]
  .by_cases f:b.toNat>122
   .refine bd [(7,ab),(13,ae),(18,ab)] 100 rfl ?_ (AK.iq (cn.zero rfl ?_))
    .simp only[ai,ku,bh,bY,c];omega
    .rw[ai,kH h (by rw[c];simp only[eR,rf,bY];omega)]
   .refine bd [(7,ab),(13,ae),(18,ae)] 100 rfl ?_ (AK.again (i+1) rfl ?_ ?_ ?_ rfl)
    .simp only[ai,ku,bh,bY,c,bD];omega
    .simp[ai.cat,ai]
    .refine⟨by omega,λj d=>?_⟩
     rcases fU.1 d with d|rfl
     .exact a j d
     .rw[c];simp only[eR,bG,bh];omega
    .omega
 .refine bd [(7,ae)] 100 rfl (by simp[ai];omega) (AK.leave rfl rfl ?_)
  refine bP rfl ay (AK.br rfl ?_);rw[ai,sA (λj d=>a j (by omega))]
end R1
theorem Ev.args{P:an}{X:Cx P}{f:aX}{args Pg:List D}{σ σ':List aW}{res:D}(h:Ev X f Pg σ res σ')(hl:∀ s vs,cG σ s vs args->cG σ s vs Pg):Ev X f args σ res σ' :=
 ⟨h.1,λs vs hr hh=>h.2 s vs (hl s vs hr) hh⟩
def lg(a:Nat):D->Option (Nat×(Nat->List C))
 |.e (.one (.c (.sl _ k n es)))=>match aA k a with
  |true=>aa (n,es)
  |false=>match aA n 0 with
   |true=>aa (0,λ_=>[])
   |false=>af
 |_=>af
theorem K4{g:Nat}{d:D}{n:Nat}{es:Nat->List C}(h:lg g d=aa (n,es)){σ:List aW}{s:St}{v:ak}(r:dh σ s v d):Rd s.M v (.sl ae g n es):=by
 unfold lg at h;split at h
 .rename_i t k m es'
  split at h
  .rename_i i
   have e:=bE i;subst e;cases h;exact(ga r).loose
  .split at h
   .rename_i j
    have e:=bE j;subst e;cases h;have r':=ga r;cases r' with
    |sl b off f a l q i p o u=>exact Rd.sl b off f a l (by simp) (by omega) (by omega) (by omega) (by omega)
   .cases h
 .cases h
def vm{α:Type}(enc:α->List C)(bU:α)(l:List α):Nat->List C:=λi=>enc (l.getD i bU)
structure iv (α:Type) where
 k:Nat
 enc:α->List C
 dec:List C->α
 bU:α
 inv:∀ a,dec (enc a)=a
 len:∀ a,(enc a).length=k
namespace iv
variable {α:Type}(c:iv α)
def list(n:Nat)(es:Nat->List C):List α:=(bc n).map λi=>c.dec (es i)
def fn(l:List α):Nat->List C:=vm c.enc c.bU l
def fits(n:Nat)(es:Nat->List C):Prop:=∀ i,i<n->es i=c.enc (c.dec (es i))
def sl(l:List α):D:=.e (.one (.c (.sl ae c.k l.length (c.fn l))))
theorem pw{n:Nat}{es:Nat->List C}:(c.list n es).length=n:=by simp[list]
theorem list_fn(l:List α):c.list l.length (c.fn l)=l:=by
 apply pF
 .simp[list]
 .intro i b a;simp[list,fn,vm,ag,aR a,c.inv]
theorem aH(l:List α){n:Nat}:c.fits n (c.fn l):=λi _=>by simp[fn,vm,c.inv]
theorem NZ{n:Nat}{es:Nat->List C}(h:c.fits n es):a9 n es (c.fn (c.list n es)):=by
 intro i hi;rw[h i hi];simp[fn,vm,list,ag,hi]
theorem ko{d:D}{n:Nat}{es:Nat->List C}(h:lg c.k d=aa (n,es))(b:c.fits n es){σ:List aW}{s:St}{v:ak}(r:dh σ s v d):dh σ s v (c.sl (c.list n es)):=by
 have e:=K4 h r;have a:=e.C7 (c.NZ b);show Rd s.M v (.sl ae c.k (c.list n es).length _);rw[c.pw];exact a
end iv
def cv(s:Bs)(i:Nat):Int:=(s.getD i 0).toNat
theorem cA(s:Bs) (j:Int):((iV s j).toNat:Int)=cv s j.toNat:=rfl
abbrev bJ:=Bs×Bs
def BS(cs:List C)(j:Nat):Bs:=match fZ j cs with|some (.str s)=>s|_=>[]
def yp(cs:List C)(j:Nat):Int:=match fZ j cs with|some (.int _ s)=>s|_=>0
def cF:iv bJ:={ k:=2,enc:=λf=>[.str f.1,.str f.2],dec:=λcs=>(BS cs 0,BS cs 1),bU:=([],[]),inv:=λ_=>rfl,len:=λ_=>rfl }
namespace R1
open Go.Proofs
variable {X:Cx ah}
def RS:dC:=λargs σ=>match args,σ with
 |[.e (.one (.c (.int .u8 b)))],[]=>aa (dB (l6 b),[],[])
 |_,_=>af
theorem t104:eb X 104 RS:=by
 intro args σ res σ' obs h _;unfold RS at h;split at h
 .cases h;exact NY _
 .cases h
def NM:dC:=λargs σ=>match args,σ with
 |[.e (.one (.c (.str b)))],[]=>aa (dB (ck b),[],[])
 |_,_=>af
theorem t105:eb X 105 NM:=by
 intro args σ res σ' obs h _;unfold NM at h;split at h
 .cases h;exact EB _
 .cases h
def Z8:List (Nat×dC):=[(104,RS),(105,NM)]
theorem CG:b5 X Z8:=b5.cons t104 (b5.cons t105 b5.nil)
def dD(s:Bs):Bool:=if s.length=1 then l6 (cv s 0) else if s.length=3 then l6 (cv s 0)&&(cv s 1==47)&&l6 (cv s 2) else ae
theorem Ht(s:Bs):Ev X 84 [dS s] [] (dB (dD s)) []:=by
 refine Ev.body Tryz.func84 rfl rfl rfl λf=>?_
 by_cases e:s.length=1
 .refine aE CG [(6,ab)] 100 rfl ?_ (AK.br rfl ?_)
  .simp[ai,e]
  .simp[ai,dD,e,cA]
 .by_cases a:s.length=3
  .by_cases b:l6 (cv s 0)=ab
   .by_cases d:cv s 1=47
    .refine aE CG [(6,ae),(11,ab),(14,ab),(18,ab)] 100 rfl ?_ (AK.br rfl ?_)
     .simp[ai,a,cA,b,d]
     .simp[ai,dD,a,b,d,cA]
    .refine aE CG [(6,ae),(11,ab),(14,ab),(18,ae)] 100 rfl ?_ (AK.br rfl ?_)
     .simp[ai,a,cA,b,d]
     .simp[ai,dD,a,b,d]
   .refine aE CG [(6,ae),(11,ab),(14,ae)] 100 rfl ?_ (AK.br rfl ?_)
    .simp[ai,a,cA,b]
    .simp[ai,dD,a,b]
  .refine aE CG [(6,ae),(11,ae)] 100 rfl ?_ (AK.br rfl ?_)
   .simp[ai];omega
   .simp[ai,dD,e,a]
def ef(s:Bs):Bool:=decide (s.length<=40)&&ck s
theorem Hu(s:Bs):Ev X 85 [dS s] [] (dB (ef s)) []:=by
 refine Ev.body Tryz.func85 rfl rfl rfl λb=>?_
 by_cases a:s.length<=40
 .refine aE CG [(5,ab)] 100 rfl ?_ (AK.br rfl ?_)
  .simp[ai];omega
  .simp[ai,ef,a]
 .refine aE CG [(5,ae)] 100 rfl ?_ (AK.br rfl ?_)
  .simp[ai];omega
  .simp[ai,ef,a]
def clash(a b:Bs):Bool:=(a.length != b.length)&&(cv a 0==cv b 0)
theorem K5(a b:Bs)(g:a≠[])(h:b≠[]):Ev X 86 [dS a,dS b] [] (dB (clash a b)) []:=by
 have e:=List.length_pos_iff.2 g;have d:=List.length_pos_iff.2 h;refine Ev.body Tryz.func86 rfl rfl rfl λi=>?_
 by_cases f:a.length=b.length
 .refine bd [(9,ae)] 100 rfl ?_ (AK.br rfl ?_)
  .simp[ai,f]
  .simp[ai,clash,f]
 .refine bd [(9,ab)] 100 rfl ?_ (AK.br rfl ?_)
  .simp[ai,e,d];omega
  .simp[ai,clash,f,cA]
end R1
end Go.AM
namespace Go.AM.R1
open Go.Proofs
variable {X:Cx ah}
def YE:dC:=λargs σ=>match args,σ with
 |[.e (.one (.c (.str b)))],[]=>aa (dB (dD b),[],[])
 |_,_=>af
theorem t84:eb X 84 YE:=by
 intro args σ res σ' obs h _;unfold YE at h;split at h
 .cases h;exact Ht _
 .cases h
def VT:dC:=λargs σ=>match args,σ with
 |[.e (.one (.c (.str b)))],[]=>aa (dB (ef b),[],[])
 |_,_=>af
theorem t85:eb X 85 VT:=by
 intro args σ res σ' obs h _;unfold VT at h;split at h
 .cases h;exact Hu _
 .cases h
def YF:dC:=λargs σ=>match args,σ with
 |[.e (.one (.c (.str a))),.e (.one (.c (.str b)))],[]=>aa (dB (clash a b),[],[a≠[],b≠[]])
 |_,_=>af
theorem t86:eb X 86 YF:=by
 intro args σ res σ' obs h a;unfold YF at h;split at h
 .cases h;exact K5 _ _ a.1 a.2
 .cases h
def Z9:List (Nat×dC):=(84,YE)::(85,VT)::(86,YF)::Z8
theorem tD:b5 X Z9:=b5.cons t84 (b5.cons t85 (b5.cons t86 CG))
def fj(t:List bJ)(i:Nat):Bs:=(t.getD i ([],[])).1
def Aq(t:List bJ)(i:Nat):Bs:=(t.getD i ([],[])).2
theorem ic(t:List bJ)(i:Nat):(t.getD i cF.bU).1=fj t i:=rfl
theorem px(t:List bJ)(i:Nat):(t.getD i cF.bU).2=Aq t i:=rfl
def gy(t:List bJ)(i:Nat):Bool:=dD (fj t i)&&ef (Aq t i)&&(i==0||bj (fj t (i-1)) (fj t i))&&(bc i).all λj=>!clash (fj t j) (fj t i)
def dt(t:List bJ):Bool:=(bc t.length).all (gy t)&&decide (t.length<=6)
theorem bX{n:Nat}{p:Nat->Bool}:(bc n).all p=ab↔∀ i,i<n->p i=ab:=by simp[bq]
theorem qi{s:Bs}(h:dD s=ab):s≠[]:=by rintro rfl;simp[dD] at h
theorem lD{t:List bJ}{i:Nat}(hi:i<t.length)(h:gy t i=ae):dt t=ae:=by
 cases a:dt t with
 |false=>rfl
 |true =>
  simp only[dt,bG] at a;rw[bX.1 a.1 i hi] at h;cases h
theorem Hv(t:List bJ):Ev X 58 [cF.sl t] [] (dB (dt t)) []:=by
 refine Ev.body Tryz.func58 rfl rfl rfl λx=>?_
 have w:=x.sl 0 rfl;refine aE tD [] 100 rfl ay ?_;refine AK.we (λi=>i<=t.length/\∀ j,j<i->gy t j=ab) (λi:Nat=>[(0,cF.sl t),(3,dI i)]) (λ_=>[]) (λi=>t.length-i) 0 rfl (by simp[ai.cat,ai,a9]) ⟨by omega,by omega⟩ rfl ?_
 rintro i ⟨hi,c⟩
 by_cases h:i<t.length
 .by_cases d:dD (fj t i)=ab
  .by_cases m:ef (Aq t i)=ab
   .by_cases s:i=0∨bj (fj t (i-1)) (fj t i)=ab
    .apply AK.join [(0,cF.sl t),(3,dI i),(4,dI 0)] []
     .intro u
      by_cases g:i=0
      .refine aE tD [(8,ab),(16,ab),(24,ab),(29,ae)] 100 rfl ?_ (u _ _ rfl ?_)
       .simp[-ag,ai,h,ic,px,d,m];omega
       .simp[ai.cat,ai,a9]
      .have o:=s.resolve_left g;have l:bD .i64 ((i:Int)-1):=by simp only[bD];omega
       have v:((i:Int)-1).toNat=i-1:=by omega
       refine aE tD [(8,ab),(16,ab),(24,ab),(29,ab),(42,ae)] 100 rfl ?_ (u _ _ rfl ?_)
       .simp[-ag,ai,h,ic,px,d,m,o,l,v];omega
       .simp[ai.cat,ai,a9]
     ·
      have f:gy t i=(bc i).all (λj=>!clash (fj t j) (fj t i)):=by
       rcases s with rfl|o
       .simp[gy,d,m]
       .simp[gy,d,m,o]
      refine AK.we (λj=>j<=i/\∀ n,n<j->clash (fj t n) (fj t i)=ae) (λj:Nat=>[(0,cF.sl t),(3,dI i),(4,dI j)]) (λ_=>[]) (λj=>i-j) 0 rfl (by simp[ai.cat,ai,a9]) ⟨by omega,by omega⟩ rfl ?_
      rintro j ⟨z,q⟩
      by_cases b:j<i
      .have p:dD (fj t j)=ab:=by
        have:=c j b;simp only[gy,bG] at this;exact this.1.1.1
       cases r:clash (fj t j) (fj t i) with
       |true =>
        refine aE tD [(47,ab),(60,ab)] 100 rfl ?_ (AK.iq (AK.r5 (cn.zero rfl ?_)))
        .simp[-ag,ai,h,b,ic,r,qi d,qi p];omega
        .have:gy t i=ae:=by
          rw[f];cases y:(bc i).all (λj=>!clash (fj t j) (fj t i)) with
          |false=>rfl
          |true=>have:=bX.1 y j b;simp[r] at this
         simp[ai,lD h this]
       |false =>
        refine aE tD [(47,ab),(60,ae)] 100 rfl ?_ (AK.again (j+1) rfl ?_ ?_ ?_ rfl)
        .simp[-ag,ai,h,b,ic,r,qi d,qi p,bD];omega
        .simp[ai.cat,ai,a9]
        .refine⟨by omega,λn a=>?_⟩
         rcases fU.1 a with a|rfl
         .exact q n a
         .exact r
        .omega
      .have b:j=i:=by omega
       subst b;refine aE tD [(47,ae)] 100 rfl (by simp[ai]) (AK.leave rfl rfl ?_)
       refine aE tD [] 100 rfl ?_ (AK.again (j+1) rfl ?_ ?_ ?_ rfl)
       .simp[ai,bD];omega
       .simp[ai.cat,ai,a9]
       .refine⟨by omega,λn a=>?_⟩
        rcases fU.1 a with a|rfl
        .exact c n a
        .rw[f,bX];intro k u;simp[q k u]
       .omega
    .have g:i≠0:=λe=>s (.inl e)
     have o:bj (fj t (i-1)) (fj t i)=ae:=by simpa usingλe=>s (.inr e)
     have l:bD .i64 ((i:Int)-1):=by simp only[bD];omega
     have v:((i:Int)-1).toNat=i-1:=by omega
     refine aE tD [(8,ab),(16,ab),(24,ab),(29,ab),(42,ab)] 100 rfl ?_ (AK.iq (cn.zero rfl ?_))
     .simp[-ag,ai,h,ic,px,d,m,o,l,v];omega
     .simp[ai,lD h (by simp[gy,g,o])]
   .refine aE tD [(8,ab),(16,ab),(24,ae)] 100 rfl ?_ (AK.iq (cn.zero rfl ?_))
    .simp[-ag,ai,h,ic,px,d,m]
    .simp[ai,lD h (by simp[gy,m])]
  .refine aE tD [(8,ab),(16,ae)] 100 rfl ?_ (AK.iq (cn.zero rfl ?_))
   .simp[-ag,ai,h,ic,d]
   .simp[ai,lD h (by simp[gy,d])]
 .refine aE tD [(8,ae)] 100 rfl (by simp[ai];omega) (AK.leave rfl rfl ?_)
  refine aE tD [] 100 rfl ay (AK.br rfl ?_);simp only[ai,dt];rw[bX.2 (λj z=>c j (by omega))]
  simp;omega
end Go.AM.R1
namespace Go.AM
open Go.Conc (G)
def Gq(σ σ':List aW):Prop:=∀ (s:St),aJ σ s->aJ σ' s/\Step σ s σ' s/\∀ (v:ak)(d:D),dh σ s v d->dh σ' s v d
def Xt:aW->aW->Option (List Prop)
 |.vec E k n es,.vec E' k' n' es'=>match aA E E',aA k k' with
  |true,ab=>aa [n=n',a9 n es es']
  |_,_=>af
 |.cells E cs,.cells E' m8=>match aA E E' with
  |true=>OR cs m8
  |false=>af
 |.dead,.dead=>aa []
 |.dM H,.dM H'=>aa [H=H']
 |.loop N φ r,.loop N' φ' r'=>aa [aW.loop N φ r=aW.loop N' φ' r']
 |.rC,.rC=>aa []
 |.buf E k n es,.buf E' k' n' es'=>match aA E E',aA k k' with
  |true,ab=>aa [n=n',a9 n es es']
  |_,_=>af
 |_,_=>af
def uC:List aW->List aW->Option (List Prop)
 |[],[]=>aa []
 |a::r,b::q=>match Xt a b with
  |some p=>match uC r q with
   |some ps=>aa (kl p ps)
   |none=>af
  |none=>af
 |_,_=>af
def MY(B B':aW):Prop :=
 (∀ E k n es,B=.vec E k n es->∃ es',B'=.vec E k n es'/\a9 n es es')/\((∀ E k n es,B≠.vec E k n es)->(∀ E k n es,B'≠.vec E k n es)/\(B=B'∨(∃ E cs m8,B=.cells E cs/\B'=.cells E m8/\∀ σ s vs,dX σ s vs cs->dX σ s vs m8)∨∃ E k n es es',B=.buf E k n es/\B'=.buf E k n es'/\a9 n es es'))
theorem Qn{B B':aW}{ps:List Prop}(h:Xt B B'=aa ps)(b:ai ps):MY B B':=by
 unfold Xt at h;split at h
 .rename_i E k n es E' k' n' es'
  split at h
  .rename_i d f
   cases h;have a:=bE d;have i:=bE f;obtain⟨j,g⟩:n=n'/\a9 n es es':=b;subst a i j;refine⟨λE0 k0 n0 Vo he=>?_,λm=>absurd rfl (m _ _ _ _)⟩
   cases he;exact⟨es',rfl,g⟩
  .cases h
 .rename_i E cs E' m8
  split at h
  .rename_i d
   have a:=bE d;subst a;exact⟨λ_ _ _ _ he=>(by cases he),λ_=>⟨λ_ _ _ _ he=>(by cases he),.inr (.inl ⟨E,cs,m8,rfl,rfl,λσ s vs r=>DD h b r⟩)⟩⟩
  .cases h
 .exact⟨λ_ _ _ _ he=>(by cases he),λ_=>⟨λ_ _ _ _ he=>(by cases he),.inl rfl⟩⟩
 .cases h
  rename_i H H'
  have e:H=H':=b;subst e;exact⟨λ_ _ _ _ he=>(by cases he),λ_=>⟨λ_ _ _ _ he=>(by cases he),.inl rfl⟩⟩
 .cases h
  rename_i N φ r o l r'
  have e:aW.loop N φ r=aW.loop o l r':=b;exact⟨λ_ _ _ _ he=>(by cases he),λ_=>⟨λ_ _ _ _ he=>(by cases he),.inl e⟩⟩
 .exact⟨λ_ _ _ _ he=>(by cases he),λ_=>⟨λ_ _ _ _ he=>(by cases he),.inl rfl⟩⟩
 .rename_i E k n es E' k' n' es'
  split at h
  .rename_i d f
   cases h;have a:=bE d;have i:=bE f;obtain⟨j,g⟩:n=n'/\a9 n es es':=b;subst a i j;exact⟨λ_ _ _ _ he=>(by cases he),λ_=>⟨λ_ _ _ _ he=>(by cases he),.inr (.inr ⟨E,k,n,es,es',rfl,rfl,g⟩)⟩⟩
  .cases h
 .cases h
theorem Bz:∀ {σ σ':List aW}{ps:List Prop},uC σ σ'=aa ps->ai ps->σ'.length=σ.length/\∀ (l:Nat)(B B':aW),σ[l]?=aa B->σ'[l]?=aa B'->MY B B'
 |[],[],_,_,_=>⟨rfl,λl B B' h=>by simp at h⟩
 |[],_::_,_,h,_=>by cases h
 |_::_,[],_,h,_=>by cases h
 |a::r,b::q,ps,h,d=>by
  simp only[uC] at h;split at h
  .rename_i p g
   split at h
   .rename_i p2 h2
    cases h;rw[ai.cat] at d;obtain⟨f,e⟩:=Bz h2 d.2;refine⟨by simp[f],λl B B' hB lb=>?_⟩
    cases l with
    |zero=>simp at hB lb;subst hB lb;exact Qn g d.1
    |succ l=>exact e l B B' (by simpa using hB) (by simpa using lb)
   .cases h
  .cases h
theorem mF{σ σ':List aW}{ps:List Prop}(h:uC σ σ'=aa ps)(hp:ai ps):Gq σ σ':=by
 obtain⟨T,hg⟩:=Bz h hp;intro s Q;have U:∀ (l:Nat) (B:aW),σ[l]?=aa B->∃ B',σ'[l]?=aa B'/\MY B B':=by
  intro l B i;have u:l<σ'.length:=by rw[T];exact(bt.1 i).1
  exact⟨σ'[l],aR u,hg l B _ i (aR u)⟩
 have get:∀ (l:Nat) (B':aW),σ'[l]?=aa B'->∃ B,σ[l]?=aa B/\MY B B':=by
  intro l B' i;have u:l<σ.length:=by rw[<-T];exact(bt.1 i).1
  exact⟨σ[l],aR u,hg l _ B' (aR u) i⟩
 have j:∀ (l:Nat),(∀ B,σ[l]?=aa B->B.gr=ae)->∀ B,σ'[l]?=aa B->B.gr=ae:=by
  intro l hn B' he;obtain⟨B,i,p⟩:=get l _ he;have y:=hn B i;rcases(p.2 (λE k n es e=>by rw[e] at y;cases y)).2 with rfl|⟨E,cs,F,rfl,rfl,_⟩|⟨E,k,n,es,es',rfl,rfl,_⟩
  .exact y
  .rfl
  .cases y
 have I:∀ (l:Nat) E k n es,σ'[l]?=aa (aW.buf E k n es)->∃ es',σ[l]?=aa (aW.buf E k n es'):=by
  intro l E k n es he;obtain⟨B,i,p⟩:=get l _ he
  by_cases q:∃ E k n es,B=aW.vec E k n es
  .obtain⟨E1,k1,n1,S,rfl⟩:=q;obtain⟨es',f,_⟩:=p.1 _ _ _ _ rfl;cases f
  .rcases(p.2 (λE k n es e=>q ⟨E,k,n,es,e⟩)).2 with rfl|⟨E,cs,F,rfl,h,_⟩|⟨E,k,n,es,es',rfl,h,_⟩
   .exact⟨es,i⟩
   .cases h
   .cases h;exact⟨_,i⟩
 have G:∀ (l:Nat) E k n es,σ'[l]?=aa (aW.vec E k n es)->∃ es',σ[l]?=aa (aW.vec E k n es'):=by
  intro l E k n es he;obtain⟨B,i,p⟩:=get l _ he
  by_cases q:∃ E k n es,B=aW.vec E k n es
  .obtain⟨E1,k1,n1,S,rfl⟩:=q;obtain⟨es',f,_⟩:=p.1 _ _ _ _ rfl;cases f;exact⟨S,i⟩
  .exact absurd rfl ((p.2 (λE k n es e=>q ⟨E,k,n,es,e⟩)).1 E k n es)
 have W:∀ (v:ak) (a:A),gB σ s v a->gB σ' s v a:=by
  intro v a r;cases a with
  |c x=>exact r
  |ptr l o=>exact⟨j l r.1,r.2⟩
  |vec l k n es =>
   refine⟨r.1,by rw[T];exact r.2.1,λE k' n' es' he=>?_⟩
   obtain⟨O,g⟩:=G l E k' n' es' he;exact r.2.2 E k' n' O g
  |ref l=>exact⟨j l r.1,r.2⟩
  |bp l w =>
   obtain⟨lv,r1,r2,r3⟩:=r;refine⟨lv,r1,by rw[T];exact r2,λE k' n' es' he=>?_⟩
   obtain⟨O,g⟩:=I l E k' n' es' he;exact r3 E k' n' O g
  |any=>exact r
 have z:∀ (vs:List ak) (cs:List A),dX σ s vs cs->dX σ' s vs cs:=by
  intro vs
  induction vs with
  |nil=>intro cs r;cases cs with|nil=>trivial|cons _ _=>exact r.elim
  |cons v vs ih=>intro cs r;cases cs with|nil=>exact r.elim|cons c cs=>exact⟨W _ _ r.1,ih _ r.2⟩
 have V:∀ (v:ak) (e:E1),mc σ s v e->mc σ' s v e:=by
  intro v e r;cases e with
  |one a=>exact W _ _ r
  |agg cs=>obtain⟨vs,f,g⟩:=r;exact⟨vs,f,z _ _ g⟩
 have Y:∀ (vs:List ak) (cs:List E1),gI σ s vs cs->gI σ' s vs cs:=by
  intro vs
  induction vs with
  |nil=>intro cs r;cases cs with|nil=>trivial|cons _ _=>exact r.elim
  |cons v vs ih=>intro cs r;cases cs with|nil=>exact r.elim|cons c cs=>exact⟨V _ _ r.1,ih _ r.2⟩
 have R:∀ (v:ak) (d:D),dh σ s v d->dh σ' s v d:=by
  intro v d r;cases d with
  |e x=>exact V _ _ r
  |fW xs=>obtain⟨vs,f,g⟩:=r;exact⟨vs,f,Y _ _ g⟩
  |any=>trivial
 refine⟨⟨Q.mem,by rw[Q.len,T],?_,Q.gb,Q.lt,Q.own⟩,⟨ba _,λ_ _ _=>rfl,λ_ _ _ h=>h,λ_ _ _ _=>rfl,λL h b m=>.inr ⟨L,h,m⟩,?_,rfl,rfl,rfl,rfl⟩,R⟩
 .intro l B' L J hL;obtain⟨B,i,p⟩:=get l B' J;have m:=Q.box l B L i hL
  by_cases q:∃ E k n es,B=aW.vec E k n es
  .obtain⟨E,k,n,es,rfl⟩:=q;obtain⟨es',rfl,he⟩:=p.1 _ _ _ _ rfl;refine⟨m.1.C7 he,?_⟩;rcases m.2 with⟨f,g⟩|f
   .exact .inl ⟨f,g.C7 he⟩
   .exact .inr f
  .rcases(p.2 (λE k n es e=>q ⟨E,k,n,es,e⟩)).2 with rfl|⟨E,cs,F,rfl,rfl,Z⟩|⟨E,k,n,es,es',rfl,rfl,Z⟩
   .cases B with
    |cells E cs=>obtain⟨b,vs,f,g,M,C⟩:=m;exact⟨b,vs,f,g,z _ _ M,C⟩
    |vec E k n es=>exact absurd ⟨E,k,n,es,rfl⟩ q
    |dM H=>exact m
    |dead=>trivial
    |loop N φ r=>obtain⟨l,tmps,fn,df,f,g,M,C,h5⟩:=m;exact⟨l,tmps,fn,df,f,g,M,λt=>R _ _ (C t),h5⟩
    |rC=>exact m
    |buf E k n es=>exact m
   .obtain⟨b,vs,f,g,M,C⟩:=m;exact⟨b,vs,f,g,z _ _ (Z _ _ _ M),C⟩
   .rcases m with m|⟨b,c0,vs,zs,f,g,M,C,h5,h6,h7⟩
    .exact .inl m
    .exact .inr ⟨b,c0,vs,zs,f,g,M,C,h5,h6.C7 Z,h7⟩
 .intro l B L i hL;obtain⟨B',J,p⟩:=U l B i;refine⟨B',L,J,hL,?_⟩
  by_cases q:∃ E k n es,B=aW.vec E k n es
  .obtain⟨E,k,n,es,rfl⟩:=q;obtain⟨es',rfl,he⟩:=p.1 _ _ _ _ rfl;exact⟨λ_=>rfl,ba _⟩
  .rcases(p.2 (λE k n es e=>q ⟨E,k,n,es,e⟩)).2 with rfl|⟨E,cs,F,rfl,rfl,Z⟩|⟨E,k,n,es,es',rfl,rfl,_⟩
   .exact iN.refl _ _
   .exact rfl
   .exact⟨λ_=>rfl,ba _⟩
section
variable {P:an}{X:Cx P}{N:Nat}{Qf:Post}{K:List It}{φ:Fr}{σ:List aW}{c:Code}
theorem AW.ghost{Q:Post}{g:Fr}{σ':List aW}(h:∀ s a,cw N σ s φ a->aJ σ s->∃ s':St,s'.w=s.w/\cw N σ' s' g a/\aJ σ' s'/\Step σ s σ' s')(k:AW X N c Q g σ'):AW X N c Q φ σ:=by
 intro s a l hh b kk cs S hb hQ;obtain⟨s',m,j,f,st⟩:=h s a l hh;have d:=st.oA hh;refine .ghost (.of hh f m d) ?_;exact k s' a j f b kk cs S hb λe i σ2 s2 a2 q n h2 oT=>hQ e i σ2 s2 a2 q n h2 (d.trans oT)
theorem AK.ghost{b:Fr}{σ':List aW}(h:∀ s a,cw N σ s φ a->aJ σ s->∃ s':St,s'.w=s.w/\cw N σ' s' b a/\aJ σ' s'/\Step σ s σ' s')(k:AK X N Qf (.code c::K) .normal b σ'):AK X N Qf (.code c::K) .normal φ σ :=
 AW.ghost h k
theorem cw.bs{σ':List aW}{s:St}{a:Act}(hb:Gq σ σ')(f:cw N σ s φ a)(hh:aJ σ s):cw N σ' s φ a:=⟨f.size,f.defers.imp λ_ h1=>h1.mono (hb s hh).2.1.ext,λt=>(hb s hh).2.2 _ _ (f.slot t)⟩
theorem AK.norm(σ':List aW){ps:List Prop}(h:uC σ σ'=aa ps)(b:ai ps)(k:AK X N Qf (.code c::K) .normal φ σ'):AK X N Qf (.code c::K) .normal φ σ :=
 AK.ghost (λs a d hh=>⟨s,rfl,d.bs (mF h b) hh,(mF h b s hh).1,(mF h b s hh).2.1⟩) k
theorem AK.iD(t:Nat)(E:ar)(k:Nat){k' n:Nat}{es:Nat->List C}(h:look φ t=.e (.one (.c (.sl ab k' n es))))(hn:n=0)
  (kk:AK X N Qf (.code c::K) .normal ((t,.e (.one (.vec σ.length k n es)))::φ) (σ++[.vec E k n es])):AK X N Qf (.code c::K) .normal φ σ:=by
 refine AK.ghost (λs a b hh=>?_) kk
 have f:=b.slot t;rw[h] at f;have h1:=Rd.u6 (k:=k') (k':=k) (.inr hn) (ga f);have d:eZ (σ++[.vec E k n es]) { s with β:=s.β++[⟨a.tmps.getD t aj,[]⟩] } (.vec E k n es) ⟨a.tmps.getD t aj,[]⟩:=⟨h1.loose,.inl ⟨⟨rfl,hn⟩,h1⟩⟩;obtain⟨g,g2⟩:=hh.ix (.refl _ _) rfl hh d (by simp)
 refine⟨{ s with β:=s.β++[⟨a.tmps.getD t aj,[]⟩] },rfl,⟨b.size,b.defers.imp λ_ h1=>h1.mono g2.ext,λu=>?_⟩,g,g2⟩
 simp only[look];cases hb:aA t u with
 |false=>exact(b.slot u).mono g2.ext hh.len
 |true =>
  have e:=bE hb;subst e;exact pP (L:=⟨a.tmps.getD t aj,[]⟩) (by simp) (by simp[<-hh.len]) d
theorem AK.j4{S:Type}(I:S->Prop)(fr:S->Fr)(st:S->List aW)(k:S->Nat)(x:S){ps qs:List Prop}(u:r6 φ (fr x)=aa ps)(G:ai ps)(m:uC σ (st x)=aa qs)(D:ai qs)(E:I x)
  (round:∀ x,I x->AK X N (λe i σ'=>match e with
   |.normal=>∃ y,I y/\k y<k x/\r7 i (fr y)/\Gq σ' (st y)
   |e=>AK X N Qf K e i σ') [.code c] .normal (fr x) (st x)):AK X N Qf (.code (.loop c)::K) .normal φ σ:=by
 intro s a B hh b kk cs SS hb hQ;have h:=mF m D;obtain⟨l,p,_⟩:=h s hh;refine wh (λn a' s'=>∃ y,I y/\cw N (st y) s' (fr y) a'/\aJ (st y) s'/\cC σ s (st y) s'/\k y=n) ?_ ?_ ⟨x,E,(B.le (dK u G)).bs h hh,l,p.oA hh,rfl⟩
 .rintro n a' s' ⟨y,w,o,f,d,e⟩;exact⟨st y,f,λJ h1=>⟨y,w,o.rely h1 f,f.rely h1,d.trans h1.stepW,e⟩⟩
 rintro n a' s' ⟨y,w,o,f,d,rfl⟩ F;refine round y w s' a' o f b (.inLoop c::kk) cs SS hb ?_;intro e C σ2 s2 a2 q A h2 oT;cases e with
 |normal =>
  obtain⟨z,H,t,j,g⟩:=q;obtain⟨v,r,_⟩:=g s2 h2;exact F a2 s2 (k z) t ⟨z,H,(A.le j).bs g h2,v,d.trans (oT.trans (r.oA h2)),rfl⟩
 |_=>exact ends.cons (λ_ _=>rfl) (by simp) (hQ _ _ _ _ _ q A h2 (d.trans oT))
theorem AK.gw{S:Type}{I:S->Prop}{fr:S->Fr}{st:S->List aW}{b:S->Nat}{x:S}{Qr:Post}(y:S){ps qs:List Prop}(g:r6 φ (fr y)=aa ps)(h:ai ps)(d:uC σ (st y)=aa qs)(j:ai qs)(i:I y)(f:b y<b x) :
  AK X N (λe a σ'=>match e with
   |.normal=>∃ y,I y/\b y<b x/\r7 a (fr y)/\Gq σ' (st y)
   |e=>Qr e a σ') [] .normal φ σ:=⟨y,i,f,dK g h,mF d j⟩
end
theorem Ev.forget{P:an}{X:Cx P}{f:aX}{args:List D}{res res':D}{σ':List aW}(h:Ev X f args [] res σ'){ps:List Prop}(g:Bf res res'=aa ps)(i:ai ps)(a:uy 0 res'=ab):Ev X f args [] res' []:=by
 refine⟨h.1,λs vs hr hh S cs hS=>h.2 s vs hr hh S cs λfr v e hl hv h1 st=>?_⟩
 have n:s.β=[]:=gh hh.len;have m:eW e { e with β:=[] }:=⟨rfl,λ_ _ _ h=>h,λ_ _ _=>rfl,h1.mem,λb hb=>.inl (by
  rcases hb with hb|⟨L,j,_⟩
  .exact hb
  .simp at j)⟩
 refine .ghost m (hS fr v { e with β:=[] } (hl.mono λ_ _ _ h=>h) ?_ ⟨h1.mem,rfl,by simp,by simp,by simp,λb hb=>⟨(h1.own b hb).1,by simp⟩⟩ ⟨st.size,st.eH,st.mem,st.jq,by simp,λl B L k=>by simp at k,st.os,st.tape,st.output,st.own⟩)
 .have h2:=oU g i hv;have:=dh.sub (ks:=[]) (σ:=σ') (σ':=[]) (s:=e) (β':=[]) (d:=res') rfl rfl (by rw[BA a];exact h2) a
  exact this
end Go.AM
namespace Go.AM
theorem cG.imp{σ:List aW}{s:St}{d a:D}{ds ES:List D}(h:∀ v,dh σ s v d->dh σ s v a)(k:∀ vs,cG σ s vs ds->cG σ s vs ES):∀ vs,cG σ s vs (d::ds)->cG σ s vs (a::ES)
 |[],r=>r.elim
 |v::vs,r=>⟨h v r.1,k vs r.2⟩
abbrev dP(f:bJ):D:=.e (.agg [.c (.str f.1),.c (.str f.2)])
abbrev Q0(a:List bJ)(b:Bool):D:=.fW [.one (.c (.sl ae 2 a.length (cF.fn a))),.one (.c (.bool b))]
namespace R1
open Go.Proofs
variable {X:Cx ah}
def SH:dC:=λargs σ=>match args,σ with
 |[c],[]=>match lg 2 c with
  |none=>af
  |some (b,a)=>aa (dB (dt (cF.list b a)),[],[cF.fits b a])
 |_,_=>af
theorem t58:eb X 58 SH:=by
 intro args σ res σ' obs h b;unfold SH at h;split at h
 .split at h
  .cases h
  rename_i d c a
  cases h;exact(Hv _ ).args (λ_ vs=>cG.imp (λ_=>cF.ko a b) (λ_ r=>r) vs)
 .cases h
def ct3:List (Nat×dC):=(58,SH)::Z9
theorem YG:b5 X ct3:=b5.cons t58 tD
end R1
theorem iv.cu{α:Type}(c:iv α)(l:List α)(x:α):a9 (l.length+1) (cX l.length (c.fn l) (λi=>[c.enc x].getD i [])) (c.fn (l++[x])):=by
 intro i hi;unfold cX iv.fn vm
 by_cases h:i<l.length
 .simp[h,ag,b7 h]
 .have e:i=l.length:=by omega
  subst e;simp[ag]
theorem a9.same{n:Nat}{f:Nat->List C}:a9 n f f:=λ_ _=>rfl
theorem a9.nil{f g:Nat->List C}:a9 0 f g:=λi h=>by omega
namespace R1
open Go.Proofs
variable {X:Cx ah}
def ct5:List (Nat×dC):=ct3
theorem YH:b5 X ct5:=YG
end R1
end Go.AM
namespace Go.AM.R1
open Go.Proofs
variable {X:Cx ah}
def qW(f:bJ)(acc:List bJ×Bool)(g:Bs):List bJ×Bool:=if acc.2=ab then acc else if bj g f.1=ab then acc else (acc.1++[f],ab)
def N5(f:bJ)(a:List bJ×Bool)(g:bJ):List bJ×Bool:=if g.1=f.1 then a else (a.1++[g],a.2)
def oy(f:bJ)(acc:List bJ×Bool)(g:bJ):List bJ×Bool:=N5 f (qW f acc g.1) g
def ky(f:bJ)(t:List bJ):List bJ×Bool:=t.foldl (oy f) ([],ae)
def sD(t:List bJ)(f:bJ):List bJ:=if (ky f t).2=ab then (ky f t).1 else (ky f t).1++[f]
theorem fileAt{t:List bJ}{i:Nat}(h:i<t.length):t[i]=(fj t i,Aq t i):=by
 have e:t.getD i ([],[])=t[i]:=by simp[ag,aR h]
 simp only[fj,Aq,e]
theorem CJ{f:bJ}{t:List bJ}{i:Nat}(h:i<t.length):ky f (t.take (i+1))=oy f (ky f (t.take i)) (fj t i,Aq t i):=by
 rw[mS,aR h,fileAt h];simp[ky]
theorem CK(f:bJ)(acc:List bJ×Bool)(g:Bs):(qW f acc g).1.length<=acc.1.length+1:=by
 unfold qW;split
 .omega
 .split
  .omega
  .simp
theorem Lb(f:bJ)(acc:List bJ×Bool)(g:bJ):(N5 f acc g).1.length<=acc.1.length+1:=by
 unfold N5;split
 .omega
 .simp
theorem xf(f:bJ):∀ (t:List bJ)(acc:List bJ×Bool),(t.foldl (oy f) acc).1.length<=acc.1.length+2*t.length
 |[],acc=>by simp
 |g::r,acc=>by
  have c:=xf f r (oy f acc g);have a:=CK f acc g.1;have b:=Lb f (qW f acc g.1) g;simp only[g7,db];have:(oy f acc g).1.length<=acc.1.length+2:=by unfold oy;omega
  omega
abbrev dV(l:Nat)(t:List bJ):D:=.e (.one (.vec l 2 t.length (cF.fn t)))
abbrev bV(t:List bJ):aW:=.vec 129 2 t.length (cF.fn t)
theorem N6(t:List bJ)(f:bJ)(w:t.length<=4000000):Ev X 108 [cF.sl t,dP f] [] (dV 0 (sD t f)) [bV (sD t f)]:=by
 refine Ev.body Tryz.func108 rfl rfl rfl λv=>?_
 refine bP rfl ay ?_;refine AK.iD 5 129 2 rfl rfl ?_
 let A:Nat->List bJ×Bool:=λi=>ky f (t.take i)
 have b:∀ i,i<=t.length->(A i).1.length<=8000000:=by
  intro i hi;have:=xf f (t.take i) ([],ae);simp at this;show (ky f (t.take i)).1.length<=_;unfold ky;omega
 refine AK.j4 (λi=>i<=t.length) (λi:Nat=>[(0,cF.sl t),(3,.e (.one (.ptr 0 0))),(7,dI i),(5,dV 1 (A i).1),(6,dB (A i).2)]) (λi=>[.cells 129 [.c (.str f.1),.c (.str f.2)],bV (A i).1]) (λi=>t.length-i) 0 rfl ?_ rfl ?_ (by omega) ?_
 .simp[ai.cat,ai,a9,A,ky]
 .simp[ai.cat,ai,a9,A,ky]
 intro i hi
 by_cases h:i<t.length
 .have r:A (i+1)=oy f (A i) (fj t i,Aq t i):=CJ h;have s:=b i hi;generalize A i=acc at *;have u:=CK f acc (fj t i)
  apply AK.join [(0,cF.sl t),(3,.e (.one (.ptr 0 0))),(7,dI i),(5,dV 1 (qW f acc (fj t i)).1),(6,dB (qW f acc (fj t i)).2)] [.cells 129 [.c (.str f.1),.c (.str f.2)],bV (qW f acc (fj t i)).1]
  .intro l;cases a:acc.2 with
   |true =>
    have m:qW f acc (fj t i)=acc:=by unfold qW;rw[aU a]
    rw[m] at l;refine bd [(12,ab),(15,ab),(1000009,ab)] 200 rfl ?_ (l _ _ rfl ?_)
    .simp[ai,h]
    .simp[ai,ai.cat,a9.same,a]
   |false =>
    cases g:bj (fj t i) f.1 with
    |true =>
     have m:qW f acc (fj t i)=acc:=by unfold qW;rw[a,g];rfl
     rw[m] at l;refine bd [(12,ab),(15,ae),(25,ae),(1000009,ab)] 200 rfl ?_ (l _ _ rfl ?_)
     .simp[-ag,ai,h,ic,g]
     .simp[ai,ai.cat,a9.same,a]
    |false =>
     have m:qW f acc (fj t i)=(acc.1++[f],ab):=by unfold qW;rw[a,g];rfl
     rw[m] at l;refine bd [(12,ab),(15,ae),(25,ab),(1000009,ab)] 200 rfl ?_ (AK.norm _ rfl ?_ (l _ _ rfl ?_))
     .simp[-ag,ai,h,ic,g,i129];omega
     .simp[-ag,ai.cat,ai];exact cF.cu _ f
     .simp[-ag,ai.cat,ai,a9.same];exact cF.cu _ f
  .have n:A (i+1)=N5 f (qW f acc (fj t i)) (fj t i,Aq t i):=r;generalize qW f acc (fj t i)=a1 at *
   by_cases o:fj t i=f.1
   .have d:A (i+1)=a1:=by rw[n];exact aU o
    refine bd [(38,ae)] 200 rfl ?_ (AK.gw (i+1) rfl ?_ rfl ?_ ?_ ?_)
    .simp[-ag,ai,h,ic,o,bD];omega
    .rw[d];simp[ai,ai.cat,a9.same]
    .rw[d];simp[ai,ai.cat,a9.same]
    .omega
    .omega
   .have d:A (i+1)=(a1.1++[(fj t i,Aq t i)],a1.2):=by rw[n];exact aO o
    refine bd [(38,ab)] 200 rfl ?_ (AK.gw (i+1) rfl ?_ rfl ?_ ?_ ?_)
    .simp[-ag,ai,h,ic,o,bD,i129];omega
    .rw[d];simp[-ag,ai.cat,ai,a9.same];exact cF.cu _ (fj t i,Aq t i)
    .rw[d];simp[-ag,ai.cat,ai];exact cF.cu _ (fj t i,Aq t i)
    .omega
    .omega
 .have:i=t.length:=by omega
  subst this;have p:A t.length=ky f t:=by show ky f (t.take t.length)=_;rw[cq]
  have s:=b t.length (ba _);refine bd [(12,ae)] 100 rfl (by simp[ai]) (AK.leave rfl rfl ?_)
  have k:sD t f=if (A t.length).2=ab then (A t.length).1 else (A t.length).1++[f]:=by rw[p];rfl
  cases a:(A t.length).2 with
  |true =>
   rw[a,aU rfl] at k;refine bd [(46,ab)] 100 rfl ?_ (AK.norm [.cells 129 [.c (.str f.1),.c (.str f.2)],bV (sD t f)] rfl ?_ (AK.eB [1] rfl ?_ rfl rfl rfl ?_))
   .simp[ai]
   .rw[k];simp[ai,ai.cat,a9.same]
   .rw[k];simp[ai,a9.same]
   .intro j q;simp at q
  |false =>
   rw[a,aO (by simp)] at k
   refine bd [(46,ae)] 100 rfl ?_ (AK.norm [.cells 129 [.c (.str f.1),.c (.str f.2)],bV (sD t f)] rfl ?_ (AK.eB [1] rfl ?_ rfl rfl rfl ?_))
   .simp[ai,i129];omega
   .rw[k];simp[-ag,ai,ai.cat];exact cF.cu _ f
   .rw[k];simp[-ag,ai];exact cF.cu _ f
   .intro j q;simp at q
end Go.AM.R1
namespace Go.AM
theorem a9.app0{n:Nat}{f g:Nat->List C}:a9 n (cX 0 f g) g:=λi _=>by simp[cX]
namespace R1
open Go.Proofs
variable {X:Cx ah}
def RX:dC:=λargs σ=>match args,σ with
 |[d,.e (.agg [.c (.str b0),.c (.str b1)])],[]=>match lg 2 d with
  |none=>af
  |some (b,a)=>aa (dV 0 (sD (cF.list b a) (b0,b1)) ,[ bV (sD (cF.list b a) (b0,b1))],[cF.fits b a,((cF.list b a)).length<=4000000])
 |_,_=>af
theorem t108:eb X 108 RX:=by
 intro args σ res σ' obs h a;unfold RX at h;split at h
 .split at h
  .cases h
  rename_i d c b
  cases h;exact(N6 _ _ (a.2)).args (λ_ vs=>cG.imp (λ_=>cF.ko b a.1) (cG.imp (λ_ r=>r) (λ_ r=>r)) vs)
 .cases h
def ct6:List (Nat×dC):=(108,RX)::ct5
theorem Hx:b5 X ct6:=b5.cons t108 (YH)
def fT(t:List bJ)(p x:Bs):List bJ×Bool :=
 if dt t=ab/\dD p=ab/\ef x=ab then (if dt (sD t (p,x))=ab then (sD t (p,x),ab) else (t,ae)) else ([],ae)
abbrev tVB(l:Nat)(t:List bJ)(b:Bool):D:=.fW [.one (.vec l 2 t.length (cF.fn t)),.one (.c (.bool b))]
theorem xe{t:List bJ}(h:dt t=ab):t.length<=6:=by
 simp only[dt,bG,bh] at h;exact h.2
theorem uk(t:List bJ)(p x:Bs):Ev X 90 [cF.sl t,dS p,dS x] [] (tVB 0 (fT t p x).1 (fT t p x).2) [bV (fT t p x).1]:=by
 refine Ev.body Tryz.func90 rfl rfl rfl λi=>?_
 have c:¬(dt t=ab/\dD p=ab/\ef x=ab)->fT t p x=([],ae):=λh=>aO h
 cases b:dt t with
 |false =>
  rw[c (by simp[b])]
  refine aE Hx [(10,ae)] 100 rfl ?_ ?_
  .simp[ai,cF.list_fn,cF.aH,b]
  .refine AK.iD 6 129 2 rfl rfl (AK.norm [bV []] rfl ?_ (AK.eB [0] rfl ?_ rfl rfl rfl ?_))
   .simp[ai,ai.cat,a9]
   .simp[ai,ai.cat,a9]
   .intro j a;simp at a
 |true =>
  have k:=xe b;cases d:dD p with
  |false =>
   rw[c (by simp[d])]
   refine aE Hx [(10,ab),(14,ae)] 100 rfl ?_ ?_
   .simp[ai,cF.list_fn,cF.aH,b,d]
   .refine AK.iD 6 129 2 rfl rfl (AK.norm [bV []] rfl ?_ (AK.eB [0] rfl ?_ rfl rfl rfl ?_))
    .simp[ai,ai.cat,a9]
    .simp[ai,ai.cat,a9]
    .intro j a;simp at a
  |true =>
   cases e:ef x with
   |false =>
    rw[c (by simp[e])]
    refine aE Hx [(10,ab),(14,ab),(19,ae)] 100 rfl ?_ ?_
    .simp[ai,cF.list_fn,cF.aH,b,d,e]
    .refine AK.iD 6 129 2 rfl rfl (AK.norm [bV []] rfl ?_ (AK.eB [0] rfl ?_ rfl rfl rfl ?_))
     .simp[ai,ai.cat,a9]
     .simp[ai,ai.cat,a9]
     .intro j a;simp at a
   |true =>
    have f:fT t p x=if dt (sD t (p,x))=ab then (sD t (p,x),ab) else (t,ae):=aU ⟨b,d,e⟩
    cases g:dt (sD t (p,x)) with
    |true =>
     rw[g,aU rfl] at f;rw[f];refine aE Hx [(10,ab),(14,ab),(19,ab),(29,ab)] 100 rfl ?_ (AK.norm [bV (sD t (p,x))] rfl ?_ (AK.eB [0] rfl ?_ rfl rfl rfl ?_))
     .simp[ai,cF.list_fn,cF.aH,b,d,e,g];omega
     .simp[ai,ai.cat,cF.list_fn,a9.same]
     .simp[ai,ai.cat,cF.list_fn,a9.same]
     .intro j a;simp at a
    |false =>
     rw[g,aO (by simp)] at f
     rw[f];refine aE Hx [(10,ab),(14,ab),(19,ab),(29,ae)] 100 rfl ?_ (AK.norm [bV (sD t (p,x)),bV t] rfl ?_ (AK.eB [1] rfl ?_ rfl rfl rfl ?_))
     .simp[ai,cF.list_fn,cF.aH,b,d,e,g,i129];omega
     .simp[ai,ai.cat,cF.list_fn,a9.same,a9.app0]
     .simp[ai,ai.cat,a9.app0]
     .intro j a;simp at a
theorem EC(t:List bJ)(p x:Bs):Ev X 90 [cF.sl t,dS p,dS x] [] (Q0 (fT t p x).1 (fT t p x).2) [] :=
 (uk t p x).forget rfl (by simp[ai,ai.cat,a9.same]) rfl
def YI:dC:=λargs σ=>match args,σ with
 |[f,.e (.one (.c (.str b))),.e (.one (.c (.str c)))],[]=>match lg 2 f with
  |none=>af
  |some (d,a)=>aa (Q0 (fT (cF.list d a) b c).1 (fT (cF.list d a) b c).2,[],[cF.fits d a])
 |_,_=>af
theorem t90:eb X 90 YI:=by
 intro args σ res σ' obs h b;unfold YI at h;split at h
 .split at h
  .cases h
  rename_i d c a
  cases h;exact(EC _ _ _ ).args (λ_ vs=>cG.imp (λ_=>cF.ko a b) (cG.imp (λ_ r=>r) (cG.imp (λ_ r=>r) (λ_ r=>r))) vs)
 .cases h
def ct7:List (Nat×dC):=(90,YI)::ct6
theorem YJ:b5 X ct7:=b5.cons t90 (Hx)
end R1
end Go.AM
namespace Go.AM.R1
def dl(s:Bs)(i:Nat):Int:=(cv s i-97) % 256
def k5(t:Bs)(e:Nat):Bool:=(dl t (e-1)+2*dl t (e-2)+3*dl t (e-3)) % 5==0
def tf(t:Bs)(f:Nat):Nat->Nat
 |0=>min (f+8) t.length
 |k+1=>if t.length<=f+(7-k) then t.length else if k5 t (f+(7-k)) then f+(7-k) else tf t f k
def cutAt(t:Bs)(f:Nat):Nat:=tf t f 5
theorem FR(t:Bs)(f:Nat)(a:f<t.length):∀ k,k<=5->f<tf t f k/\tf t f k<=t.length/\tf t f k<=f+8
 |0,_=>by simp only[tf];omega
 |k+1,b=>by
  simp only[tf];split
  .omega
  .split
   .omega
   .exact FR t f a k (by omega)
theorem nz(t:Bs)(f:Nat)(a:f<t.length):f<cutAt t f/\cutAt t f<=t.length/\cutAt t f<=f+8:=FR t f a 5 (by omega)
def mI(t:Bs):Nat->Nat->List Nat
 |0,_=>[]
 |k+1,f=>if f<t.length then cutAt t f::mI t k (cutAt t f) else []
def Ao(t:Bs):List Nat:=mI t t.length 0
def fw(t:Bs):Nat->Nat->List Bs
 |0,_=>[]
 |k+1,f=>if f<t.length then (t.drop f).take (cutAt t f-f)::fw t k (cutAt t f) else []
def pieces(t:Bs):List Bs:=fw t t.length 0
def gd(l:List Bs):Option Bs:=if ef l.flatten&&(pieces l.flatten==l) then aa l.flatten else af
def bT(p:Bs):Bool:=decide (1<=p.length)&&decide (p.length<=8)&&ck p
def codeOf(p:Bs):Int:=p.foldl (λn b=>27*n+((b.toNat:Int)-97) % 256+1) 0
def cD(k:Int):Bool:=decide (1<=k)&&decide (k<=99)
def jd(k:Int)(p:Bs):Int:=(codeOf p*(2*k+1)+k*7919) % 999999999989
def cB(n:Nat):Nat:=if n<1∨8<n then 0 else if n<=2 then 2 else if n<=4 then 4 else 8
def iQ(p:Bs):Bs:=if bT p then p++List.replicate (cB p.length-p.length) 46 else []
def strip(b:Bs):Bs:=(b.reverse.dropWhile (·==46)).reverse
def fb(b:Bs):Option Bs:=if bT (strip b)&&(iQ (strip b)==b) then aa (strip b) else af
abbrev cM:=Int×Bs
abbrev bC:=Int×List cM
def right(k:Int)(x:cM):Bool:=match fb x.2 with|some p=>jd k p==x.1|none=>ae
def Ah(l:List Int):Bool:=(bc l.length).all λi=>i==0||decide (l.getD (i-1) 0<l.getD i 0)
def ju(k:Int)(p:bC):Bool :=
 decide (1<=p.1)&&decide (p.1<=99)&&cD k&&decide (1<=p.2.length)&&decide (p.2.length<=4)&&p.2.all (right k)&&Ah (p.2.map (·.1))
def chunk(k:Int)(x:cM):Option Bs:=match fb x.2 with|some p=>if cD k&&(jd k p==x.1) then aa p else af|none=>af
def dL(k:Int)(p:bC) (n:Int):Option Bs:=match p.2.find? (λx=>x.1==n) with|some x=>chunk k x|none=>af
def je(p:bC)(ns:List Int):bC:=(p.1,p.2.filter λx=>ns.contains x.1)
def sh(l:List cM)(x:cM):List cM:=match l with
 |[]=>[x]
 |y::r=>if x.1<y.1 then x::y::r else y::sh r x
def kS(no k:Int)(ps:List Bs):bC:=(no,ps.foldl (λl p=>sh l (jd k p,iQ p)) [])
abbrev dv:=Int×Int
def k8(s:dv):Bool:=decide (0<=s.1)&&decide (s.1<999999999989)&&decide (1<=s.2)&&decide (s.2<=99)
def qq(l:List dv)(s:dv):List dv:=match l with
 |[]=>[s]
 |y::r=>if y.1<s.1 then y::qq r s else s::(y::r).filter (λz=>!(z.1==s.1))
def ua(l:List dv) (n:Int):Int:=match l.find? (λs=>s.1==n) with|some s=>s.2|none=>0
def fN(l:List bC):List dv:=l.flatMap λp=>p.2.map λx=>(x.1,p.1)
def indexOf(l:List bC):List dv:=if (fN l).all k8 then (fN l).foldl qq [] else []
abbrev gL:=Bs×List Int
abbrev dA:=Int×List gL
def yF(k:Int)(f:bJ):gL:=(f.1,(pieces f.2).map (jd k))
def kq(no k:Int)(t:List bJ):dA:=(no,t.map (yF k))
def nB(k:Int)(l:List dv)(out:List Bs)(p:Bs):List Bs:=if ua l (jd k p)==0&&!out.contains p then out++[p] else out
def jX(k:Int)(t:List bJ)(l:List dv):List Bs:=(t.flatMap λf=>pieces f.2).foldl (nB k l) []
def dF(k:Int)(ps:List bC) (n:Int):Option Bs:=ps.findSome? λp=>dL k p n
end Go.AM.R1
namespace Go.AM
def GC(cs:List C)(j:Nat):Nat×(Nat->List C):=match fZ j cs with|some (.sl _ _ n es)=>(n,es)|_=>(0,λ_=>[])
def cI:iv Int:={ k:=1,enc:=λn=>[.int .i64 n],dec:=λcs=>yp cs 0,bU:=0,inv:=λ_=>rfl,len:=λ_=>rfl }
def cS:iv Bs:={ k:=1,enc:=λs=>[.str s],dec:=λcs=>BS cs 0,bU:=[],inv:=λ_=>rfl,len:=λ_=>rfl }
namespace R1
def eY:iv cM:={ k:=2,enc:=λx=>[.int .i64 x.1,.str x.2],dec:=λcs=>(yp cs 0,BS cs 1),bU:=(0,[]),inv:=λ_=>rfl,len:=λ_=>rfl }
def oM:iv dv:={ k:=2,enc:=λx=>[.int .i64 x.1,.int .i64 x.2],dec:=λcs=>(yp cs 0,yp cs 1),bU:=(0,0),inv:=λ_=>rfl,len:=λ_=>rfl }
abbrev sP(p:bC):C:=.sl ae 2 p.2.length (eY.fn p.2)
def cP:iv bC:={ k:=2,enc:=λp=>[.int .i64 p.1,sP p],dec:=λcs=>(yp cs 0,eY.list (GC cs 1).1 (GC cs 1).2),bU:=(0,[]),inv:=λp=>by show (p.1,eY.list p.2.length (eY.fn p.2))=p;rw[eY.list_fn],len:=λ_=>rfl }
def cL:iv gL:={ k:=2,enc:=λx=>[.str x.1,.sl ae 1 x.2.length (cI.fn x.2)],dec:=λcs=>(BS cs 0,cI.list (GC cs 1).1 (GC cs 1).2),bU:=([],[]),inv:=λp=>by show (p.1,cI.list p.2.length (cI.fn p.2))=p;rw[cI.list_fn],len:=λ_=>rfl }
def dz:iv dA:={ k:=2,enc:=λx=>[.int .i64 x.1,.sl ae 2 x.2.length (cL.fn x.2)],dec:=λcs=>(yp cs 0,cL.list (GC cs 1).1 (GC cs 1).2),bU:=(0,[]),inv:=λp=>by show (p.1,cL.list p.2.length (cL.fn p.2))=p;rw[cL.list_fn],len:=λ_=>rfl }
def cH:iv (Int×Int):=oM
abbrev GB(p:bC):D:=.e (.agg [.c (.int .i64 p.1),.c (sP p)])
abbrev VM(r:Option Bs):D:=.e (.agg [.c (.str (r.getD [])),.c (.bool r.isSome)])
end R1
structure Arg (α:Type) where
 enc:α->D
 arg:D->Option (α×List Prop)
 ok:∀ {d a o},arg d=aa (a,o)->ai o->∀ {σ:List aW} {s:St} {v:ak},dh σ s v d->dh σ s v (enc a)
def aI:Arg Int:=⟨dI,λd=>match d with|.e (.one (.c (.int .i64 n)))=>aa (n,[])|_=>af,λ{d a o} h _ _ _ _ r=>by
 split at h
 .cases h;exact r
 .cases h⟩
def aS:Arg Bs:=⟨dS,λd=>match d with|.e (.one (.c (.str n)))=>aa (n,[])|_=>af,λ{d a o} h _ _ _ _ r=>by
 split at h
 .cases h;exact r
 .cases h⟩
def aB:Arg Bool:=⟨dB,λd=>match d with|.e (.one (.c (.bool n)))=>aa (n,[])|_=>af,λ{d a o} h _ _ _ _ r=>by
 split at h
 .cases h;exact r
 .cases h⟩
def aL{α:Type}(c:iv α):Arg (List α):=⟨c.sl,λd=>match lg c.k d with|some (n,es)=>aa (c.list n es,[c.fits n es])|none=>af,λ{d a o} h b _ _ _ r=>by
 split at h
 .rename_i n es he
  cases h;exact c.ko he b r
 .cases h⟩
def SE:Arg (Int×Bs):=⟨λx=>.e (.agg [.c (.int .i64 x.1),.c (.str x.2)]),λd=>match d with|.e (.agg [.c (.int .i64 a),.c (.str b)])=>aa ((a,b),[])|_=>af,λ{d a o} h _ _ _ _ r=>by
 split at h
 .cases h;exact r
 .cases h⟩
def SF:Arg (Int×Int):=⟨λx=>.e (.agg [.c (.int .i64 x.1),.c (.int .i64 x.2)]),λd=>match d with|.e (.agg [.c (.int .i64 a),.c (.int .i64 b)])=>aa ((a,b),[])|_=>af,λ{d a o} h _ _ _ _ r=>by
 split at h
 .cases h;exact r
 .cases h⟩
def JS{α:Type}(c:iv α):Arg (Int×List α):=⟨λx=>.e (.agg [.c (.int .i64 x.1),.c (.sl ae c.k x.2.length (c.fn x.2))]),λd=>match d with
 |.e (.agg [.c (.int .i64 a),.c b])=>match lg c.k (.e (.one (.c b))) with|some (n,es)=>aa ((a,c.list n es),[c.fits n es])|none=>af
 |_=>af,λ{d a o} h m _ s _ r=>by
 split at h
 .split at h
  .rename_i n es he
   cases h;obtain⟨vs,p,g⟩:=r
   match vs,g with
   |[],g=>exact g.elim
   |[_],g=>exact g.2.elim
   |_::_::_::_,g=>exact g.2.2.elim
   |[q,l],g=>exact⟨_,p,g.1,c.ko (σ:=[]) (s:=s) (v:=l) he m g.2.1,ay⟩
  .cases h
 .cases h⟩
def k6{α:Type}(A:Arg α)(res:α->D)(pre:α->List Prop):dC:=λargs σ=>match args,σ with
 |[d],[]=>match A.arg d with
  |some (a,o)=>aa (res a,[],kl o (pre a))
  |none=>af
 |_,_=>af
def qb{α i:Type}(A:Arg α)(B:Arg i)(res:α->i->D)(pre:α->i->List Prop):dC:=λargs σ=>match args,σ with
 |[d,e],[]=>match A.arg d with
  |some (a,o)=>match B.arg e with
   |some (b,p)=>aa (res a b,[],kl o (kl p (pre a b)))
   |none=>af
  |none=>af
 |_,_=>af
def C5{α i j:Type}(A:Arg α)(B:Arg i)(C:Arg j)(res:α->i->j->D)(pre:α->i->j->List Prop):dC:=λargs σ=>match args,σ with
 |[d,e,f],[]=>match A.arg d with
  |some (a,o)=>match B.arg e with
   |some (b,p)=>match C.arg f with
    |some (c,q)=>aa (res a b c,[],kl o (kl p (kl q (pre a b c))))
    |none=>af
   |none=>af
  |none=>af
 |_,_=>af
section
variable {P:an}{X:Cx P}{f:aX}{α i j:Type}{A:Arg α}{B:Arg i}{C:Arg j}
theorem eb.pf{res:α->D}{pre:α->List Prop}(h:∀ a,ai (pre a)->Ev X f [A.enc a] [] (res a) []):eb X f (k6 A res pre):=by
 intro args σ r σ' obs h1 ho;unfold k6 at h1;split at h1
 .split at h1
  .rename_i d a o b
   cases h1;rw[ai.cat] at ho;exact(h a ho.2).args λs vs=>cG.imp (λ_ r=>A.ok b ho.1 r) (λ_ r=>r) vs
  .cases h1
 .cases h1
theorem eb.te{res:α->i->D}{pre:α->i->List Prop}(h:∀ a b,ai (pre a b)->Ev X f [A.enc a,B.enc b] [] (res a b) []):eb X f (qb A B res pre):=by
 intro args σ r σ' obs h1 ho;unfold qb at h1;split at h1
 .split at h1
  .rename_i d e a o c
   split at h1
   .rename_i b p hb
    cases h1;rw[ai.cat,ai.cat] at ho;exact(h a b ho.2.2).args λs vs=>cG.imp (λ_ r=>A.ok c ho.1 r) (cG.imp (λ_ r=>B.ok hb ho.2.1 r) (λ_ r=>r)) vs
   .cases h1
  .cases h1
 .cases h1
theorem eb.H0{res:α->i->j->D}{pre:α->i->j->List Prop}(h:∀ a b c,ai (pre a b c)->Ev X f [A.enc a,B.enc b,C.enc c] [] (res a b c) []):eb X f (C5 A B C res pre):=by
 intro args σ r σ' obs h1 ho;unfold C5 at h1;split at h1
 .split at h1
  .rename_i d e g a o k
   split at h1
   .rename_i b p hb
    split at h1
    .rename_i c q l
     cases h1;rw[ai.cat,ai.cat,ai.cat] at ho;exact(h a b c ho.2.2.2).args λs vs=>cG.imp (λ_ r=>A.ok k ho.1 r) (cG.imp (λ_ r=>B.ok hb ho.2.1 r) (cG.imp (λ_ r=>C.ok l ho.2.2.1 r) (λ_ r=>r))) vs
    .cases h1
   .cases h1
  .cases h1
 .cases h1
end
end Go.AM
namespace Go.AM
open Go.Conc (G)
section drop
variable {σ1 rest:List aW}{s:St}
def TN(n:Nat):aW->Bool
 |.cells _ cs=>Ga n cs
 |.loop ..=>ae
 |_=>ab
def sQ(n:Nat):List aW->Bool
 |[]=>ab
 |a::r=>match TN n a with|true=>sQ n r|false=>ae
theorem BC{n:Nat}:∀ {l:List aW},sQ n l=ab->∀ B∈l,TN n B=ab
 |[],_,B,a=>by simp at a
 |b::r,h,B,a=>by
  simp only[sQ] at h;cases d:TN n b with
  |false=>simp[d] at h
  |true =>
   simp only[d] at h;rcases ew.1 a with rfl|a
   .exact d
   .exact BC h B a
theorem eZ.tS{B:aW}{L:Loc}(a:TN σ1.length B=ab)(h:eZ (σ1++rest) s B L):eZ σ1 (s.cut σ1.length) B L:=by
 cases B with
 |cells E cs =>
  obtain⟨b,vs,h1,h2,e,d⟩:=h;exact⟨b,vs,h1,h2,dX.xA e a,d⟩
 |vec E k n es=>exact h
 |dM H=>exact h
 |dead=>trivial
 |loop N φ r=>simp[TN] at a
 |rC=>exact h
 |buf E k n es=>exact h
theorem aJ.drop(h:aJ (σ1++rest) s)(g:sQ σ1.length σ1=ab):aJ σ1 (s.cut σ1.length):=by
 have hl:σ1.length<=s.β.length:=by rw[h.len];simp
 refine⟨h.mem,by simp[St.cut,hl],?_,?_,?_,λb hb=>⟨(h.own b hb).1,λL a=>(h.own b hb).2 L (gY a)⟩⟩
 .intro l B L f a;have e:l<σ1.length:=(bt.1 f).1;simp only[St.cut,et,e,bO] at a;exact eZ.tS (rest:=rest) (BC g B (bz f)) (h.box l B L (by rw[b7 e];exact f) a)
 .intro l l' L L' a d b hb oP;simp only[St.cut,et] at a d;split at a <;> split at d <;> first|exact h.gb l l' L L' a d b hb oP|(cases a;done)|(cases d;done)
 .intro L a b hb;exact h.lt L (gY a) b hb
theorem oJ.drop(a:nj rest=ab):∀ {ds:List Deferred}{ls:List Nat},oJ (σ1++rest) s ds ls->oJ σ1 (s.cut σ1.length) ds ls
 |[],[],_=>trivial
 |[],_::_,r=>r.elim
 |_::_,[],r=>r.elim
 |d::ds,l::ls,⟨⟨h1,L,r,h2,f⟩,b,e⟩=>by
  have hl:l<σ1.length:=by
   rcases cr l σ1.length with h|h
   .exact h
   .rw[dg h] at h1;exact absurd rfl (lH a _ (bz h1))
  rw[b7 hl] at h1;exact⟨⟨h1,L,r,by simp only[St.cut,et,hl,bO];exact h2,f⟩,b,oJ.drop a e⟩
def DF(n:Nat)(σ:List aW):Bool:=match bw n σ.length with|true=>nj (σ.drop n)|false=>ae
theorem yc{n:Nat}{σ:List aW}(h:DF n σ=ab):bw n σ.length=ab/\nj (σ.drop n)=ab:=by
 unfold DF at h;split at h
 .rename_i a;exact⟨a,h⟩
 .cases h
end drop
def Ji(n:Nat):Fr->Bool
 |[]=>ab
 |(_,d)::r=>match uy n d with|true=>Ji n r|false=>ae
theorem p0{n:Nat}:∀ {φ:Fr}{t:Nat},Ji n φ=ab->uy n (look φ t)=ab
 |[],t,_=>rfl
 |(u,d)::r,t,h=>by
  simp only[Ji] at h;cases a:uy n d with
  |false=>simp[a] at h
  |true =>
   simp only[a] at h;simp only[look];cases aA u t with
   |true=>exact a
   |false=>exact p0 h
section
variable {P:an}{X:Cx P}{N:Nat}{Qf:Post}{K:List It}{φ:Fr}{σ:List aW}{c:Code}
def mY{S:Type}{P:an}(X:Cx P)(N:Nat)(Qf:Post)(K:List It)(I:S->Prop)(d:S->Fr)(st:S->List aW)(b:S->Nat)(n:Nat)(x:S):Post:=λe a σ'=>match e with
 |.normal=>∃ y,I y/\b y<b x/\r7 a (d y)/\Ji n (d y)=ab/\∃ σ1 rest,σ'=σ1++rest/\σ1.length=n/\(sQ n σ1=ab/\nj rest=ab)/\Gq σ1 (st y)
 |e=>AK X N Qf K e a σ'
theorem AK.cd{S:Type}(n:Nat)(I:S->Prop)(fr:S->Fr)(st:S->List aW)(B:S->Nat)(x:S){ps qs:List Prop}(E:r6 φ (fr x)=aa ps)(W:ai ps)(o:uC σ (st x)=aa qs)(T:ai qs)(hn:σ.length=n)(U:I x)
  (round:∀ x,I x->AK X N (mY X N Qf K I fr st B n x) [.code c] .normal (fr x) (st x)):AK X N Qf (.code (.loop c)::K) .normal φ σ:=by
 intro s a O hh b kk cs SS hb hQ;have g:=mF o T;obtain⟨l,A,_⟩:=g s hh;refine wh (λm a' s'=>∃ y,I y/\cw N (st y) s' (fr y) a'/\aJ (st y) s'/\cC σ s (st y) s'/\B y=m) ?_ ?_ ⟨x,U,(O.le (dK E W)).bs g hh,l,A.oA hh,rfl⟩
 .rintro n a' s' ⟨y,F,r,f,d,e⟩;exact⟨st y,f,λs1 h1=>⟨y,F,r.rely h1 f,f.rely h1,d.trans h1.stepW,e⟩⟩
 rintro m a' s' ⟨y,F,r,f,d,rfl⟩ V;refine round y F s' a' r f b (.inLoop c::kk) cs SS hb ?_;intro e Q σ2 s2 a2 q M h2 oT;cases e with
 |normal =>
  obtain⟨z,Z,C,k,v,σ1,rest,rfl,i,⟨w,G⟩,p⟩:=q;have J:=h2.drop (by rw[i];exact w)
  obtain⟨D,j,H⟩:=p _ J;have u:=M.le k;have R:eW s2 (s2.cut σ1.length):=⟨rfl,λ_ _ _ h=>h,λ_ _ _=>rfl,h2.mem,λb hb=>hb.imp id λ⟨L,Y,hb⟩=>⟨L,gY Y,hb⟩⟩
  refine .ghost R (V a2 (s2.cut σ1.length) (B z) C ⟨z,Z,⟨u.size,u.defers.imp λ_ h1=>(h1.drop G).mono j.ext,λt=>H _ _ ((u.slot t).drop (p0 (by rw[i];exact v)))⟩,D,?_,rfl⟩)
  exact((d.trans oT).drop (by omega)).trans (j.oA J)
 |_=>exact ends.cons (λ_ _=>rfl) (by simp) (hQ _ _ _ _ _ q M h2 (d.trans oT))
theorem AK.bg{S:Type}{n:Nat}{I:S->Prop}{fr:S->Fr}{st:S->List aW}{e:S->Nat}{x:S}{k:List It}(y:S){ps qs:List Prop}(h:r6 φ (fr y)=aa ps)(i:ai ps)(b:Ji n (fr y)=ab)(a:DF n σ=ab)(d:uC (σ.take n) (st y)=aa qs)(l:ai qs)(f:sQ n (σ.take n)=ab)(j:I y)(g:e y<e x) :
  AK X N (mY X N Qf k I fr st e n x) [] .normal φ σ :=
 ⟨y,j,g,dK h i,b,σ.take n,σ.drop n,(j8 n σ).symm,by simp[dn (yc a).1],⟨f,(yc a).2⟩,mF d l⟩
theorem AK.leaveD{S:Type}{n:Nat}{I:S->Prop}{fr:S->Fr}{st:S->List aW}{d:S->Nat}{x:S}{id:Nat}{g b f:List It}(h1:kO id g=af)(h2:kO id b=aa f)(k:AK X N Qf f .normal φ σ) :
  AK X N (mY X N Qf b I fr st d n x) (.code (.exit id)::g) .normal φ σ :=
 AW.mono (AK.leave (A:=λa σ'=>mY X N Qf b I fr st d n x .normal a σ') h1 h2 k) λe a σ' q=>by
  have key:∀ (K:List It) e,AK X N (λe a σ'=>match e with
    |.normal=>mY X N Qf b I fr st d n x .normal a σ'
    |e=>AK X N Qf b e a σ') K e a σ'->AK X N (mY X N Qf b I fr st d n x) K e a σ':=by
   have e:(λe a σ'=>match e with
    |.normal=>mY X N Qf b I fr st d n x .normal a σ'
    |e=>AK X N Qf b e a σ')=mY X N Qf b I fr st d n x:=by
    funext e a σ';cases e <;> rfl
   intro K i h;rw[e] at h;exact h
  exact key _ _ q
theorem AK.eC{S:Type}{n:Nat}{I:S->Prop}{fr:S->Fr}{st:S->List aW}{a:S->Nat}{x:S}{d b:List It}(k:Qf .ret φ σ):AK X N (mY X N Qf b I fr st a n x) (.code .ret::d) .normal φ σ :=
 AK.ret (AK.r5 (Qf:=Qf) k)
theorem cw.freeze(t l:Nat){E:ar}{cs:List A}{cc:List C}(G:look φ t=.e (.one (.ptr l 0)))(hl:fZ l σ=aa (.cells E cs))(H:gH cs=aa cc)
  {s:St} {a:Act} (m:cw N σ s φ a) (hh:aJ σ s):∃ s':St,s'.w=s.w/\cw N (σ.set l .dead) s' ((t,.e (.one (.c (.rp cc))))::φ) a/\aJ (σ.set l .dead) s'/\Step σ s (σ.set l .dead) s':=by
 have q:=dY hl;have k:l<σ.length:=(bt.1 q).1;have y:=m.slot t;rw[G] at y;obtain⟨_,L,b,p,i,I⟩:=y;obtain⟨d,vs,h1,h2,F,D⟩:=hh.box l _ L q p;subst h1;simp at i;subst i
 let s':St:={ s with M:=λx o=>if x=d then vs[o]? else s.M x o }
 have st:Step σ s (σ.set l .dead) s':=by
  refine⟨ba _,λ_ _ _=>rfl,?_,?_,λL h b hb=>.inr ⟨L,h,hb⟩,?_,rfl,rfl,rfl,rfl⟩
  .intro b o v g;have f:b≠d:=λe=>by subst e;rw[D] at g;cases g
   show (if b=d then _ else _)=_
   rw[aO f];exact g
  .intro b hb hn o;have f:b≠d:=λe=>hn _ (bz p) (by simp[e])
   show (if b=d then _ else _)=_
   rw[aO f]
  .intro l' B L' lb hU
   by_cases e:l=l'
   .subst e;rw[q] at lb;cases lb;exact⟨.dead,L',by rw[cf k],hU,rfl⟩
   .exact⟨B,L',by rw[cQ e];exact lb,hU,.refl _ _⟩
 refine⟨s',rfl,⟨m.size,m.defers.imp λ_ h1=>h1.mono st.ext,λu=>?_⟩,⟨?_,by simp[hh.len,s'],?_,hh.gb,hh.lt,hh.own⟩,st⟩
 .simp only[look];cases hb:aA t u with
  |false=>exact(m.slot u).mono st.ext hh.len
  |true =>
   have e:=bE hb;subst e;rw[I];have z:=ki H F;refine Rd.rp d 0 (λj=>(vs[j]?).getD aj) ?_ ?_
   .intro j c hj;obtain⟨v,n,_⟩:=z.get (j:=j) (a:=.c c) (by simp[hj])
    show (if d=d then _ else _)=_
    simp[n]
   .intro j c hj;obtain⟨v,n,p2⟩:=z.get (j:=j) (a:=.c c) (by simp[hj])
    simp only[n,dG];exact Rd.mono st.mem p2
 .intro b o v g
  by_cases e:b=d
  .subst e;have hm':vs[o]?=aa v:=by simpa[s'] using g
   show s.w.cell? _=_;simp[aY,h2,hm']
  .exact hh.mem b o v (by simpa[s',e] using g)
 .intro l' B L' lb hU
  by_cases e:l=l'
  .subst e;rw[cf k] at lb;cases lb;trivial
  .rw[cQ e] at lb;refine(hh.box l' B L' lb hU).carry st.ext hh.len λb hb=>⟨rfl,λo=>?_⟩
   have f:b≠d:=λr=>e (hh.gb l l' _ L' p hU b (by simp[r]) hb)
   show (if b=d then _ else _)=_
   rw[aO f]
theorem AK.freeze(t l:Nat){E:ar}{cs:List A}{cc:List C}(d:look φ t=.e (.one (.ptr l 0)))(hl:fZ l σ=aa (.cells E cs))(f:gH cs=aa cc)
  (kk:AK X N Qf (.code c::K) .normal ((t,.e (.one (.c (.rp cc))))::φ) (en.sL l .dead σ)):AK X N Qf (.code c::K) .normal φ σ:=by
 rw[lz] at kk;exact AK.ghost (λs a b hh=>cw.freeze t l d hl f b hh) kk
theorem AK.one{all rest:List av}{o:av}{x:D}{σ':List aW}(h:OA X N all o φ σ x σ')(a:iP N o.dst=ab)(k:AK X N Qf (.ops all rest::K) .normal (m9 o.dst x φ) σ'):AK X N Qf (.ops all (o::rest)::K) .normal φ σ :=
 jE.wi h (iY a) k
end
end Go.AM
namespace Go.AM
structure DH (d:TypeDesc)(es:Array MapEntry)(k:ak)(a:Option (Nat×ak)):Prop where
 key:MapKept.IsKey d k
 now:Instr.findNow d k es.toList 0=aa a
 no:a=af->∀ e∈es.toList,e.key≠k
 yes:∀ j v,a=aa (j,v)->∃ e,es[j]?=aa e/\e.key=k/\e.val=v
theorem yd{d:TypeDesc}{es:Array MapEntry}{k:ak}(i:MapKept.IsKey d k)(h:∀ e∈es.toList,MapKept.IsKey d e.key):∃ a,DH d es k a:=by
 rcases MapKept.findNow_spec i es.toList 0 h with⟨l,b⟩|⟨j,e,l,b,m⟩
 .exact⟨af,i,l,λ_=>b,by simp⟩
 .refine⟨_,i,l,by simp,λn v g=>?_⟩
  cases g;exact⟨e,by simpa using b,m,rfl⟩
section
variable {P:an}{w:az}{t c f:ar}{d:TypeDesc}{r:Nat}{es:Array MapEntry}{clock:Nat}{k:ak}{ok:Bool}
theorem Fl(a:P.underlying c=aa d):(underlying c).run P w=.ok d w:=by simp[underlying,a]
theorem mG(e:P.underlying c=aa d)(a:MapKept.IsKey d k)(b:Bool)(evs:Array Event):(Instr.checkKey b 10000 c k).events P w evs=evs:=by
 show (Instr.checkKey b (9999+1) c k).events P w evs=evs;unfold Instr.checkKey;simp only[aP,Fl e,aV,events_underlying];cases d <;> cases k <;> first|exact a.elim|simp
theorem om{l:List MapEntry}{a:Option (Nat×ak)}(b:P.underlying c=aa d)(h:Instr.findNow d k l 0=aa a)(evs:Array Event):(Instr.findKey c k l).events P w evs=evs:=by
 simp[Instr.findKey,Fl b,h]
theorem kF(a:w.heap[r]?=aa (.map es clock))(evs:Array Event):(getObj r).events P w evs=evs.push ⟨.obj r,ae,ae⟩:=by
 simp only[getObj,Sem.events,Sem.runT,a];rfl
theorem qx(a:w.heap[r]?=aa (.map es clock)){es':Array MapEntry}{b:Nat}(evs:Array Event):(setObj r (.map es' b)).events P w evs=evs.push ⟨.obj r,ab,ae⟩:=by
 simp only[setObj,Sem.events,Sem.runT,a];rfl
theorem qy(e:P.underlying c=aa d)(a:MapKept.IsKey d k)(b:Bool):(Instr.checkKey b 10000 c k).run P w=.ok () w:=MapKept.run_checkKey e a b 9999
theorem tT(m:P.underlying t=aa (.map c f))(g:P.underlying c=aa d)(h:w.heap[r]?=aa (.map es clock)){a:Option (Nat×ak)}(e:DH d es k a){z:ak}(l:a=af->(zeroValue f).run P w=.ok z w) :
  (Instr.lookup t (.map (aa r)) k ok).run P w=.ok (match a with
   |some (_,v)=>if ok=ab then .tuple #[v,.bool ab] else v
   |none=>if ok=ab then .tuple #[z,.bool ae] else z) w/\(Instr.lookup t (.map (aa r)) k ok).events P w #[]=#[⟨.obj r,ae,ae⟩]:=by
 have j:(underlying t).run P w=.ok (.map c f) w:=by simp[underlying,m]
 have i:=qy (w:=w) g e.key es.isEmpty;have b:(Instr.findKey c k es.toList).run P w=.ok a w:=MapKept.run_findKey g e.now;cases a with
 |some jv =>
  constructor
  .simp only[Instr.lookup,bZ,j,cg,MapKept.run_getObj_map h,c7,i,b]
  .simp only[Instr.lookup,aP,j,aV,MapKept.run_getObj_map h,c7,Sem.events_pure,i,b,events_underlying,kF h,mG g e.key,om g e.now];rfl
 |none =>
  constructor
  .simp only[Instr.lookup,bZ,j,cg,MapKept.run_getObj_map h,c7,i,b,l rfl]
  .simp only[Instr.lookup,aP,j,aV,MapKept.run_getObj_map h,c7,Sem.events_pure,i,b,events_underlying,kF h,mG g e.key,om g e.now,l rfl,events_zeroValue];rfl
theorem tU(s:P.underlying t=aa (.map c f))(i:P.underlying c=aa d)(b:w.heap[r]?=aa (.map es clock)){a:Option (Nat×ak)}{x:ak}(g:DH d es k a) :
  (Instr.mapUpdate t (.map (aa r)) k x).run P w=.ok () { w with heap:=w.heap.setIfInBounds r (match a with
   |some (j,_)=>.map (es.modify j λe=>{ key:=k,val:=x,born:=e.born }) clock
   |none=>.map (es.push { key:=k,val:=x,born:=clock }) (clock+1)) } /\
  (Instr.mapUpdate t (.map (aa r)) k x).events P w #[]=#[⟨.obj r,ae,ae⟩,⟨.obj r,ab,ae⟩]:=by
 have p:(underlying t).run P w=.ok (.map c f) w:=by simp[underlying,s]
 have o:=qy (w:=w) i g.key ae;have h:(Instr.findKey c k es.toList).run P w=.ok a w:=MapKept.run_findKey i g.now;cases a with
 |some jv =>
  obtain⟨j,v⟩:=jv;obtain⟨e,m,n,_⟩:=g.yes j v rfl;have l:(Instr.keyThatStays k k).run P w=.ok k w:=MapKept.run_keyThatStays g.key;have q:∀ evs,(Instr.keyThatStays k k).events P w evs=evs:=λevs=>by simp[Instr.keyThatStays,MapKept.sameBits_self g.key]
  constructor
  .simp only[Instr.mapUpdate,bZ,p,cg,MapKept.run_getObj_map b,o,h,m,jl,dG,n,l,MapKept.run_setObj_map _ b]
  .simp only[Instr.mapUpdate,aP,p,aV,MapKept.run_getObj_map b,o,h,m,jl,dG,n,l,q,events_underlying,kF b,qx b,mG i g.key,om i g.now];rfl
 |none =>
  constructor
  .simp only[Instr.mapUpdate,bZ,p,cg,MapKept.run_getObj_map b,o,h,MapKept.run_setObj_map _ b]
  .simp only[Instr.mapUpdate,aP,p,aV,MapKept.run_getObj_map b,o,h,events_underlying,kF b,qx b,mG i g.key,om i g.now];rfl
end
theorem aJ.k5{σ:List aW}{s:St}(h:aJ σ s){l:Nat}{H H':ak->(Nat->Option Obj)->Prop}{L L':Loc}(D:σ[l]?=aa (.dM H))(q:s.β[l]?=aa L){w':az}(P:L'.v=L.v)
  (n:s.w.heap.size<=w'.heap.size) (E:∀ b,b<s.w.heap.size->b∉L.bs->w'.heap[b]?=s.w.heap[b]?) (g:∀ b∈L'.bs,b∈L.bs∨(s.w.heap.size<=b/\b<w'.heap.size))
  (hb:∃ ch,H' L'.v ch/\(∀ (b:Nat) (o:Obj),ch b=aa o->w'.heap[b]?=aa o)/\(∀ b,b∈L'.bs↔(ch b).isSome=ab)) (S:w'.os=s.w.os) (J:w'.tape=s.w.tape) (Q:w'.output=s.w.output) :
  aJ (σ.set l (.dM H')) ⟨s.β.set l L',s.M,w',s.own⟩/\Step σ s (σ.set l (.dM H')) ⟨s.β.set l L',s.M,w',s.own⟩:=by
 have r:l<σ.length:=(bt.1 D).1;have k:l<s.β.length:=by rw[h.len];exact r
 obtain⟨N,_,_,_,z⟩:=h.box l _ L D q;have t:∀ b∈L'.bs,∀ o,s.M b o=af:=by
  intro b p o;rcases g b p with h1|⟨h1,_⟩
  .exact z b h1 o
  .cases y:s.M b o with
   |none=>rfl
   |some v=>have:=h.block y;omega
 have st:Step σ s (σ.set l (.dM H')) ⟨s.β.set l L',s.M,w',s.own⟩:=by
  refine⟨n,?_,λ_ _ _ h=>h,λ_ _ _ _=>rfl,?_,?_,S,J,Q,rfl⟩
  .intro b i hn;exact E b i (hn L (bz q))
  .intro d c b a;rcases nO c with h1|h1
   .exact .inr ⟨d,h1,a⟩
   .subst h1;rcases g b a with h2|h2
    .exact .inr ⟨L,bz q,h2⟩
    .exact .inl h2.1
  .intro l' B d f c
   by_cases e:l=l'
   .subst e;rw[D] at f;cases f;rw[q] at c;cases c;exact⟨.dM H',L',by rw[cf r],by show (s.β.set l L')[l]?=_;rw[cf k],P⟩
   .exact⟨B,d,by rw[cQ e];exact f,by show (s.β.set l L')[l']?=_;rw[cQ e];exact c,.refl _ _⟩
 have j:∀ (l':Nat) (d:Loc),(s.β.set l L')[l']?=aa d->(l'=l/\d=L')∨(l≠l'/\s.β[l']?=aa d):=by
  intro l' d h2
  by_cases e:l=l'
  .subst e;rw[cf k] at h2;cases h2;exact .inl ⟨rfl,rfl⟩
  .rw[cQ e] at h2;exact .inr ⟨e,h2⟩
 refine⟨⟨?_,by simp[h.len],?_,?_,?_,?_⟩,st⟩
 .intro b o v y;have A:=h.block y;have C:b∉L.bs:=λm=>by rw[z b m o] at y;cases y
  rw[<-h.mem b o v y];simp only[aY];rw[E b A C]
 .intro l' B d f c;rcases j l' d c with⟨rfl,rfl⟩|⟨e,h2⟩
  .rw[cf r] at f;cases f;obtain⟨ch,k1,R,G⟩:=hb;exact⟨ch,k1,R,G,t⟩
  .rw[cQ e] at f;refine(h.box l' B d f h2).carry st.ext h.len λb p=>⟨E b (h.lt d (bz h2) b p) λm=>e (h.gb l l' L d q h2 b m p),λ_=>rfl⟩
 .intro K O L1 d h1 h2 b i a;rcases j K L1 h1 with⟨rfl,rfl⟩|⟨e1,x⟩ <;> rcases j O d h2 with⟨rfl,rfl⟩|⟨e2,u⟩
  .rfl
  .rcases g b i with m|m
   .exact h.gb _ _ L d q u b m a
   .have:=h.lt d (bz u) b a;omega
  .rcases g b a with m|m
   .exact h.gb _ _ L1 L x q b i m
   .have:=h.lt L1 (bz x) b i;omega
  .exact h.gb _ _ L1 d x u b i a
 .intro d c b a;rcases nO c with h1|h1
  .exact cz (h.lt d h1 b a) n
  .subst h1;rcases g b a with h2|h2
   .exact cz (h.lt L (bz q) b h2) n
   .exact h2.2
 .intro b hb;obtain⟨I,F⟩:=h.own b hb;refine⟨cz I n,λd c a=>?_⟩
  rcases nO c with h1|h1
  .exact F d h1 a
  .subst h1;rcases g b a with h2|h2
   .exact F L (bz q) h2
   .omega
section
variable {H H':ak->(Nat->Option Obj)->Prop}{s:St}
end
theorem cn.tb{fn:Func}{c:Nat}{res:D}{σ':List aW}{φ:Fr}{σ:List aW}(ks:List Nat){ps:List Prop}(h:zB fn.results.toList ks φ res=aa ps)(e:ai ps)(g:kW ks σ=aa σ')(b:km σ'=ab)(hn:eh ks=ab)(i:∀ j,j<c->ks[j]?=aa j) :
  cn fn c res σ' .normal φ σ:=by
 refine⟨.inr rfl,ks,?_⟩;unfold zB at h;split at h
 .rename_i ds Iw
  split at h
  .rename_i d f
   split at h
   .rename_i a
    exact⟨ds,d,ps,Iw,f,h,e,a,g,b,hn,i⟩
   .cases h
  .cases h
 .cases h
theorem AK.bM{P:an}{X:Cx P}{N:Nat}{Qf:Post}{K:List It}{φ:Fr}{σ:List aW}{all rest:List av}{o:av}{m:aq}{xs:Array aq}{d:Array ar}{f:aX}{cap:List C}{a:List D}{b σ1:List aW}{res:D}(e:Ev X f a b res σ1)(ks:List Nat)
  (i:o.guard=af) (r:o.op=.call { callee:=.value m,args:=xs,argTypes:=d }) (n:gu (cj φ m)=aa (f,cap)) (c:qv (xs.toList.map (cj φ)++iz cap)=jP ks a) (g:qm ks.length a=ab)
  (l:kW ks σ=aa b) (p:du b=ab) (h:du σ1=ab) (hn:eh ks=ab) (j:bw ks.length σ1.length=ab) (q:iP N o.dst=ab)
  (k:AK X N Qf (.ops all rest::K) .normal (m9 o.dst (jQ (ks++oc σ.length (σ1.length-ks.length)) res) φ) (en ks σ1 σ)):AK X N Qf (.ops all (o::rest)::K) .normal φ σ :=
 jE.call (λ_ _ _ _=>dJ i) r n ks e c g l p h hn (dn j) o.dst rfl (iY q) k
theorem AK.cx{P:an}{ι:Type}{X:Cx P}{N:Nat}{Qf:Post}{K:List It}{φ:Fr}{σ:List aW}{all rest:List av}{o:av}{n:aq}{xs:Array aq}{d:Array ar}{f:aX}{cap:List C}{a:List D}{b:List aW}{σ1:ι->List aW}{res:ι->D}(e:dZ X f a b res σ1)(ks:List Nat)
  (i:o.guard=af) (s:o.op=.call { callee:=.value n,args:=xs,argTypes:=d }) (p:gu (cj φ n)=aa (f,cap)) (c:qv (xs.toList.map (cj φ)++iz cap)=jP ks a) (g:qm ks.length a=ab)
  (m:kW ks σ=aa b) (q:du b=ab) (h:∀ j,du (σ1 j)=ab) (hn:eh ks=ab) (l:∀ j,bw ks.length (σ1 j).length=ab) (r:iP N o.dst=ab)
  (k:∀ j,AK X N Qf (.ops all rest::K) .normal (m9 o.dst (jQ (ks++oc σ.length ((σ1 j).length-ks.length)) (res j)) φ) (en ks (σ1 j) σ)):AK X N Qf (.ops all (o::rest)::K) .normal φ σ :=
 jE.Oz (λ_ _ _ _=>dJ i) s p ks e c g m q h hn (λj=>dn (l j)) o.dst rfl (iY r) k
def zu:List D->List D->Option (List Prop)
 |[],[]=>aa []
 |a::al,b::bs=>match Bf a b with
  |some p=>match zu al bs with
   |some q=>aa (kl p q)
   |none=>af
  |none=>af
 |_,_=>af
theorem zv{σ:List aW}{s:St}:∀ {vs:List ak}{xs ys:List D}{ps:List Prop},zu xs ys=aa ps->ai ps->cG σ s vs xs->cG σ s vs ys
 |[],[],[],_,_,_,_=>trivial
 |_::_,[],_,_,_,_,h=>h.elim
 |[],_::_,_,_,_,_,h=>h.elim
 |[],[],_::_,_,h,_,_=>by simp[zu] at h
 |_::_,_::_,[],_,h,_,_=>by simp[zu] at h
 |v::vs,a::al,b::bs,ps,h,e,f=>by
  simp only[zu] at h;cases c:Bf a b with
  |none=>simp[c] at h
  |some p =>
   cases d:zu al bs with
   |none=>simp[c,d] at h
   |some q =>
    simp[c,d] at h;subst h;rw[ai.cat] at e;exact⟨oU c e.1 f.1,zv d e.2 f.2⟩
theorem AK.my{P:an}{ι:Type}{X:Cx P}{N:Nat}{Qf:Post}{K:List It}{φ:Fr}{σ:List aW}{all rest:List av}{o:av}{q:aq}{xs:Array aq}{d:Array ar}{f:aX}{cap:List C}{a:List D}{b:List aW}{σ1:ι->List aW}{res:ι->D}(e:dZ X f a b res σ1)(ks:List Nat)
  (l:o.guard=af) (v:o.op=.call { callee:=.value q,args:=xs,argTypes:=d }) (r:gu (cj φ q)=aa (f,cap)) {ps:List Prop} (c:zu (xs.toList.map (cj φ)++iz cap) (jP ks a)=aa ps) (n:ai ps) (g:qm ks.length a=ab)
  (p:kW ks σ=aa b) (t:du b=ab) (i:∀ j,du (σ1 j)=ab) (hn:eh ks=ab) (m:∀ j,bw ks.length (σ1 j).length=ab) (u:iP N o.dst=ab)
  (k:∀ j,AK X N Qf (.ops all rest::K) .normal (m9 o.dst (jQ (ks++oc σ.length ((σ1 j).length-ks.length)) (res j)) φ) (en ks (σ1 j) σ)):AK X N Qf (.ops all (o::rest)::K) .normal φ σ :=
 jE.Oy (λ_ _ _ _=>dJ l) v r ks e (λs vs h=>zv c n h) g p t i hn (λj=>dn (m j)) o.dst rfl (iY u) k
end Go.AM
namespace Go.AM
open Go.Conc (G)
theorem Jc{a:Act}{d:Nat}{v:ak}(h:d<a.tmps.size):(a.put (aa d) v).tmps.getD d aj=v:=by
 simp[Act.put,cT,mO h]
theorem lR{P:an}{f:aX}{fn:Func}{e:Array ak->Sem ak}(d:P.funcs[f]?=aa fn)(a:(fn.name== "runtime.NumGoroutine")=ae)
  (g:fn.body.isNone=ab) (b:Extern.findNext fn=af) (i:Extern.find fn=aa e) (args:Array ak) (h:cR P (e args)) (w:az) (es:Array Event) :
  (callFunc f args).events P w es=es.push ⟨.mark (.extern f),ae,ab⟩:=by
 have j:fn.name≠ "runtime.NumGoroutine":=by simpa using a
 have c:fn.body=af:=by simpa using g
 simp[callFunc,d,j,c,b,i];rw[h w]
section
variable {P:an}{X:Cx P}{N:Nat}{Qf:Post}{K:List It}{φ:Fr}{σ:List aW}{all rest:List av}{o:av}
theorem AK.hand{ι:Type}(x:ι->D)(σ':ι->List aW)(z:o.guard=af)(A:iP N o.dst=ab)
  (h:∀ s a,cw N σ s φ a->aJ σ s->∃ i e s' v,(aw a.eval o).run P s.w=.ok e s'.w/\(e=.value v∨(e=.skip/\v=aj))/\dh (σ' i) s' v (x i)/\aJ (σ' i) s'/\Step σ s (σ' i) s'/\ft s ((aw a.eval o).events P s.w #[]))
  (k:∀ i,AK X N Qf (.ops all rest::K) .normal (m9 o.dst (x i) φ) (σ' i)):AK X N Qf (.ops all (o::rest)::K) .normal φ σ:=by
 intro s a f hh b kk cs S idx hb ly hQ;cases idx with
 |nil=>exact ly.elim
 |cons j idx =>
 refine zO hb ly.1 (dJ z) λC d=>?_
 have c:=hh.rely d;have g:=f.rely d hh;obtain⟨i,e,s',v,h1,h2,u,n,p,B⟩:=h C a g c;have m:=p.oA c;refine⟨e,s',v,h1,h2,⟨⟨σ,σ' i,c,n,p⟩,B⟩,?_⟩;refine k i s' _ ?_ n b kk cs S idx hb ly.2 λl σ2 s2 a2 q r h2 st=>hQ l σ2 s2 a2 q r h2 ((d.stepW.trans m).trans st)
 cases y:o.dst with
 |none=>exact g.mono m c.len
 |some t=>exact(g.mono m c.len).put (iY A t y) u
theorem AK.law{x:D}{σ':List aW}(h:bR P o (cj φ) σ x σ')(a:o.guard=af)(b:iP N o.dst=ab)
  (k:AK X N Qf (.ops all rest::K) .normal (m9 o.dst x φ) σ'):AK X N Qf (.ops all (o::rest)::K) .normal φ σ :=
 AK.one (.lJ (λ_ _ _ _=>dJ a) h) b k
def ET(all:List av)(φ:Fr)(o:av):Bool:=match o.guard with
 |none=>ab
 |some (j,b)=>match zK φ all j with
  |some (aa ab)=>b
  |some (aa ae)=>!b
  |_=>ae
theorem vB{all:List av}{o:av}{φ:Fr}(h:ET all φ o=ab):∀ σ s a,cw N σ s φ a->bk o (yielded all.toArray a.tmps)=ab:=by
 intro σ s a f;unfold ET at h;split at h
 .rename_i d;exact dJ d
 .rename_i j b d
  split at h
  .rename_i c
   simp only[bk,d,pY c f,h];rfl
  .rename_i c
   simp only[bk,d,pY c f];cases b
   .rfl
   .cases h
  .cases h
end
end Go.AM
namespace Go.AM
inductive sJ where
 |nil (a:Option Addr)
 |row (b cap:Nat)
def oH(bf:sJ)(n:Nat):ak:=match bf with
 |.nil a=>.slice a 0 0
 |.row b cap=>.slice (aa ⟨b,0,af⟩) n cap
def Mw(xs:List ak):Nat->List C:=λi=>[.val (xs.getD i aj)]
section
variable {P:an}{X:Cx P}{N:Nat}{Qf:Post}{K:List It}{φ:Fr}{σ:List aW}{all rest:List av}{o:av}
theorem AW.PD{ι:Type}{c:Code}{Q:Post}{g:ι->Fr}{σ':ι->List aW}(h:∀ s a,cw N σ s φ a->aJ σ s->∃ (i:ι)(s':St),s'.w=s.w/\cw N (σ' i) s' (g i) a/\aJ (σ' i) s'/\Step σ s (σ' i) s')(k:∀ i,AW X N c Q (g i) (σ' i)):AW X N c Q φ σ:=by
 intro s a m hh b kk cs S hb hQ;obtain⟨i,s',n,l,f,st⟩:=h s a m hh;have d:=st.oA hh;refine .ghost (.of hh f n d) ?_;exact k i s' a l f b kk cs S hb λe j σ2 s2 a2 q p h2 oT=>hQ e j σ2 s2 a2 q p h2 (d.trans oT)
end
end Go.AM
namespace Go.AM
open Go.Conc (G)
def vv:C->Bool
 |.int _ _|.bool _|.str _|.mb|.n8|.zr|.val _=>ab
 |_=>ae
def vA:A->Bool
 |.c x=>vv x
 |.any=>ab
 |_=>ae
def Ms:List A->Bool
 |[]=>ab
 |a::r=>match vA a with|true=>Ms r|false=>ae
def Ik:E1->Bool
 |.one a=>vA a
 |.agg cs=>Ms cs
def EO:List E1->Bool
 |[]=>ab
 |a::r=>match Ik a with|true=>EO r|false=>ae
def PC:D->Bool
 |.e x=>Ik x
 |.fW xs=>EO xs
 |.any=>ab
section
variable {σ σ':List aW}{s s':St}
theorem rJ{M M':Mem}{v:ak}{c:C}(h:vv c=ab)(r:Rd M v c):Rd M' v c:=by
 cases r <;> first|(simp[vv] at h;done)|skip
 case int h1=>exact .int h1
 case bool=>exact .bool
 case str h1 h2=>exact .str h1 h2
 case mb=>exact .mb
 case n8=>exact .n8
 case zr=>exact .zr
 case val h1=>exact .val h1
theorem EP{v:ak}{a:A}(h:vA a=ab)(r:gB σ s v a):gB σ' s' v a:=by
 cases a with
 |c x=>exact rJ h r
 |any=>exact r
 |_=>simp[vA] at h
theorem ER:∀ {vs:List ak}{cs:List A},Ms cs=ab->dX σ s vs cs->dX σ' s' vs cs
 |[],[],_,_=>trivial
 |[],_::_,_,r=>r.elim
 |_::_,[],_,r=>r.elim
 |v::vs,c::cs,h,r=>by
  simp only[Ms] at h;cases a:vA c with
  |false=>simp[a] at h
  |true=>simp only[a] at h;exact⟨EP a r.1,ER h r.2⟩
theorem zt{v:ak}{x:E1}(h:Ik x=ab)(r:mc σ s v x):mc σ' s' v x:=by
 cases x with
 |one a=>exact EP h r
 |agg cs=>obtain⟨vs,c,b⟩:=r;exact⟨vs,c,ER h b⟩
theorem A6:∀ {vs:List ak}{cs:List E1},EO cs=ab->gI σ s vs cs->gI σ' s' vs cs
 |[],[],_,_=>trivial
 |[],_::_,_,r=>r.elim
 |_::_,[],_,r=>r.elim
 |v::vs,c::cs,h,r=>by
  simp only[EO] at h;cases a:Ik c with
  |false=>simp[a] at h
  |true=>simp only[a] at h;exact⟨zt a r.1,A6 h r.2⟩
theorem Mt{v:ak}{d:D}(h:PC d=ab)(r:dh σ s v d):dh σ' s' v d:=by
 cases d with
 |e x=>exact zt h r
 |fW xs=>obtain⟨vs,b,a⟩:=r;exact⟨vs,b,A6 h a⟩
 |any=>trivial
end
def Dd:List aW->Bool
 |[]=>ab
 |.dM _::r=>Dd r
 |.dead::r=>Dd r
 |_=>ae
theorem A7:∀ {l:List aW},Dd l=ab->∀ B∈l,(∃ H,B=.dM H)∨B=.dead
 |[],_,B,a=>by simp at a
 |b::r,h,B,a=>by
  have c:((∃ H,b=.dM H)∨b=.dead)/\Dd r=ab:=by cases b <;> simp_all [Dd]
  rcases ew.1 a with rfl|a
  .exact c.1
  .exact A7 c.2 B a
def jN(σ:List aW)(a:Nat)(u:ak)(k n:Nat)(es:Nat->List C):Prop :=
 ∀ s,aJ σ s->∃ (L:Loc) (M':Mem),s.β[a]?=aa L/\(∀ b o v,s.M b o=aa v->M' b o=aa v)/\(∀ b,b∉L.bs->∀ o,M' b o=s.M b o)/\(∀ b o v,M' b o=aa v->s.w.cell? ⟨b,o,af⟩=aa v) /\
  (∀ b∈L.bs,∀ o,s.M b o=af)/\Rd M' u (.sl ae k n es)
section
variable {P:an}{X:Cx P}{N:Nat}{Qf:Post}{K:List It}{φ:Fr}{σ:List aW}{all rest:List av}{o:av}
theorem cG.setAt{σ:List aW}{s:St}{d:D}:∀ {vs:List ak}{ds:List D}{p:Nat}{v:ak},cG σ s vs ds->vs[p]?=aa v->dh σ s v d->cG σ s vs (ds.set p d)
 |[],[],_,_,_,h,_=>by simp at h
 |[],_::_,_,_,h,_,_=>h.elim
 |_::_,[],_,_,h,_,_=>h.elim
 |u::vs,e::ds,0,v,h,a,b=>by simp at a;subst a;exact⟨b,h.2⟩
 |u::vs,e::ds,p+1,v,h,a,b=>⟨h.1,cG.setAt (p:=p) h.2 (by simpa using a) b⟩
def n9(σ:List aW)(ds ES:List D):Prop :=
 ∀ s vs,aJ σ s->cG σ s vs ds->∃ (B:Nat->Prop) (M':Mem),(∀ b,B b->∃ L∈s.β,b∈L.bs)/\(∀ b o v,s.M b o=aa v->M' b o=aa v)/\(∀ b,¬B b->∀ o,M' b o=s.M b o) /\
  (∀ b o v,M' b o=aa v->s.w.cell? ⟨b,o,af⟩=aa v)/\(∀ b,B b->∀ o,s.M b o=af)/\cG σ { s with M:=M' } vs ES
theorem n9.refl(σ:List aW)(ds:List D):n9 σ ds ds:=λs vs hh hr=>⟨λ_=>False,s.M,λ_ h=>h.elim,λ_ _ _ h=>h,λ_ _ _=>rfl,hh.mem,λ_ h=>h.elim,hr⟩
theorem n9.step{σ:List aW}{ds ES:List D}(h:n9 σ ds ES)(p E:Nat){u:ak}{k n:Nat}{es:Nat->List C}(y:ES[p]?=aa (.e (.one (.v u))))(hl:jN σ E u k n es):n9 σ ds (ES.set p (.e (.one (.c (.sl ae k n es))))):=by
 classical
 intro s vs hh hr;obtain⟨B,d,H,I,J,z,O,w⟩:=h s vs hh hr;obtain⟨L,f,r,S,A,x,G,R⟩:=hl s hh;have h1:∀ b o v,d b o=aa v->(d b o).or (f b o)=aa v:=λb o v a=>by rw[a];rfl
 have h2:∀ b o v,f b o=aa v->(d b o).or (f b o)=aa v:=λb o v a=>by
  cases e:d b o with
  |none=>rw[a];rfl
  |some v' =>
   have m:=z b o v' e;have i:=x b o v a;rw[m] at i;cases i;rfl
 refine⟨λb=>B b∨b∈L.bs,λb o=>(d b o).or (f b o),?_,λb o v a=>h1 b o v (I b o v a),?_,?_,?_,?_⟩
 .rintro b (hb|hb)
  .exact H b hb
  .exact⟨L,bz r,hb⟩
 .intro b hb o;have m:=J b (λh=>hb (.inl h)) o
  have i:=A b (λh=>hb (.inr h)) o
  simp only[m,i,Option.or_self]
 .intro b o v a;cases e:d b o with
  |none=>simp only[e,Option.none_or] at a;exact x b o v a
  |some v'=>simp only[e,Option.some_or] at a;cases a;exact z b o v e
 .rintro b (hb|hb) o
  .exact O b hb o
  .exact G b hb o
 .have e1:Ext σ { s with M:=d } σ { s with M:=λb o=>(d b o).or (f b o) }:=⟨h1,λl B L Q r=>⟨B,L,Q,r,.refl _ _⟩⟩
  have F:=w.mono e1 hh.len;obtain⟨j,q⟩:=cG.get w;have g:p<vs.length:=by rw[j];exact(bt.1 y).1
  have t:vs[p]?=aa u:=by
   have:=q p;rw[y,aR g] at this;have:=Rd.gm (show Rd d vs[p] (.val u) from this)
   rw[aR g,this]
  exact F.setAt t (show dh σ { s with M:=λb o=>(d b o).or (f b o) } u (.e (.one (.c (.sl ae k n es)))) from Rd.mono h2 R)
set_option maxHeartbeats 1000000 in
theorem AK.F7 [X.jN] {ι:Type}{fo:aq}{xs:Array aq}{Vw:Array ar}{f:aX}{cap:List C}{x:List D}{res:ι->D}{σ1:ι->List aW}(H8:dZ X f x [] res σ1){ES:List D}
  (hgd:ET all φ o=ab) (ho:o.op=.call { callee:=.value fo,args:=xs,argTypes:=Vw }) (hf:gu (cj φ fo)=aa (f,cap)) (hl:n9 σ (xs.toList.map (cj φ)++iz cap) ES)
  {ps:List Prop} (S0:zu ES (jP [] x)=aa ps) (hps:ai ps) (S1:qm 0 x=ab) (EU:∀ j,PC (res j)=ab) (gT:∀ j,Dd (σ1 j)=ab) (hN:iP N o.dst=ab)
  (kk:∀ j,AK X N Qf (.ops all rest::K) .normal (m9 o.dst (res j) φ) (σ++σ1 j)):AK X N Qf (.ops all (o::rest)::K) .normal φ σ:=by
 intro s a LU hh b kx cs S idx hb ly hQ;cases idx with
 |nil=>exact ly.elim
 |cons i idx =>
 obtain⟨hi,ly⟩:=ly;have Y6:=eP LU fo;unfold gu at hf;split at hf
 case h_2=>cases hf
 case h_1 f' Mk he =>
  cases hf;rw[he] at Y6;have Y:=ga Y6;generalize y:a.eval fo=fv at Y;cases Y with
  |fn fs m8 hlf S4 f1 f2 h1 h2 r1 r2 =>
   have Wb:fs=[]:=gh hlf;subst Wb;have S5:cG σ s m8 (iz cap):=na (λj c hj=>⟨f2 j,h2 j (by rw[S4];exact(bt.1 hj).1),r2 j c hj⟩) S4
   have V:cG σ s (xs.toList.map a.eval++m8) (xs.toList.map (cj φ)++iz cap):=(pU (eP LU) xs.toList).append S5;generalize Mv:xs.toList.map a.eval++m8=vs at V;obtain⟨⟨fn,Sv,W,Q⟩,S6⟩:=H8;have rK:∀ w,(aw a.eval o).run P w=.ok (.enter f vs.toArray) w:=λw=>by rw[<-Mv];exact(jz ho Sv W Q y w).1
   have Wc:∀ w,(aw a.eval o).events P w #[]=#[]:=λw=>(jz ho Sv W Q y w).2
   refine .next rfl λm C3=>?_
   have hr:=X.iO C3;have e:=hh.rely hr;have Wd:=LU.rely hr hh;have S7:cG σ m vs (xs.toList.map (cj φ)++iz cap):=V.mono hr.stepW.ext hh.len;obtain⟨B,M',Y7,m1,m2,m3,m4,m5⟩:=hl m vs e S7
   let G:St:={ m with β:=[],M:=M',own:=λb=>m.own b∨∃ L∈m.β,b∈L.bs }
   have hhc:aJ [] G:=by
    refine⟨m3,rfl,by simp,by simp[G],by simp[G],λb hb=>⟨?_,by simp[G]⟩⟩
    rcases hb with hb|⟨L',p,hb⟩
    .exact(e.own b hb).1
    .exact e.lt L' p b hb
   have We:eW m G:=by
    refine⟨rfl,m1,λb hb o=>m2 b (λE=>by obtain⟨L,hL,LS⟩:=Y7 b E;exact hb L hL LS) o,m3,λb hb=>?_⟩
    rcases hb with hb|⟨L',p,_⟩
    .exact hb
    .simp[G] at p
   have R:cG [] G vs x:=by
    have a3:=zv S0 hps m5;exact(cG.sub (ks:=[]) (σ:=σ) (σ':=[]) (s:={ m with M:=M' }) (β':=[]) rfl rfl a3 S1).mono (σ:=[]) (s:={ m with β:=[],M:=M' }) (σ':=[]) (s':=G) ⟨λ_ _ _ h=>h,λl B L E hL=>by simp at E⟩ rfl
   refine⟨_,m,_,rF hi (vB hgd _ _ _ Wd) hb (rK m.w),⟨⟨σ,σ,e,e,.refl _ _⟩,ft.seen (by rw[Wc];exact .nil)⟩,.ghost We (S6 G vs R hhc S _ λj fr v s2 C1 oa F8 oT=>?_)⟩
   refine sI (cs:=cs) (c:=b.aT a (.inRegion all.toArray (i::idx)::kx)) F8 C1 λz Wf=>?_
   have u:=F8.rely Wf;have r:=oT.trans Wf.stepW;have S8:=oa.mono Wf.stepW.ext F8.len
   classical
   let A:Mem:=λb o=>if B b then m.M b o else z.M b o
   have n:∀ b,(m.own b∨∃ L∈m.β,b∈L.bs)->z.own b:=λb hb=>by rw[r.own];exact hb
   have Y8:mU z { z with M:=A }:=by
    refine⟨rfl,rfl,rfl,λb o v y=>?_,λb o v y=>?_⟩
    .simp only[A] at y;split at y
     .rename_i d;rw[m4 b d] at y;cases y
     .exact y
    .by_cases d:B b
     .exact .inr (n b (.inr (Y7 b d)))
     .left;simp only[A,d,bH];exact y
   refine .forget Cx.jN.ok Y8 ?_;have Wh:∀ b o v,A b o=aa v->z.M b o=aa v:=Y8.less
   let s5:St:={ z with M:=A,β:=m.β++z.β,own:=m.own }
   have Y9:∀ b o v,m.M b o=aa v->A b o=aa v:=λb o v y=>by
    by_cases d:B b
    .rw[m4 b d] at y;cases y
    .simp only[A,d,bH];exact r.mem b o v (m1 b o v y)
   have Za:∀ b,b<m.w.heap.size->∀ o,A b o=m.M b o:=λb hb o=>by
    by_cases d:B b
    .simp only[A,d,bO]
    .simp only[A,d,bH];rw[r.jq b hb (by simp[G]) o];exact m2 b d o
   have Z:z.β.length=(σ1 j).length:=u.len;have ex:Ext σ m (σ++σ1 j) s5:=by
    refine⟨Y9,λl B L E hL=>⟨B,L,?_,?_,.refl _ _⟩⟩
    .rw[b7 (bt.1 E).1,E]
    .show (m.β++z.β)[l]?=_;rw[b7 (bt.1 hL).1,hL]
   have HR:m.w.heap.size<=z.w.heap.size:=r.size;have I:∀ (l:Nat) (L':Loc),(m.β++z.β)[l]?=aa L'->(l<m.β.length/\m.β[l]?=aa L')∨(m.β.length<=l/\z.β[l-m.β.length]?=aa L'):=λl L' h=>by
    rcases cr l m.β.length with J|O
    .rw[b7 J] at h;exact .inl ⟨J,h⟩
    .rw[dg O] at h;exact .inr ⟨O,h⟩
   have hh5:aJ (σ++σ1 j) s5:=by
    refine⟨λb o v y=>u.mem b o v (Wh b o v y),by simp[s5,e.len,Z],?_,?_,?_,?_⟩
    .intro l B L' E p;rcases I l L' p with⟨J,h1⟩|⟨O,h1⟩
     .rw[b7 (by rw[<-e.len];exact J)] at E
      exact(e.box l B L' E h1).carry ex e.len λg d=>⟨r.eH g (.inr ⟨L',bz h1,d⟩),Za g (e.lt L' (bz h1) g d)⟩
     .rw[dg (by rw[<-e.len];exact O),<-e.len] at E
      have hbx:=u.box _ B L' E h1;rcases A7 (gT j) B (bz E) with⟨H,rfl⟩|rfl
      .obtain⟨ch,c1,c2,c3,c4⟩:=hbx;refine⟨ch,c1,c2,c3,λg d o=>?_⟩
       cases hm:A g o with
       |none=>exact hm
       |some v=>have:=Wh _ _ _ hm;rw[c4 g d] at this;cases this
      .trivial
    .intro l l' L1 L2 hL1 hL2 g U T;rcases I l L1 hL1 with⟨J,h1⟩|⟨O,h1⟩ <;> rcases I l' L2 hL2 with⟨aaZ,h2⟩|⟨aa0,h2⟩
     .exact e.gb l l' L1 L2 h1 h2 g U T
     .exact absurd T ((u.own g (n g (.inr ⟨L1,bz h1,U⟩))).2 L2 (bz h2))
     .exact absurd U ((u.own g (n g (.inr ⟨L2,bz h2,T⟩))).2 L1 (bz h1))
     .have:=u.gb _ _ L1 L2 h1 h2 g U T;omega
    .intro L' p g d;rcases dr.1 p with h|h
     .exact cz (e.lt L' h g d) HR
     .exact u.lt L' h g d
    .intro g d;refine⟨cz (e.own g d).1 HR,λL' p=>?_⟩
     rcases dr.1 p with h|h
     .exact(e.own g d).2 L' h
     .exact(u.own g (n g (.inl d))).2 L' h
   have hg5:eW { z with M:=A } s5:=by
    refine⟨rfl,λ_ _ _ h=>h,λ_ _ _=>rfl,λb o v y=>u.mem b o v (Wh b o v y),λg d=>?_⟩
    rcases d with d|⟨L',p,d⟩
    .exact .inl (n g (.inl d))
    .rcases dr.1 p with h|h
     .exact .inl (n g (.inr ⟨L',h,d⟩))
     .exact .inr ⟨L',h,d⟩
   have Wi:cC σ m (σ++σ1 j) s5:=by
    refine⟨HR,λg d=>r.eH g (.inl d),Y9,λg d _ o=>Za g d o,λL' p g d=>?_,ex.box,r.os,r.tape,r.output,rfl⟩
    rcases dr.1 p with h|h
    .exact .inr ⟨L',h,d⟩
    .rcases r.tK L' h g d with h1|⟨L0,h1,_⟩
     .exact .inl h1
     .simp[G] at h1
   refine .ghost hg5 ?_;have F:=lF (b:=b) (a:=a) (k:=kx) all.toArray i idx v;rw[hi] at F;simp only[mg] at F;rw[F];refine kk j s5 _ ?_ hh5 b kx cs S idx hb ly λφ2 σ2 s6 a2 q f2 h2 st=>hQ φ2 σ2 s6 a2 q f2 h2 ((hr.stepW.trans Wi).trans st)
   cases hd:o.dst with
   |none=>exact Wd.mono Wi e.len
   |some t=>exact(Wd.mono Wi e.len).put (iY hN t hd) (Mt (EU j) S8)
set_option maxHeartbeats 1000000 in
theorem AK.Il [X.jN] {ι:Type}{r:aq}{xs:Array aq}{g:Array ar}{f:aX}{cap:List C}{a:List D}{res:ι->D}{σ1:ι->List aW}(h:dZ X f a [] res σ1)(t p:Nat){u:ak}{k n:Nat}{es:Nat->List C}
  (m:ET all φ o=ab) (z:o.op=.call { callee:=.value r,args:=xs,argTypes:=g }) (w:gu (cj φ r)=aa (f,cap)) (x:(xs.toList.map (cj φ)++iz cap)[p]?=aa (.e (.one (.v u)))) (hl:jN σ t u k n es)
  {ps:List Prop} (d:zu ((xs.toList.map (cj φ)++iz cap).set p (.e (.one (.c (.sl ae k n es))))) (jP [] a)=aa ps) (q:ai ps) (i:qm 0 a=ab) (b:∀ j,PC (res j)=ab) (l:∀ j,Dd (σ1 j)=ab) (y:iP N o.dst=ab)
  (kk:∀ j,AK X N Qf (.ops all rest::K) .normal (m9 o.dst (res j) φ) (σ++σ1 j)):AK X N Qf (.ops all (o::rest)::K) .normal φ σ :=
 AK.F7 h m z w ((n9.refl _ _).step p t x hl) d q i b l y kk
end
end Go.AM
