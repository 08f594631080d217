/- Part 1. No condition. -/
import Derived.Tactics2
import Derived.Conc.Own
import Derived.Conc.Events
import Derived.Conc.Listed
import Derived.Laws.CopyRow
import Derived.Laws.AppendOwn
import Derived.Laws.Rows
import Derived.Laws.Strings
import Derived.Laws.Cells
import Derived.Lib.Strings
import Derived.Laws.Slices
import Derived.Laws.StructEq
import Derived.Orders
set_option linter.all false
set_option maxHeartbeats 8000000
open Go renaming Value → ah
open Option renaming some → aa
open Go renaming Program → aq
open Go renaming TypeId → aj
open Bool renaming true → ab
open Option renaming none → af
open Go renaming Oper → ar
open Go renaming Operand → ak
open Bool renaming false → ae
open Go renaming undef → ai
open Go.World renaming cell? → aU
open List renaming getD_eq_getElem?_getD → an
open Go.Sem renaming events_bind → aK
open Go.Result renaming evThen_ok → aO
open Go.Instr renaming sliceBounds → ba
open Go renaming execOp → av
open Go renaming World → az
open Go renaming Goroutine → au
open Go renaming stepG → aG
open Go renaming Frame → aR
open List renaming range → bd
open Go.Region renaming wanted → bc
open Go renaming FuncId → aH
open Go.Instr renaming sureAddr → bn
open Nat renaming beq → aA
open Nat renaming ble → bw
open Go.Region renaming ready → a9
open Go.Op renaming equalIn → aX
open Go.Op renaming bytesLess → bk
namespace Go
section
set_option linter.defProp false
set_option linter.deprecated false
def aw:=@_root_.trivial
def br:=@_root_.List.getElem?_eq_getElem
def aZ:=@_root_.decide_eq_true_eq
def bM:=@_root_.decide_eq_false_iff_not
def aD:=@_root_.and_true
def aF:=@_root_.true_and
def bJ:=@_root_.List.mem_of_getElem?
def bZ:=@_root_.List.getElem?_eq_some_iff
def bR:=@_root_.Nat.eq_of_beq_eq_true
def cd:=@_root_.Int.toNat_natCast
def bg:=@_root_.Nat.le_refl
def bS:=@_root_.Bool.and_eq_true
def bX:=@_root_.Go.Result.andThen_ok
def bC:=@_root_.Nat.zero_add
def cZ:=@_root_.Nat.le_of_ble_eq_true
def cA:=@_root_.List.length_append
def dN:=@_root_.Array.getD_eq_getD_getElem?
def bO:=@_root_.Go.Sem.run_bind
def cW:=@_root_.Nat.lt_of_lt_of_le
def aY:=@_root_.if_neg
def dr:=@_root_.Option.some.injEq
def dL:=@_root_.List.getElem_of_mem
def dh:=@_root_.List.take_length
def dc:=@_root_.decide_eq_true
def eC:=@_root_.Nat.mul_le_mul_right
def bl:=@_root_.if_pos
def cG:=@_root_.Nat.lt_or_ge
def fY:=@_root_.Array.getElem?_eq_getElem
def eD:=@_root_.beq_eq_false_iff_ne
def gz:=@_root_.List.getElem?_append_right
def fZ:=@_root_.List.getElem?_set_self
def er:=@_root_.List.length_cons
def ig:=@_root_.Array.getElem?_eq_some_iff
def fP:=@_root_.List.mem_of_mem_take
def jf:=@_root_.List.eq_nil_of_length_eq_zero
def dt:=@_root_.Go.Sem.run_pure
def fh:=@_root_.not_true_eq_false
def b9:=@_root_.if_false
def ga:=@_root_.List.mem_singleton
def ij:=@_root_.List.getElem?_toArray
def jw:=@_root_.List.getElem?_append_left
def eE:=@_root_.List.mem_cons
def fG:=@_root_.List.length_nil
def j5:=@_root_.List.pairwise_iff_getElem
def cn:=@_root_.if_true
def fQ:=@_root_.Nat.not_lt_zero
def jg:=@_root_.List.length_singleton
def gb:=@_root_.List.mem_append
def fH:=@_root_.Bool.true_and
def iN:=@_root_.List.getElem?_take
def jh:=@_root_.Array.length_toList
def lb:=@_root_.List.getElem?_cons_zero
def iO:=@_root_.List.ext_getElem?
def ik:=@_root_.Option.getD_some
def ji:=@_root_.List.pairwise_cons
def j6:=@_root_.List.getElem?_set_ne
def ld:=@_root_.List.take_append_drop
def jy:=@_root_.Bool.false_eq_true
def dA:=@_root_.congrArg
def mS:=@_root_.Array.getElem?_replicate
def iP:=@_root_.decide_eq_false
def iQ:=@_root_.List.append_nil
def jz:=@_root_.beq_self_eq_true
def j7:=@_root_.Bool.not_eq_true'
def jA:=@_root_.Bool.or_eq_true
def nY:=@_root_.List.getElem?_cons_succ
def lf:=@_root_.List.take_add_one
def im:=@_root_.Nat.le_trans
def iq:=@_root_.Nat.add_zero
def iR:=@_root_.Nat.beq_refl
def lR:=@_root_.List.append_assoc
def vD:=@_root_.Array.getElem?_setIfInBounds_self_of_lt
def mT:=@_root_.Nat.eq_zero_or_pos
def ir:=@_root_.Nat.add_mul
def nZ:=@_root_.List.mem_iff_getElem
def mU:=@_root_.List.mem_cons_self
def lg:=@_root_.List.mem_filter
def lh:=@_root_.List.length_map
def lj:=@_root_.List.foldl_cons
def qS:=@_root_.Array.mapM_eq_mapM_toList
def hI:=@_root_.beq_iff_eq
def mV:=@_root_.List.getElem?_map
def j8:=@_root_.Bool.not_true
def n3:=@_root_.List.getElem?_drop
def oZ:=@_root_.Array.toArray_toList
def vE:=@_root_.List.findIdx?_eq_some_iff_getElem
def n5:=@_root_.not_false_eq_true
def n6:=@_root_.bne_self_eq_false
def qT:=@_root_.Option.map_eq_some_iff
def vF:=@_root_.Array.getElem?_setIfInBounds_ne
def du:=@_root_.ne_eq
def n7:=@_root_.Option.bind_some
def lS:=@_root_.Prod.mk.injEq
def lk:=@_root_.Nat.succ_mul
def qU:=@_root_.List.mem_cons_of_mem
def o0:=@_root_.of_decide_eq_true
def n8:=@_root_.Option.map_some
def ll:=@_root_.Nat.zero_le
def j9:=@_root_.Nat.mod_lt
def n9:=@_root_.List.mapM_cons
def pP:=@_root_.Bool.and_eq_false_iff
def ml:=@_root_.List.nil_append
def kA:=@_root_.decide_false
def pQ:=@_root_.Nat.div_lt_of_lt_mul
def pR:=@_root_.List.mem_of_mem_drop
def kB:=@_root_.List.mem_map
def oa:=@_root_.List.not_mem_nil
def oc:=@_root_.Bool.not_eq_true
def kC:=@_root_.decide_true
def lF:=@_root_.Nat.sub_zero
def pS:=@_root_.Nat.add_sub_cancel
def pT:=@_root_.Int.emod_lt_of_pos
def pU:=@_root_.Bool.not_eq_false'
def od:=@_root_.UInt8.toNat_inj
def rG:=@_root_.Nat.ble_eq_true_of_le
def rH:=@_root_.List.getElem?_eq_none
def oe:=@_root_.List.mem_range
def rI:=@_root_.Bool.or_eq_false_iff
def og:=@_root_.Bool.not_false
def pV:=@_root_.Nat.div_add_mod'
def pW:=@_root_.List.length_drop
def pX:=@_root_.List.ext_getElem
def rJ:=@_root_.Int.toNat_of_nonneg
def pY:=@_root_.Int.emod_nonneg
def pZ:=@_root_.Bool.eq_iff_iff
def lG:=@_root_.bne_iff_ne
def uX:=@_root_.Nat.le_mul_of_pos_right
def uY:=@_root_.List.range_succ_eq_map
def uZ:=@_root_.Array.mem_of_getElem?
def mm:=@_root_.Nat.not_lt
def rK:=@_root_.List.getElem_mem
def rL:=@_root_.List.cons_append
def p9:=@_root_.List.map_cons
def u4:=@_root_.List.pairwise_append
def rM:=@_root_.Option.some.inj
def u5:=@_root_.Nat.mul_le_mul_left
def rN:=@_root_.Bool.false_and
def zh:=@_root_.List.drop_eq_getElem_cons
def u6:=@_root_.List.flatMap_cons
def zi:=@_root_.Option.isSome_iff_exists
def zj:=@_root_.Nat.lt_succ_iff_lt_or_eq
def mn:=@_root_.or_false
def zk:=@_root_.Nat.add_sub_cancel_left
def u7:=@_root_.List.drop_length
def zl:=@_root_.Array.getElem?_eq_none
def zm:=@_root_.Array.getElem?_toList
def zn:=@_root_.List.getElem?_of_mem
def zo:=@_root_.Nat.add_sub_cancel'
def zp:=@_root_.List.filter_eq_self
def rO:=@_root_.Go.Sem.run_ite
end
end Go
namespace Go.AM
inductive C where
  | int (k:IntKind) (n:Int)
  | bool (b:Bool)
  | str (s:List UInt8)
  | sl (tight:Bool) (k n:Nat) (es:Nat->List C)
  | rp (cs:List C)
  | fx
  | ifs (t:aj) (c:C)
  | FN (t:aj) (cs:List C)
  | iw
  | fn (f:Fn) (first cap:List C)
  | xT
  | val (x:ah)
inductive BP where
  | sl (g k o n:Nat)
  | el (g k i f:Nat)
def BP.g:BP->Nat
  | .sl g _ _ _=>g
  | .el g _ _ _=>g
def BP.K:BP->ah->ah->Prop
  | .sl _ k o n,lv,v=>∃a a0 cap c0,v=.slice a n cap/\n<=cap/\o+cap=c0/\c0<=9223372036854775807/\lv=.slice a0 0 c0/\(0<cap->∃b,a0=aa ⟨b,0,af⟩/\a=aa ⟨b,o*k,af⟩)
  | .el _ k i f,lv,v=>∃b c0,lv=.slice (aa ⟨b,0,af⟩) 0 c0/\v=.pointer (aa ⟨b,i*k+f,af⟩)
inductive A where
  | c (x:C)
  | ptr (l off:Nat)
  | vec (l k n:Nat) (es:Nat->List C)
  | ref (l:Nat)
  | bp (l:Nat) (w:BP)
  | any
abbrev A.v(x:ah):A:=.c (.val x)
inductive E1 where
  | one (a:A)
  | agg (cs:List A)
inductive D where
  | e (x:E1)
  | fa (xs:List E1)
  | any
abbrev Fr:=List (Nat×D)
def look:Fr->Nat->D
  | [],_=>.any
  | (i,d)::r,t=>cond (aA i t) d (look r t)
inductive aP where
  | cells (E:aj) (cs:List A)
  | vec (E:aj) (k n:Nat) (es:Nat->List C)
  | cf (H:ah->(Nat->Option Obj)->Prop)
  | dead
  | loop (N:Nat) (φ:Fr) (r:Loop)
  | qX
  | buf (E:aj) (k n:Nat) (es:Nat->List C)
@[simp] def aP.gr:aP->Bool
  | .vec _ _ _ _=>ab
  | .buf _ _ _ _=>ab
  | _=>ae
structure Loc where
  v:ah
  bs:List Nat
abbrev Mem:=Nat->Nat->Option ah
structure St where
  β:List Loc
  M:Mem
  w:az
  own:Nat->Prop
def bA:IntKind->Int->Prop
  | .i8,n=>-128<=n/\n<=127
  | .i16,n=>-32768<=n/\n<=32767
  | .i32,n=>-2147483648<=n/\n<=2147483647
  | .i64,n=>-9223372036854775808<=n/\n<=9223372036854775807
  | .u8,n=>0<=n/\n<=255
  | .u16,n=>0<=n/\n<=65535
  | .u32,n=>0<=n/\n<=4294967295
  | .u64,n=>0<=n/\n<=18446744073709551615
def cJ:ah->Bool
  | .agg _|.tuple _=>ae
  | _=>ab
def BP.K.cell{w:BP}{lv v:ah}(h:w.K lv v):cJ v=ab:=by
  cases w with
  | sl=>obtain⟨_,_,_,_,rfl,_⟩:=h;rfl
  | el=>obtain⟨_,_,_,rfl⟩:=h;rfl
inductive Rd (M:Mem):ah->C->Prop
  | int {k:IntKind} {n:Int} (h:bA k n):Rd M (.int k n) (.int k n)
  | bool {b:Bool}:Rd M (.bool b) (.bool b)
  | str {s:ByteArray} {l:List UInt8} (h:s.data.toList=l) (hl:l.length<=9223372036854775807):Rd M (.string s) (.str l)
  | sl {a:Option Addr} {n cap:Nat} {tight:Bool} {k:Nat} {es:Nat->List C} (b off:Nat) (f:Nat->Nat->ah)
      (DH:n<=cap) (hb:cap<=9223372036854775807) (ht:tight=ab->cap=n) (hk:∀i,i<n->(es i).length=k)
      (ha:0<n->a=aa ⟨b,off,af⟩)
      (hm:∀i,i<n->∀j c,(es i)[j]?=aa c->M b (off+i*k+j)=aa (f i j))
      (hr:∀i,i<n->∀j c,(es i)[j]?=aa c->Rd M (f i j) c):Rd M (.slice a n cap) (.sl tight k n es)
  | rp {cs:List C} (b off:Nat) (f:Nat->ah)
      (hm:∀j c,cs[j]?=aa c->M b (off+j)=aa (f j))
      (hr:∀j c,cs[j]?=aa c->Rd M (f j) c):Rd M (.pointer (aa ⟨b,off,af⟩)) (.rp cs)
  | fx:Rd M (.pointer af) .fx
  | ifs {t:aj} {v:ah} {c:C} (h:Rd M v c) (hc:cJ v=ab):Rd M (.iface t v) (.ifs t c)
  | FN {t:aj} {vs:List ah} {cs:List C} (hl:vs.length=cs.length)
      (f:Nat->ah) (hf:∀j,j<vs.length->vs[j]?=aa (f j)) (hr:∀j c,cs[j]?=aa c->Rd M (f j) c):Rd M (.iface t (.agg vs.toArray)) (.FN t cs)
  | iw:Rd M .nilIface .iw
  | fn {g:Fn} {first cap:List C} (fs cs:List ah) (hl:fs.length=first.length) (Dp:cs.length=cap.length) (f1 f2:Nat->ah)
      (h1:∀j,j<fs.length->fs[j]?=aa (f1 j)) (h2:∀j,j<cs.length->cs[j]?=aa (f2 j))
      (r1:∀j c,first[j]?=aa c->Rd M (f1 j) c) (r2:∀j c,cap[j]?=aa c->Rd M (f2 j) c):Rd M (.func g fs.toArray cs.toArray) (.fn g first cap)
  | xT:Rd M .nilFunc .xT
  | val {x:ah} (h:cJ x=ab):Rd M x (.val x)
theorem Rd.dY{M:Mem}{v x:ah}(h:Rd M v (.val x)):v=x:=by cases h;rfl
def Rd.cell{M:Mem}{v:ah}{c:C}(h:Rd M v c):cJ v=ab:=by cases h<;>first|rfl|assumption
def Rd.mono{M M':Mem}(d:∀b o v,M b o=aa v->M' b o=aa v){v:ah}{c:C}(h:Rd M v c):Rd M' v c:=by
  induction h with
  | int h=>exact .int h
  | bool=>exact .bool
  | str h hl=>exact .str h hl
  | sl b off f a g e hk ha hm hr ih =>
    exact .sl b off f a g e hk ha (λi hi j c hj=>d _ _ _ (hm i hi j c hj)) (λi hi j c hj=>ih i hi j c hj)
  | rp b off f hm hr ih=>exact .rp b off f (λj c hj=>d _ _ _ (hm j c hj)) (λj c hj=>ih j c hj)
  | fx=>exact .fx
  | ifs h k ih=>exact .ifs ih k
  | FN hl f l hr ih=>exact .FN hl f l (λj c hj=>ih j c hj)
  | iw=>exact .iw
  | fn fs cs hl Dp f1 f2 h1 h2 r1 r2 ih1 ih2=>exact .fn fs cs hl Dp f1 f2 h1 h2 (λj c hj=>ih1 j c hj) (λj c hj=>ih2 j c hj)
  | xT=>exact .xT
  | val h=>exact .val h
def gu(σ:List aP)(s:St)(v:ah):A->Prop
  | .c x=>Rd s.M v x
  | .ptr l off=>(∀B,σ[l]?=aa B->B.gr=ae)/\∃L b,s.β[l]?=aa L/\L.v=.pointer (aa ⟨b,0,af⟩)/\v=.pointer (aa ⟨b,off,af⟩)
  | .vec l k n es=>Rd s.M v (.sl ae k n es)/\l<σ.length/\∀E k' n' es',σ[l]?=aa (aP.vec E k' n' es')->n<=n'/\(n'=n->∃L,s.β[l]?=aa L/\v=L.v)
  | .ref l=>(∀B,σ[l]?=aa B->B.gr=ae)/\∃L,s.β[l]?=aa L/\v=L.v/\cJ v=ab
  | .bp l w=>∃a,w.K a v/\l<σ.length/\∀E k n es,σ[l]?=aa (aP.buf E k n es)->w.g<=n/\(w.g=n->∃L,s.β[l]?=aa L/\L.v=a)
  | .any=>cJ v=ab
def dW(σ:List aP)(s:St):List ah->List A->Prop
  | [],[]=>True
  | v::vs,a::al=>gu σ s v a/\dW σ s vs al
  | _,_=>False
def m8(σ:List aP)(s:St)(v:ah):E1->Prop
  | .one a=>gu σ s v a
  | .agg cs=>∃vs:List ah,v=.agg vs.toArray/\dW σ s vs cs
def g6(σ:List aP)(s:St):List ah->List E1->Prop
  | [],[]=>True
  | v::vs,a::al=>m8 σ s v a/\g6 σ s vs al
  | _,_=>False
def dn(σ:List aP)(s:St)(v:ah):D->Prop
  | .e x=>m8 σ s v x
  | .fa xs=>∃vs:List ah,v=.tuple vs.toArray/\g6 σ s vs xs
  | .any=>True
def ck(σ:List aP)(s:St):List ah->List D->Prop
  | [],[]=>True
  | v::vs,a::al=>dn σ s v a/\ck σ s vs al
  | _,_=>False
structure Flat(M:Mem)(k n:Nat)(es:Nat->List C)(vs:List ah):Prop where
  len:vs.length=n*k
  width:∀i,i<n->(es i).length=k
  rd:∀i,i<n->∀(j:Nat) (c:C),(es i)[j]?=aa c->∃v,vs[i*k+j]?=aa v/\Rd M v c
def Flat.mono{M M':Mem}(a:∀b o v,M b o=aa v->M' b o=aa v){k n:Nat}{es:Nat->List C}{vs:List ah}(h:Flat M k n es vs):Flat M' k n es vs :=
  ⟨h.len,h.width,λi hi j c hj=>let ⟨v,h1,h2⟩:=h.rd i hi j c hj;⟨v,h1,h2.mono a⟩⟩
def et(σ:List aP)(s:St):aP->Loc->Prop
  | .cells E cs,L=>∃b vs,L=⟨.pointer (aa ⟨b,0,af⟩),[b]⟩/\s.w.heap[b]?=aa (.cells (List.toArray vs) E (0,0))/\dW σ s vs cs/\∀o,s.M b o=af
  | .vec E k n es,L=>Rd s.M L.v (.sl ae k n es) /\
      (((L.bs=[]/\n=0)/\Rd s.M L.v (.sl ab k n es)) ∨
       ∃b cap vs,L=⟨.slice (aa ⟨b,0,af⟩) n cap,[b]⟩/\s.w.heap[b]?=aa (.cells (List.toArray vs) E (0,0))/\vs.length=cap*k/\∀o,n*k<=o->s.M b o=af)
  | .cf H,L=>∃c,H L.v c/\(∀(b:Nat) (o:Obj),c b=aa o->s.w.heap[b]?=aa o)/\(∀b,b∈L.bs↔(c b).isSome=ab)/\∀b∈L.bs,∀o,s.M b o=af
  | .dead,_=>True
  | .loop N φ r,L=>∃l tmps fn df,L=⟨.func (.yield l) #[] #[],[l]⟩/\s.w.heap[l]?=aa (.loop {r with tmps:=tmps,fn:=fn,defers:=df})/\tmps.size=N/\(∀t,dn σ s (tmps.getD t ai) (look φ t))/\∀o,s.M l o=af
  | .qX,L=>∃r:Nat,L=⟨.int .i64 r,[r]⟩/\s.w.heap[r]?=aa (.deferred (aa []))/\∀o,s.M r o=af
  | .buf E k n es,L=>(n=0/\L=⟨.slice af 0 0,[]⟩)∨∃b a vs zs,L=⟨.slice (aa ⟨b,0,af⟩) 0 a,[b]⟩/\s.w.heap[b]?=aa (.cells (List.toArray (vs++zs)) E (0,0))/\(vs++zs).length=a*k/\n<=a/\a<=9223372036854775807/\Flat s.M k n es vs/\∀o,s.M b o=af
structure aE(σ:List aP)(s:St):Prop where
  mem:∀b o v,s.M b o=aa v->s.w.cell? ⟨b,o,af⟩=aa v
  len:s.β.length=σ.length
  box:∀(l:Nat) (B:aP) (L:Loc),σ[l]?=aa B->s.β[l]?=aa L->et σ s B L
  eB:∀(l l':Nat) (L L':Loc),s.β[l]?=aa L->s.β[l']?=aa L'->∀b∈L.bs,b∈L'.bs->l=l'
  lt:∀L∈s.β,∀b∈L.bs,b<s.w.heap.size
  own:∀b,s.own b->b<s.w.heap.size/\∀L∈s.β,b∉L.bs
def gA:aP->Loc->aP->Loc->Prop
  | .vec _ _ n _,L,.vec _ _ a _,L'=>(a=n->L'.v=L.v)/\n<=a
  | .vec _ _ _ _,_,.dead,_=>True
  | .vec _ _ _ _,_,_,_=>False
  | .buf _ _ n _,L,.buf _ _ a _,L'=>(a=n->L'.v=L.v)/\n<=a
  | .buf _ _ _ _,_,.dead,_=>True
  | .buf _ _ _ _,_,_,_=>False
  | _,_,.vec _ _ _ _,_=>False
  | _,_,.buf _ _ _ _,_=>False
  | .dead,L,.dead,L'=>L'.v=L.v
  | .dead,_,_,_=>False
  | .qX,L,.qX,L'=>L'.v=L.v
  | .qX,_,_,_=>False
  | _,_,.qX,_=>False
  | _,L,_,L'=>L'.v=L.v
structure Ext(σ:List aP)(s:St)(σ':List aP)(s':St):Prop where
  mem:∀b o v,s.M b o=aa v->s'.M b o=aa v
  box:∀(l:Nat) (B:aP) (L:Loc),σ[l]?=aa B->s.β[l]?=aa L->∃B' L',σ'[l]?=aa B'/\s'.β[l]?=aa L'/\gA B L B' L'
structure Step(σ:List aP)(s:St)(σ':List aP)(s':St):Prop where
  size:s.w.heap.size<=s'.w.heap.size
  fi:∀b,b<s.w.heap.size->(∀L∈s.β,b∉L.bs)->s'.w.heap[b]?=s.w.heap[b]?
  mem:∀b o v,s.M b o=aa v->s'.M b o=aa v
  iU:∀b,b<s.w.heap.size->(∀L∈s.β,b∉L.bs)->∀o,s'.M b o=s.M b o
  vb:∀L'∈s'.β,∀b∈L'.bs,s.w.heap.size<=b∨∃L∈s.β,b∈L.bs
  box:∀(l:Nat) (B:aP) (L:Loc),σ[l]?=aa B->s.β[l]?=aa L->∃B' L',σ'[l]?=aa B'/\s'.β[l]?=aa L'/\gA B L B' L'
  os:s'.w.os=s.w.os
  tape:s'.w.tape=s.w.tape
  output:s'.w.output=s.w.output
  own:s'.own=s.own
structure cU(σ:List aP)(s:St)(σ':List aP)(s':St):Prop where
  size:s.w.heap.size<=s'.w.heap.size
  fi:∀b,s.own b->s'.w.heap[b]?=s.w.heap[b]?
  mem:∀b o v,s.M b o=aa v->s'.M b o=aa v
  iU:∀b,b<s.w.heap.size->(∀L∈s.β,b∉L.bs)->∀o,s'.M b o=s.M b o
  vb:∀L'∈s'.β,∀b∈L'.bs,s.w.heap.size<=b∨∃L∈s.β,b∈L.bs
  box:∀(l:Nat) (B:aP) (L:Loc),σ[l]?=aa B->s.β[l]?=aa L->∃B' L',σ'[l]?=aa B'/\s'.β[l]?=aa L'/\gA B L B' L'
  os:s'.w.os=s.w.os
  tape:s'.w.tape=s.w.tape
  output:s'.w.output=s.w.output
  own:s'.own=s.own
structure cp(s s':St):Prop where
  β:s'.β=s.β
  M:s'.M=s.M
  own:s'.own=s.own
  size:s.w.heap.size<=s'.w.heap.size
  fi:∀b,(s.own b∨∃L∈s.β,b∈L.bs)->s'.w.heap[b]?=s.w.heap[b]?
  mem:∀b o v,s.M b o=aa v->s'.w.cell? ⟨b,o,af⟩=aa v
  os:s'.w.os=s.w.os
  tape:s'.w.tape=s.w.tape
  output:s'.w.output=s.w.output
def oh(s:St)(e:Event):Prop :=
  match e.loc with
  | .cell a=>e.sync=ae/\a.spot=af/\(False∨((∃L∈s.β,a.block∈L.bs)/\(e.write=ab->s.M a.block a.off=af))∨(e.write=ae/\∃v,s.M a.block a.off=aa v))
  | .obj r=>e.sync=ae/\(False∨∃L∈s.β,r∈L.bs)
  | .mark m=>m=.noRoom∨∃f,m=.extern f
  | _=>False
def fb(s:St)(es:Array Event):Prop:=∀e∈es,oh s e
def fb.nil{s:St}:fb s #[]:=by intro e h;grind
def gA.refl(B:aP)(L:Loc):gA B L B L:=by cases B<;>simp[gA]
def gA.trans{B B' XE:aP}{L L' ZT:Loc}(h:gA B L B' L')(a:gA B' L' XE ZT):gA B L XE ZT:=by
  cases B<;>cases B'<;>cases XE<;>simp_all[gA]
  all_goals
    grind
def Step.refl(σ:List aP)(s:St):Step σ s σ s :=
  ⟨bg _,λ_ _ _=>rfl,λ_ _ _ h=>h,λ_ _ _ _=>rfl,λL h b c=>.inr ⟨L,h,c⟩,λ_ B L h a=>⟨B,L,h,a,.refl _ _⟩,rfl,rfl,rfl,rfl⟩
def Step.trans{σ σ1 σ2:List aP}{s e s2:St}(h:Step σ s σ1 e)(k:Step σ1 e σ2 s2):Step σ s σ2 s2:=by
  have out:∀b,b<s.w.heap.size->(∀L∈s.β,b∉L.bs)->∀L∈e.β,b∉L.bs:=by
    intro b a c L d f;rcases h.vb L d b f with h1|⟨x,q,n⟩
    · omega
    grind
  refine⟨im h.size k.size,?_,λb o v p=>k.mem _ _ _ (h.mem _ _ _ p),?_,?_,?_,k.os.trans h.os,k.tape.trans h.tape,k.output.trans h.output,k.own.trans h.own⟩
  · intro b a c
    rw[k.fi b (cW a h.size) (out b a c),h.fi b a c]
  · intro b a c o
    rw[k.iU b (cW a h.size) (out b a c),h.iU b a c]
  · intro L d b a
    rcases k.vb L d b a with h1|⟨L1,t,u⟩
    · exact .inl (im h.size h1)
    grind
  · intro l B L hB d
    obtain⟨B1,L1,h1,h2,g⟩:=h.box l B L hB d;obtain⟨j,m,k1,r,i⟩:=k.box l B1 L1 h1 h2;exact⟨j,m,k1,r,g.trans i⟩
def cU.refl(σ:List aP)(s:St):cU σ s σ s :=
  ⟨bg _,λ_ _=>rfl,λ_ _ _ h=>h,λ_ _ _ _=>rfl,λL h b c=>.inr ⟨L,h,c⟩,λ_ B L h a=>⟨B,L,h,a,.refl _ _⟩,rfl,rfl,rfl,rfl⟩
def cU.trans{σ σ1 σ2:List aP}{s d s2:St}(h:cU σ s σ1 d)(k:cU σ1 d σ2 s2):cU σ s σ2 s2:=by
  have out:∀b,b<s.w.heap.size->(∀L∈s.β,b∉L.bs)->∀L∈d.β,b∉L.bs:=by
    intro b a e L c f;rcases h.vb L c b f with h1|⟨x,q,n⟩
    · omega
    grind
  refine⟨im h.size k.size,?_,λb o v p=>k.mem _ _ _ (h.mem _ _ _ p),?_,?_,?_,k.os.trans h.os,k.tape.trans h.tape,k.output.trans h.output,k.own.trans h.own⟩
  · intro b a
    rw[k.fi b (by rw[h.own];exact a),h.fi b a]
  · intro b a e o
    rw[k.iU b (cW a h.size) (out b a e),h.iU b a e]
  · intro L c b a
    rcases k.vb L c b a with h1|⟨L1,t,u⟩
    · exact .inl (im h.size h1)
    grind
  · intro l B L hB c
    obtain⟨B1,L1,h1,h2,g⟩:=h.box l B L hB c;obtain⟨j,m,k1,r,i⟩:=k.box l B1 L1 h1 h2;exact⟨j,m,k1,r,g.trans i⟩
def Step.na{σ σ':List aP}{s s':St}(hh:aE σ s)(h:Step σ s σ' s'):cU σ s σ' s' :=
  ⟨h.size,λb a=>h.fi b (hh.own b a).1 (hh.own b a).2,h.mem,h.iU,h.vb,h.box,h.os,h.tape,h.output,h.own⟩
def cU.ext{σ σ':List aP}{s s':St}(h:cU σ s σ' s'):Ext σ s σ' s':=⟨h.mem,h.box⟩
def cp.refl{σ:List aP}{s:St}(hh:aE σ s):cp s s:=⟨rfl,rfl,rfl,bg _,λ_ _=>rfl,hh.mem,rfl,rfl,rfl⟩
def cp.stepW{σ:List aP}{s s':St}(h:cp s s'):cU σ s σ s' :=
  ⟨h.size,λb c=>h.fi b (.inl c),λb o v d=>by rw[h.M];exact d,λ_ _ _ _=>by rw[h.M],λL a b c=>.inr ⟨L,by rw[<-h.β];exact a,c⟩,
    λl B L hB a=>⟨B,L,hB,by rw[h.β];exact a,.refl _ _⟩,h.os,h.tape,h.output,h.own⟩
def Step.ext{σ σ':List aP}{s s':St}(h:Step σ s σ' s'):Ext σ s σ' s':=⟨h.mem,h.box⟩
section mono
variable {σ σ':List aP}{s s':St}
def Ext.Nk(h:Ext σ s σ' s'){l:Nat}{L:Loc}(d:s.β[l]?=aa L)(hl:s.β.length=σ.length)(c:∀B,σ[l]?=aa B->B.gr=ae):
    (∀B,σ'[l]?=aa B->B.gr=ae)/\∃L',s'.β[l]?=aa L'/\L'.v=L.v:=by
  have a:l<σ.length:=by grind
  obtain⟨B',L',k1,f,e⟩:=h.box l (σ[l]) L (br a) d;have b:=c _ (br a);generalize σ[l]=B at *;rw[k1];cases B<;>cases B'<;>simp_all[gA,aP.gr]
def gu.mono(h:Ext σ s σ' s')(hl:s.β.length=σ.length){v:ah}{a:A}(r:gu σ s v a):gu σ' s' v a:=by
  cases a with
  | c x=>exact Rd.mono h.mem r
  | any=>exact r
  | ptr l off =>
    obtain⟨m,L,b,h1,h2,i⟩:=r;obtain⟨g,L',k1,o⟩:=h.Nk h1 hl m;exact⟨g,L',b,k1,by grind,i⟩
  | vec l k n es =>
    obtain⟨j,d,q⟩:=r;obtain⟨B',L',k1,o,f⟩:=h.box l (σ[l]) (s.β[l]'(by omega)) (br d) (br (by omega));have e:l<σ'.length:=(bZ.1 k1).1;refine⟨Rd.mono h.mem j,e,λE k' g es' he=>?_⟩;rw[he]at k1;cases k1;have hB:=br d;generalize σ[l]=B at *;cases B with
    | vec E0 k0 n0 WM =>
      obtain⟨p,q2⟩:=f;grind
    | _=>simp[gA]at f
  | ref l =>
    obtain⟨m,L,h1,h2,i⟩:=r;obtain⟨g,L',k1,o⟩:=h.Nk h1 hl m;exact⟨g,L',k1,by grind,i⟩
  | bp l w =>
    obtain⟨lv,j,d,q⟩:=r;obtain⟨B',L',k1,o,f⟩:=h.box l (σ[l]) (s.β[l]'(by omega)) (br d) (br (by omega));have e:l<σ'.length:=(bZ.1 k1).1;refine⟨lv,j,e,λE k' g es' he=>?_⟩;rw[he]at k1;cases k1;have hB:=br d;generalize σ[l]=B at *;cases B with
    | buf E0 k0 n0 WM =>
      obtain⟨p,q2⟩:=f;grind
    | _=>simp[gA]at f
def dW.mono(h:Ext σ s σ' s')(hl:s.β.length=σ.length){vs:List ah}{cs:List A}(r:dW σ s vs cs):dW σ' s' vs cs:=by
  induction vs generalizing cs with
  | nil=>cases cs<;>simp_all[dW]
  | cons v vs ih =>
    cases cs with
    | nil=>simp[dW]at r
    | cons a cs=>exact⟨r.1.mono h hl,ih r.2⟩
def m8.mono(h:Ext σ s σ' s')(hl:s.β.length=σ.length){v:ah}{x:E1}(r:m8 σ s v x):m8 σ' s' v x:=by
  cases x with
  | one a=>exact gu.mono h hl r
  | agg cs=>obtain⟨vs,h1,h2⟩:=r;exact⟨vs,h1,h2.mono h hl⟩
def g6.mono(h:Ext σ s σ' s')(hl:s.β.length=σ.length){vs:List ah}{xs:List E1}(r:g6 σ s vs xs):g6 σ' s' vs xs:=by
  induction vs generalizing xs with
  | nil=>cases xs<;>simp_all[g6]
  | cons v vs ih =>
    cases xs with
    | nil=>simp[g6]at r
    | cons a cs=>exact⟨r.1.mono h hl,ih r.2⟩
def dn.mono(h:Ext σ s σ' s')(hl:s.β.length=σ.length){v:ah}{d:D}(r:dn σ s v d):dn σ' s' v d:=by
  cases d with
  | e x=>exact m8.mono h hl r
  | fa xs=>obtain⟨vs,h1,h2⟩:=r;exact⟨vs,h1,h2.mono h hl⟩
  | any=>trivial
def ck.mono(h:Ext σ s σ' s')(hl:s.β.length=σ.length){vs:List ah}{xs:List D}(r:ck σ s vs xs):ck σ' s' vs xs:=by
  induction vs generalizing xs with
  | nil=>cases xs<;>simp_all[ck]
  | cons v vs ih =>
    cases xs with
    | nil=>simp[ck]at r
    | cons a cs=>exact⟨r.1.mono h hl,ih r.2⟩
end mono
def oS(σ:List aP)(s:St):List Deferred->List Nat->Prop
  | [],[]=>True
  | d::ds,l::ls=>(σ[l]?=aa .qX/\∃(L:Loc) (r:Nat),s.β[l]?=aa L/\L.v=.int .i64 r/\d={target:=.collected r,args:=#[]})/\l∉ls/\oS σ s ds ls
  | _,_=>False
def oS.mono{σ σ':List aP}{s s':St}(h:Ext σ s σ' s'):∀{ds:List Deferred} {ls:List Nat},oS σ s ds ls->oS σ' s' ds ls
  | [],[],_=>trivial
  | [],_::_,r=>r.elim
  | _::_,[],r=>r.elim
  | d::ds,l::ls,⟨⟨h1,L,r,h2,g,e⟩,f,b⟩=>by
    obtain⟨B',L',k1,c,a⟩:=h.box l _ L h1 h2;cases B'<;>simp[gA]at a
    exact⟨⟨k1,L',r,c,by grind,e⟩,f,oS.mono h b⟩
def lB:List aP->Bool
  | []=>ab
  | .qX::_=>ae
  | _::r=>lB r
def nq:∀{l:List aP},lB l=ab->∀B∈l,B≠.qX
  | [],_,B,hB=>by grind
  | b::r,h,B,hB=>by
    have a:b≠.qX/\lB r=ab:=by cases b<;>simp_all[lB]
    rcases eE.1 hB with rfl|hB
    · exact a.1
    · exact nq a.2 B hB
def pf{s:St}{r:Nat}{wr:Bool}{L:Loc}(a:L∈s.β)(b:r∈L.bs):oh s ⟨.obj r,wr,ae⟩:=⟨rfl,.inr ⟨L,a,b⟩⟩
def fb.one{s:St}{e:Event}(h:oh s e):fb s #[e]:=by intro x a;grind
def fb.two{s:St}{e a:Event}(h:oh s e)(c:oh s a):fb s #[e,a]:=by intro x b;grind
section
open Go.Conc (G listed)
def qW(s s':St)(es:Array Event):Prop:=(∃σ σ',aE σ s/\aE σ' s'/\Step σ s σ' s')/\fb s es
structure Cx(P:aq) where
 main:Bool
 rely:St->St->Prop
 xS:au->St->(au->St->Prop)->Prop
 iv:∀{s s'},rely s s'->cp s s'
 Bh:Prop
class Cx.gZ {P:aq} (X:Cx P):Prop where
 ok:X.Bh
structure eu(s s':St):Prop where
 w:s'.w=s.w
 mem:∀b o v,s.M b o=aa v->s'.M b o=aa v
 iU:∀b,(∀L∈s.β,b∉L.bs)->∀o,s'.M b o=s.M b o
 cell:∀b o v,s'.M b o=aa v->s.w.cell? ⟨b,o,af⟩=aa v
 blk:∀b,(s'.own b∨∃L∈s'.β,b∈L.bs)->s.own b∨∃L∈s.β,b∈L.bs
structure mW(s s':St):Prop where
 w:s'.w=s.w
 β:s'.β=s.β
 own:s'.own=s.own
 less:∀b o v,s'.M b o=aa v->s.M b o=aa v
 mem:∀b o v,s.M b o=aa v->s'.M b o=aa v∨s.own b
inductive fE {P:aq} (X:Cx P) (S:au->St->Prop):au->St->Prop
 |stop {g:au} {s:St}:S g s->fE X S g s
 |step {g:au} {s:St} (ng:St->au) (ns:St->St) (ne:St->Array Event):g.status=.running ->
   (∀s1,X.rely s s1->aG P X.main g s1.w=.go (ng s1) (ns s1).w (ne s1))->(∀s1,X.rely s s1->qW s1 (ns s1) (ne s1))->(∀s1,X.rely s s1->fE X S (ng s1) (ns s1))->fE X S g s
 |ghost {g:au} {s s':St}:eu s s'->fE X S g s'->fE X S g s
 |forget {g:au} {s s':St}:X.Bh->mW s s'->fE X S g s'->fE X S g s
 |xS {g:au} {s:St} {T:au->St->Prop}:X.xS g s T->(∀g' s',T g' s'->fE X S g' s')->fE X S g s
section
variable {P:aq}{X:Cx P}{S:au->St->Prop}
def fE.next{g:au}{s:St}(f:g.status=.running)(h:∀c,X.rely s c->∃g' s' es,aG P X.main g c.w=.go g' s'.w es/\qW c s' es/\fE X S g' s'):fE X S g s:=by
 classical
 have hh:∀c,∃r:au×St×Array Event,X.rely s c->aG P X.main g c.w=.go r.1 r.2.1.w r.2.2/\qW c r.2.1 r.2.2/\fE X S r.1 r.2.1:=by
  intro c;by_cases e:X.rely s c
  .obtain⟨g',s',es,h1⟩:=h c e;exact⟨(g',s',es),λ_=>h1⟩
  .exact⟨(g,c,#[]),λd=>absurd d e⟩
 refine .step (λc=>(Classical.choose (hh c)).1) (λc=>(Classical.choose (hh c)).2.1) (λc=>(Classical.choose (hh c)).2.2) f ?_ ?_ ?_
 .grind
 .grind
 grind
theorem eu.of{σ σ':List aP}{s s':St}(hh:aE σ s)(d:aE σ' s')(g:s'.w=s.w)(st:cU σ s σ' s'):eu s s':=by
 have j:∀b o v,s'.M b o=aa v->s.w.cell? ⟨b,o,af⟩=aa v:=λb o v h=>by rw[<-g];exact d.mem b o v h
 have e:∀b o v,s.w.cell? ⟨b,o,af⟩=aa v->b<s.w.heap.size:=by
  intro b o v h;rcases cG b s.w.heap.size with h1|h1
  .exact h1
  .simp[aU,zl h1]at h
 refine⟨g,st.mem,λb c o=>?_,j,λb c=>?_⟩
 .rcases cG b s.w.heap.size with h1|h1
  .exact st.iU b h1 c o
  .cases h2:s'.M b o with
   |some v=>grind
   |none=>cases i:s.M b o with
    |none=>rfl
    |some v=>have:=e _ _ _ (hh.mem _ _ _ i);omega
 .rcases c with c|⟨L,f,c⟩
  .exact .inl (by rw[<-st.own];exact c)
  .rcases st.vb L f b c with h1|h1
   .have:=d.lt L f b c;grind
   grind
def aE.rely{σ:List aP}{s s':St}(hh:aE σ s)(h:cp s s'):aE σ s':=by
 have ex:Ext σ s σ s':=h.stepW.ext;have z:∀v a,gu σ s v a->gu σ s' v a:=λv a r=>r.mono ex hh.len;refine⟨λb o v m=>h.mem b o v (by rw[<-h.M];exact m),by rw[h.β];exact hh.len,?_,by rw[h.β];exact hh.eB,?_,?_⟩
 .intro l B L hB hL;rw[h.β]at hL;have c:=hh.box l B L hB hL;have hk:∀b∈L.bs,s'.w.heap[b]?=s.w.heap[b]?:=λb c=>h.fi b (.inr ⟨L,bJ hL,c⟩);cases B with
  |cells E cs =>
   obtain⟨b,vs,h1,h2,d,e⟩:=c;subst h1;exact⟨b,vs,rfl,by grind,d.mono ex hh.len,λo=>by rw[h.M,e]⟩
  |vec E k n es =>
   obtain⟨h1,h2⟩:=c;refine⟨by rw[h.M];exact h1,?_⟩;rcases h2 with⟨h2,d⟩|⟨b,cap,vs,h2,d,e,f⟩
   .exact .inl ⟨h2,by rw[h.M];exact d⟩
   .subst h2;exact .inr ⟨b,cap,vs,rfl,by grind,e,λo p=>by rw[h.M,f o p]⟩
  |cf H =>
   obtain⟨ch,h1,h2,d,e⟩:=c;refine⟨ch,h1,λb o y=>?_,d,λb g o=>by rw[h.M,e b g]⟩;grind
  |dead=>trivial
  |loop N φ r =>
   obtain⟨l,tmps,fn,u,h1,h2,d,e,f⟩:=c;subst h1;exact⟨l,tmps,fn,u,rfl,by grind,d,λt=>(e t).mono ex hh.len,λo=>by rw[h.M,f]⟩
  |qX =>
   obtain⟨r,h1,h2,d⟩:=c;subst h1;exact⟨r,rfl,by grind,λo=>by rw[h.M,d]⟩
  |buf E k n es =>
   rcases c with c|⟨b,x,vs,q,h1,h2,d,e,f,i,j⟩
   .exact .inl c
   .subst h1;exact .inr ⟨b,x,vs,q,rfl,by grind,d,e,f,by rw[h.M];exact i,λo=>by rw[h.M,j]⟩
 .intro L hL b c;rw[h.β]at hL;exact cW (hh.lt L hL b c) h.size
 .intro b c;rw[h.own]at c;rw[h.β];exact⟨cW (hh.own b c).1 h.size,(hh.own b c).2⟩
def qW.quiet{σ:List aP}{s:St}(hh:aE σ s):qW s s #[]:=⟨⟨σ,σ,hh,hh,.refl _ _⟩,.nil⟩
def _root_.Go.Frame.aT(b:aR)(a:Act)(todo:List Item):aR:={b with tmps:=a.tmps,todo:=todo,defers:=a.defers++b.defers,mode:=.run}
variable {b:aR}{a:Act}{k:List Item}{cs:List aR}{w:az}{main:Bool}
def FB(b:aR)(a:Act)(c:List Item):(b.aT a c).eval=a.eval:=by funext x;cases x<;>rfl
def FC:aG P main (G (b.aT a (.code .skip::k)) cs) w=.go (G (b.aT a k) cs) w:=by simp[G,aG,stepG.exec,Frame.aT]
def qY{id:Nat}:aG P main (G (b.aT a (.inBlock id::k)) cs) w=.go (G (b.aT a k) cs) w:=by simp[G,aG,stepG.exec,Frame.aT]
theorem oi{x y:Code}:aG P main (G (b.aT a (.code (.seq x y)::k)) cs) w=.go (G (b.aT a (.code x::.code y::k)) cs) w:=by simp[G,aG,stepG.exec,Frame.aT]
def vc{c:ak}{x y:Code}{t:Bool}(h:a.eval c=.bool t):
  aG P main (G (b.aT a (.code (.cond c x y)::k)) cs) w=.go (G (b.aT a (.code (if t then x else y)::k)) cs) w:=by
 have d:(b.aT a (.code (.cond c x y)::k)).eval c=.bool t:=by rw[FB];exact h
 simp only[Frame.aT]at d;simp[G,aG,stepG.exec,Frame.aT,d]
def rS{id:Nat}{c:Code}:aG P main (G (b.aT a (.code (.block id c)::k)) cs) w=.go (G (b.aT a (.code c::.inBlock id::k)) cs) w:=by simp[G,aG,stepG.exec,Frame.aT]
def FD{c:Code}:aG P main (G (b.aT a (.code (.loop c)::k)) cs) w=.go (G (b.aT a (.code c::.inLoop c::k)) cs) w:=by simp[G,aG,stepG.exec,Frame.aT]
def yk{c:Code}:aG P main (G (b.aT a (.inLoop c::k)) cs) w=.go (G (b.aT a (.code c::.inLoop c::k)) cs) w:=by simp[G,aG,stepG.exec,Frame.aT]
def zu{id:Nat}{k':List Item}(h:exitTo id k=aa k'):aG P main (G (b.aT a (.code (.exit id)::k)) cs) w=.go (G (b.aT a k') cs) w:=by simp[G,aG,stepG.exec,Frame.aT,h]
def qc{id:Nat}{ops:Array ar}:aG P main (G (b.aT a (.code (.region id ops ae)::k)) cs) w=.go (G (b.aT a (.inRegion ops (bd ops.size)::k)) cs) w:=by simp[G,aG,stepG.exec,Frame.aT]
def lU{id:Nat}{ops:Array ar}:aG P main (G (b.aT a (.code (.region id ops ab)::k)) cs) w =
  .go (G (b.aT a (.inRegion ops (Region.schedule (P.follows .mixedOrders) ops (w.tape w.drawn (.order b.fn id)))::k)) cs) {w with drawn:=w.drawn+1}:=by simp[G,aG,stepG.exec,Frame.aT,choose,Sem.run,Question.forced,Question.cut]
def iW{ops:Array ar}:aG P main (G (b.aT a (.inRegion ops []::k)) cs) w=.go (G (b.aT a k) cs) w:=by simp[G,aG,stepG.exec,Frame.aT]
def DC(h:b.roundOf=af):aG P main (G (b.aT a (.code .ret::k)) cs) w=.go (G {b.aT a (.code .ret::k)with mode:=.returning} cs) w:=by simp[G,aG,stepG.exec,Frame.aT,h]
def DD(h:b.roundOf=af):aG P main (G (b.aT a []) cs) w=.go (G {b.aT a []with mode:=.returning} cs) w:=by simp[G,aG,stepG.exec,Frame.aT,h]
def kh(ops:Array ar)(i:Nat)(rest:List Nat)(v:ah):
  (b.aT a (.inRegion ops (i::rest)::k)).finish v=b.aT (a.put ((ops[i]?).bind (·.dst)) v) (.inRegion ops rest::k):=by cases h:(ops[i]?).bind (·.dst)<;>simp[Frame.finish,Frame.aT,Act.put,h]
def Ni{ops:Array ar}{i:Nat}{rest:List Nat}{o:ar}(d:ops[i]?=aa o)(e:bc o (yielded ops a.tmps)=ae):
  aG P main (G (b.aT a (.inRegion ops (i::rest)::k)) cs) w=.go (G (b.aT (a.put o.dst ai) (.inRegion ops rest::k)) cs) w:=by have c:=kh (b:=b) (a:=a) (k:=k) ops i rest ai;rw[d]at c;simp only[n7]at c;rw[<-c];simp[G,aG,stepG.exec,Frame.aT,d,e]
theorem rU{g:ak->ah}{o:ar}{c:Call}(h:o.op=.defer c){f:Next}{w':az}(e:(av g o).run P w=.ok f w'):∃d,f=.defer d:=by
 simp only[av,h,bO]at e;cases i:(resolve g c o.type).run P w with
 |ok d w2=>rw[i]at e;simp at e;grind
 |halt x w2=>rw[i]at e;simp at e
def vd{ops:Array ar}{i:Nat}{rest:List Nat}{o:ar}(e:ops[i]?=aa o)(f:bc o (yielded ops a.tmps)=ab)(g:∀c,o.op≠.defer c):
  aG P main (G (b.aT a (.inRegion ops (i::rest)::k)) cs) w=stepG.apply P ab (b.aT a (.inRegion ops (i::rest)::k)) cs af (av a.eval o) w:=by have d:=FB b a (.inRegion ops (i::rest)::k);simp only[Frame.aT]at d;simp[G,aG,stepG.exec,stepG.oper,Frame.oper?,Frame.aT,e,f,d];grind
theorem I2{ops:Array ar}{i:Nat}{rest:List Nat}{o:ar}{v:ah}{w':az}(f:ops[i]?=aa o)(h:bc o (yielded ops a.tmps)=ab)(hk:b.kind≠.early)(g:(av a.eval o).run P w=.ok (.value v) w'):
  aG P main (G (b.aT a (.inRegion ops (i::rest)::k)) cs) w=.go (G (b.aT (a.put o.dst v) (.inRegion ops rest::k)) cs) w' (listed P b.fn a o w):=by
 have d:=kh (b:=b) (a:=a) (k:=k) ops i rest v;rw[f]at d;simp only[n7]at d;have e:(b.kind==CallKind.early)=ae:=by grind
 rw[vd f h (λc j=>by grind[rU]),<-d];simp[stepG.apply,g,G,Frame.aT,e,GStep.after,listed]
theorem FE{ops:Array ar}{i:Nat}{rest:List Nat}{o:ar}{w':az}(f:ops[i]?=aa o)(h:bc o (yielded ops a.tmps)=ab)(hk:b.kind≠.early)(g:(av a.eval o).run P w=.ok .skip w'):
  aG P main (G (b.aT a (.inRegion ops (i::rest)::k)) cs) w=.go (G (b.aT (a.put o.dst ai) (.inRegion ops rest::k)) cs) w' (listed P b.fn a o w):=by
 have d:=kh (b:=b) (a:=a) (k:=k) ops i rest ai;rw[f]at d;simp only[n7]at d;have e:(b.kind==CallKind.early)=ae:=by grind
 rw[vd f h (λc j=>by grind[rU]),<-d];simp[stepG.apply,g,G,Frame.aT,e,GStep.after,listed]
def o8{ops:Array ar}{i:Nat}{rest:List Nat}{o:ar}{f:aH}{args:Array ah}{w':az}(g:ops[i]?=aa o)(h:bc o (yielded ops a.tmps)=ab)(hk:b.kind≠.early)(e:(av a.eval o).run P w=.ok (.enter f args) w'):
  aG P main (G (b.aT a (.inRegion ops (i::rest)::k)) cs) w=.go (G (Frame.enter P f args .normal) (b.aT a (.inRegion ops (i::rest)::k)::cs)) w' (listed P b.fn a o w):=by
 have d:(b.kind==CallKind.early)=ae:=by grind
 rw[vd g h (λc j=>by grind[rU])];simp[stepG.apply,e,G,Frame.aT,d,GStep.after,listed]
structure uK(P:aq)(f:aH)(fr:aR)(v:ah)(s:St):Prop where
 isF:fr.fn=f
 mode:fr.mode=.returning
 defers:fr.defers=[]
 kind:fr.kind=.normal
 fn:∃fn,P.funcs[fr.fn]?=aa fn/\∀w,(∀b o u,s.M b o=aa u->w.cell? ⟨b,o,af⟩=aa u)->(results fn fr.tmps).run P w=.ok v w/\∀e∈(results fn fr.tmps).events P w #[],∃b o u,e=⟨.cell ⟨b,o,af⟩,ae,ae⟩/\s.M b o=aa u
def uK.mono{f:aH}{fr:aR}{v:ah}{s s':St}(h:uK P f fr v s)(g:∀b o u,s.M b o=aa u->s'.M b o=aa u):uK P f fr v s':=by obtain⟨h1,h2,c,d,fn,e,i⟩:=h;refine⟨h1,h2,c,d,fn,e,λw j=>?_⟩;grind
def fb.seen{s:St}{es:Array Event}{fn:aH}(h:fb s es):fb s (seen P fn es):=λe c=>h e (Go.Conc.mem_seen c)
def I3{f:aH}{g c:aR}{v:ah}{s:St}(h:uK P f g v s)(w:az)(l:∀b o u,s.M b o=aa u->w.cell? ⟨b,o,af⟩=aa u):∃es,aG P main (G g (c::cs)) w=.go (G (c.finish v) cs) w es/\∀e∈es,∃b o u,e=⟨.cell ⟨b,o,af⟩,ae,ae⟩/\s.M b o=aa u:=by obtain⟨fn,n,d⟩:=h.fn;obtain⟨m,i⟩:=d w l;refine⟨seen P g.fn ((results fn g.tmps).events P w #[]),?_,λe j=>i e (Go.Conc.mem_seen j)⟩;simp[G,aG,unwind,doReturn,h.mode,h.defers,h.kind,n,m,GStep.after]
end
end
section
open Go.Conc (G)
structure cq(N:Nat)(σ:List aP)(s:St)(φ:Fr)(a:Act):Prop where
 size:a.tmps.size=N
 defers:∃ls,oS σ s a.defers ls
 slot:∀t,dn σ s (a.tmps.getD t ai) (look φ t)
def cq.mono{N:Nat}{σ σ':List aP}{s s':St}{φ:Fr}{a:Act}(h:cU σ s σ' s')(hl:s.β.length=σ.length)(f:cq N σ s φ a):cq N σ' s' φ a :=
 ⟨f.size,f.defers.imp λ_ h1=>h1.mono h.ext,λt=>(f.slot t).mono h.ext hl⟩
def cq.rely{N:Nat}{σ:List aP}{s s':St}{φ:Fr}{a:Act}(h:cp s s')(hh:aE σ s)(f:cq N σ s φ a):cq N σ s' φ a:=f.mono h.stepW hh.len
def cq.put{N:Nat}{σ:List aP}{s:St}{φ:Fr}{a:Act}(f:cq N σ s φ a){d:Nat}(c:d<N){v:ah}{x:D}(r:dn σ s v x):cq N σ s ((d,x)::φ) (a.put (aa d) v):=by
 refine⟨by simp[Act.put,f.size],f.defers,λt=>?_⟩;simp only[Act.put,look];by_cases e:d=t
 .subst e;rw[show aA d d=ab from iR d];have g:d<a.tmps.size:=by rw[f.size];exact c
  simp only[dN,vD g,ik,cond];exact r
 .have:aA d t=ae:=by grind[Nat.eq_of_beq_eq_true]
  rw[this];have h:=f.slot t;simp only[dN]at h⊢;grind
def oq(φ φ':Fr):Prop:=∀σ s v t,dn σ s v (look φ t)->dn σ s v (look φ' t)
def cq.le{N:Nat}{σ:List aP}{s:St}{φ φ':Fr}{a:Act}(h:oq φ φ')(f:cq N σ s φ a):cq N σ s φ' a :=
 ⟨f.size,f.defers,λt=>h _ _ _ _ (f.slot t)⟩
abbrev Post:=Exit->Fr->List aP->Prop
def ends{P:aq}(X:Cx P)(S:au->St->Prop)(b:aR)(k:List Item)(cs:List aR):Exit->Act->St->Prop
 |.normal,a,s=>fE X S (G (b.aT a k) cs) s
 |.exit id,a,s=>∀pre,(∀k',exitTo id (pre++k')=exitTo id k')->fE X S (G (b.aT a (.code (.exit id)::(pre++k))) cs) s
 |.ret,a,s=>∀pre,fE X S (G (b.aT a (.code .ret::pre)) cs) s
 |.panic ch,a,s=>∀c,fE X S (G {b.aT a c with mode:=.panicking ch} cs) s
 |_,_,_=>False
section
variable {P:aq}{X:Cx P}{S:au->St->Prop}{b:aR}{k:List Item}{cs:List aR}{a:Act}{s:St}
def ends.cons{x:Item}(d:∀id k',exitTo id (x::k')=exitTo id k'){e:Exit}(c:e≠.normal)(h:ends X S b k cs e a s):ends X S b (x::k) cs e a s:=by
 cases e with
 |normal=>grind
 |exit id =>
  intro pre hp;have:=h (pre++[x]) (λk'=>by grind);grind
 |ret=>exact h
 |panic ch=>exact h
 |goto l=>exact h
 |outgrown=>exact h
def fE.ctl{σ:List aP}{g g':au}(hh:aE σ s)(d:g.status=.running)(e:∀w,aG P X.main g w=.go g' w #[])(h:∀c,cp s c->fE X S g' c):fE X S g s :=
 .next d λc h1=>⟨g',c,#[],e c.w,.quiet (hh.rely (X.iv h1)),h c (X.iv h1)⟩
def qf{σ:List aP}{f:aH}{j c:aR}{cs:List aR}{v:ah}{s:St}(n:aE σ s)(h:uK P f j v s)(k:∀d,cp s d->fE X S (G (c.finish v) cs) d):fE X S (G j (c::cs)) s:=by refine .next rfl λd q=>?_;have i:=X.iv q;have g:=n.rely i;obtain⟨es,r,m⟩:=I3 (main:=X.main) (c:=c) (cs:=cs) h d.w i.mem;refine⟨_,d,es,r,⟨⟨σ,σ,g,g,.refl _ _⟩,λe l=>?_⟩,k d i⟩;obtain⟨b,o,u,rfl,p⟩:=m e l;exact⟨rfl,rfl,.inr (.inr ⟨rfl,u,by rw[i.M];exact p⟩)⟩
def sr{c:Code}(I:Nat->Act->St->Prop)(i:∀n a s,I n a s->∃σ,aE σ s/\∀d,cp s d->I n a d)(round:∀n a s,I n a s->(∀a' s' m,m<n->I m a' s'->fE X S (G (b.aT a' (.inLoop c::k)) cs) s')->fE X S (G (b.aT a (.code c::.inLoop c::k)) cs) s){n:Nat}(o:I n a s):
  fE X S (G (b.aT a (.code (.loop c)::k)) cs) s:=by
 have key:∀n a s,I n a s->fE X S (G (b.aT a (.inLoop c::k)) cs) s:=by
  intro n;induction n using Nat.strongRecOn with
  |_ n j =>
   intro a s hi;obtain⟨σ,g,f⟩:=i n a s hi;exact .ctl g rfl (λw=>yk) λd h=>round n a d (f d h) λa' s' m l e=>j m l a' s' e
 obtain⟨σ,g,f⟩:=i n a s o;exact .ctl g rfl (λw=>FD) λd h=>round n a d (f d h) λa' s' m _ e=>key m a' s' e
end
def AW{P:aq}(X:Cx P)(N:Nat)(c:Code)(Q:Post)(φ:Fr)(σ:List aP):Prop :=
 ∀s a,cq N σ s φ a->aE σ s->∀(b:aR) (k:List Item) (cs:List aR) (S:au->St->Prop),b.kind≠.early ->
  (∀e φ' σ' s' a',Q e φ' σ'->cq N σ' s' φ' a'->aE σ' s'->cU σ s σ' s'->ends X S b k cs e a' s')->fE X S (G (b.aT a (.code c::k)) cs) s
def Names(all:List ar):List Nat->List ar->Prop
 |[],[]=>True
 |i::idx,o::rest=>all.toArray[i]?=aa o/\Names all idx rest
 |_,_=>False
def ia{P:aq}(X:Cx P)(N:Nat)(all rest:List ar)(Q:Fr->List aP->Prop)(φ:Fr)(σ:List aP):Prop :=
 ∀s a,cq N σ s φ a->aE σ s->∀(b:aR) (k:List Item) (cs:List aR) (S:au->St->Prop) (idx:List Nat),b.kind≠.early->Names all idx rest ->
  (∀φ' σ' s' a',Q φ' σ'->cq N σ' s' φ' a'->aE σ' s'->cU σ s σ' s'->fE X S (G (b.aT a' k) cs) s')->fE X S (G (b.aT a (.inRegion all.toArray idx::k)) cs) s
section rules
variable {P:aq}{X:Cx P}{N:Nat}{Q:Post}{φ:Fr}{σ:List aP}
def AW.mono{c:Code}{d:Post}(h:AW X N c Q φ σ)(j:∀e φ σ,Q e φ σ->d e φ σ):AW X N c d φ σ :=
 λs a m hh b k cs S i f=>h s a m hh b k cs S i λe φ' σ' s' a' q g l st=>f e φ' σ' s' a' (j _ _ _ q) g l st
def AW.le{c:Code}{φ':Fr}(h:AW X N c Q φ' σ)(hl:oq φ φ'):AW X N c Q φ σ :=
 λs a e hh b k cs S f d=>h s a (e.le hl) hh b k cs S f d
theorem AW.skip(h:Q .normal φ σ):AW X N .skip Q φ σ:=λs a c hh b k cs S _ e =>
 .ctl hh rfl (λ_=>FC) λd h1=>e .normal φ σ d a h (c.rely h1 hh) (hh.rely h1) h1.stepW
def AW.ret(h:Q .ret φ σ):AW X N .ret Q φ σ:=λs a c hh b k cs S _ d=>d .ret φ σ s a h c hh (.refl _ _) k
theorem AW.exit{id:Nat}(h:Q (.exit id) φ σ):AW X N (.exit id) Q φ σ:=λs a c hh b k cs S _ d=>by have:=d (.exit id) φ σ s a h c hh (.refl _ _) [] (λ_=>rfl);grind
def BN(next:Fr->List aP->Prop)(Q:Post):Post
 |.normal,φ,σ=>next φ σ
 |e,φ,σ=>Q e φ σ
theorem AW.seq{x y:Code}(h:AW X N x (BN (AW X N y Q) Q) φ σ):AW X N (.seq x y) Q φ σ:=by
 intro s a m hh b k cs S i f;refine .ctl hh rfl (λ_=>oi) λl h1=>?_;refine h l a (m.rely h1 hh) (hh.rely h1) b (.code y::k) cs S i ?_;intro e φ' σ' s' a' q g j st;have c:=h1.stepW.trans st;cases e with
 |normal=>exact q s' a' g j b k cs S i λe d σ2 s2 a2 q2 f2 h2 nV=>f e d σ2 s2 a2 q2 f2 h2 (c.trans nV)
 |_=>exact ends.cons (λ_ _=>rfl) (by simp) (f _ _ _ _ _ q g j c)
theorem AW.cond{c:ak}{x y:Code}{t:Bool}{u:Nat}(o:c=.tmp u)(hl:look φ u=.e (.one (.c (.bool t))))(m:t=ab->AW X N x Q φ σ)(r:t=ae->AW X N y Q φ σ):AW X N (.cond c x y) Q φ σ:=by
 intro s a f hh b k cs S j l;have g:=f.slot u;rw[hl]at g;have i:a.eval c=.bool t:=by subst o;generalize i:a.tmps.getD u ai=v at g;simp only[dn,m8,gu]at g;cases g;exact i
 refine .ctl hh rfl (λ_=>vc i) λh h1=>?_;have d:∀e φ' σ' s' a',Q e φ' σ'->cq N σ' s' φ' a'->aE σ' s'->cU σ h σ' s'->ends X S b k cs e a' s':=λe φ' σ' s' a' q n p st=>l e φ' σ' s' a' q n p (h1.stepW.trans st);cases t
 .exact r rfl h a (f.rely h1 hh) (hh.rely h1) b k cs S j d
 .exact m rfl h a (f.rely h1 hh) (hh.rely h1) b k cs S j d
def wG(id:Nat)(Q:Post):Post
 |.exit IV,φ,σ=>if IV=id then Q .normal φ σ else Q (.exit IV) φ σ
 |e,φ,σ=>Q e φ σ
theorem AW.block{id:Nat}{c:Code}(h:AW X N c (wG id Q) φ σ):AW X N (.block id c) Q φ σ:=by
 intro s a o hh b k cs S m g;refine .ctl hh rfl (λ_=>rS) λj h1=>?_;refine h j a (o.rely h1 hh) (hh.rely h1) b (.inBlock id::k) cs S m ?_;intro e φ' σ' s' a' q i f st;have d:=h1.stepW.trans st;cases e with
 |normal =>
  exact .ctl f rfl (λ_=>qY) λs2 h2=>g .normal φ' σ' s2 a' q (i.rely h2 f) (f.rely h2) (d.trans h2.stepW)
 |exit IV =>
  simp only[wG]at q;split at q
  .rename_i e;subst e;intro pre hp;refine .ctl f rfl (λ_=>zu (k':=k) (by rw[hp];simp[exitTo])) λs2 h2=>?_;exact g .normal φ' σ' s2 a' q (i.rely h2 f) (f.rely h2) (d.trans h2.stepW)
  .rename_i n
   intro pre hp;have:=g (.exit IV) φ' σ' s' a' q i f d (pre++[.inBlock id]) (λk'=>by
    rw[lR,hp];have:(id==IV)=ae:=by grind
    simp[exitTo,this])
   grind
 |ret=>exact g _ _ _ _ _ q i f d
 |panic ch=>exact g _ _ _ _ _ q i f d
 |goto l=>exact g _ _ _ _ _ q i f d
 |outgrown=>exact g _ _ _ _ _ q i f d
def AW.loop{S:Type}{c:Code}(I:S->Prop)(fr:S->Fr)(st:S->List aP)(h:S->Nat)(x:S)(A:I x)(i:oq φ (fr x))(j:st x=σ)(round:∀x,I x->AW X N c (BN (λφ' σ'=>∃y,I y/\h y<h x/\oq φ' (fr y)/\σ'=st y) Q) (fr x) (st x)):AW X N (.loop c) Q φ σ:=by
 intro s a B hh b k cs S v u;subst j;refine sr (λn a' s'=>∃y,I y/\cq N (st y) s' (fr y) a'/\aE (st y) s'/\cU (st x) s (st y) s'/\h y=n) ?_ ?_ ⟨x,A,B.le i,hh,.refl _ _,rfl⟩
 .rintro n a' s' ⟨y,o,l,g,d,e⟩;exact⟨st y,g,λC h1=>⟨y,o,l.rely h1 g,g.rely h1,d.trans h1.stepW,e⟩⟩
 rintro n a' s' ⟨y,o,l,g,d,rfl⟩ r;refine round y o s' a' l g b (.inLoop c::k) cs S v ?_;intro e t σ2 s2 a2 q p h2 nV;cases e with
 |normal =>
  obtain⟨z,w,m,f,rfl⟩:=q;exact r a2 s2 (h z) m ⟨z,w,p.le f,h2,d.trans nV,rfl⟩
 |_=>exact ends.cons (λ_ _=>rfl) (by simp) (u _ _ _ _ _ q p h2 (d.trans nV))
end rules
end
def dW.length{σ:List aP}{s:St}{vs:List ah}{cs:List A}(r:dW σ s vs cs):vs.length=cs.length:=by
 induction vs generalizing cs with
 |nil=>cases cs<;>simp_all[dW]
 |cons v vs ih =>
  cases cs with
  |nil=>simp[dW]at r
  |cons a cs=>simp[ih r.2]
def gu.cell{σ:List aP}{s:St}{v:ah}{a:A}(r:gu σ s v a):cJ v=ab:=by
 cases a with
 |c x=>exact Rd.cell r
 |ptr l off=>obtain⟨_,_,_,_,_,rfl⟩:=r;rfl
 |vec l k n es=>exact Rd.cell r.1
 |ref l=>obtain⟨_,_,_,_,h⟩:=r;exact h
 |bp l w=>obtain⟨_,h,_⟩:=r;exact h.cell
 |any=>exact r
theorem dW.get{σ:List aP}{s:St}{vs:List ah}{cs:List A}(r:dW σ s vs cs){j:Nat}{a:A}(h:cs[j]?=aa a):∃v,vs[j]?=aa v/\gu σ s v a:=by
 induction vs generalizing cs j with
 |nil=>cases cs<;>simp_all[dW]
 |cons v vs ih =>
  cases cs with
  |nil=>grind
  |cons b cs =>
   cases j with
   |zero=>simp at h;subst h;exact⟨v,rfl,r.1⟩
   |succ j=>simp at h;obtain⟨u,d,c⟩:=ih r.2 h;grind
def dW.cell{σ:List aP}{s:St}{vs:List ah}{cs:List A}(r:dW σ s vs cs):∀v∈vs,v.oneCell'=ab:=by
 induction vs generalizing cs with
 |nil=>simp
 |cons v vs ih =>
  cases cs with
  |nil=>simp[dW]at r
  |cons a cs =>
   intro u b;rcases eE.1 b with rfl|b
   .have:=gu.cell r.1;cases u<;>simp_all[cJ,Value.oneCell']
   .exact ih r.2 u b
def dW.append{σ:List aP}{s:St}{vs zB:List ah}{cs nb:List A}(r:dW σ s vs cs)(r':dW σ s zB nb):dW σ s (vs++zB) (cs++nb):=by
 induction vs generalizing cs with
 |nil=>cases cs<;>simp_all[dW]
 |cons v vs ih =>
  cases cs with
  |nil=>simp[dW]at r
  |cons a cs=>exact⟨r.1,ih r.2⟩
def dW.take{σ:List aP}{s:St}{vs:List ah}{cs:List A}(r:dW σ s vs cs)(k:Nat):dW σ s (vs.take k) (cs.take k):=by
 induction vs generalizing cs k with
 |nil=>cases cs<;>simp_all[dW]
 |cons v vs ih =>
  cases cs with
  |nil=>simp[dW]at r
  |cons a cs=>cases k with
   |zero=>simp[dW]
   |succ k=>exact⟨r.1,ih r.2 k⟩
def dW.drop{σ:List aP}{s:St}{vs:List ah}{cs:List A}(r:dW σ s vs cs)(k:Nat):dW σ s (vs.drop k) (cs.drop k):=by
 induction vs generalizing cs k with
 |nil=>cases cs<;>simp_all[dW]
 |cons v vs ih =>
  cases cs with
  |nil=>simp[dW]at r
  |cons a cs=>cases k with
   |zero=>exact r
   |succ k=>simpa using ih r.2 k
theorem aE.block{σ:List aP}{s:St}(h:aE σ s){b o:Nat}{v:ah}(a:s.M b o=aa v):b<s.w.heap.size:=by
 have:=h.mem b o v a;rcases cG b s.w.heap.size with h|h
 .exact h
 .simp[aU,zl h]at this
theorem aE.same{σ:List aP}{s:St}(h:aE σ s){w':az}(g:w'.heap=s.w.heap):aE σ {s with w:=w'}:=by
 have m:∀a,w'.cell? a=s.w.cell? a:=λa=>by simp[aU,g]
 have i:∀v a,gu σ s v a->gu σ {s with w:=w'} v a:=λv a r=>by cases a<;>exact r
 have f:∀vs al,dW σ s vs al->dW σ {s with w:=w'} vs al:=by
  intro vs;induction vs with
  |nil=>intro al r;cases al<;>simp_all[dW]
  |cons v vs ih=>intro al r;cases al with
   |nil=>simp[dW]at r
   |cons a al=>exact⟨i _ _ r.1,ih _ r.2⟩
 refine⟨λb o v j=>by rw[m];exact h.mem b o v j,h.len,?_,h.eB,λL f b d=>by show b<w'.heap.size;rw[g];exact h.lt L f b d,λb d=>⟨by show b<w'.heap.size;rw[g];exact(h.own b d).1,(h.own b d).2⟩⟩;intro l B L hB fj;have:=h.box l B L hB fj;cases B with
 |cells E cs =>
  obtain⟨b,vs,h1,h2,c,e⟩:=this;exact⟨b,vs,h1,by grind,f _ _ c,e⟩
 |vec E k n es =>
  obtain⟨h1,h2⟩:=this;refine⟨h1,?_⟩;grind
 |cf H =>
  obtain⟨ch,h1,h2,c,e⟩:=this;exact⟨ch,h1,λb o d=>by grind,c,e⟩
 |dead=>trivial
 |loop N φ r =>
  obtain⟨l,tmps,fn,q,h1,h2,c,e,y⟩:=this;exact⟨l,tmps,fn,q,h1,by grind,c,λt=>dn.mono (s:=s) (σ':=σ) (s':={s with w:=w'}) ⟨λ_ _ _ h=>h,λ_ B L h u=>⟨B,L,h,u,.refl _ _⟩⟩ h.len (e t),y⟩
 |qX =>
  obtain⟨r,h1,h2,c⟩:=this;exact⟨r,h1,by grind,c⟩
 |buf E k n es =>
  rcases this with h1|⟨b,x,vs,p,h1,h2,c⟩
  .exact .inl h1
  .exact .inr ⟨b,x,vs,p,h1,by grind,c⟩
theorem Step.same{σ:List aP}{s:St}{w':az}(g:w'.heap=s.w.heap)(d:w'.os=s.w.os)(a:w'.tape=s.w.tape)(f:w'.output=s.w.output):Step σ s σ {s with w:=w'} :=
 ⟨by grind,λb _ _=>by grind,λ_ _ _ h=>h,λ_ _ _ _=>rfl,λL h b c=>.inr ⟨L,h,c⟩,λ_ B L h e=>⟨B,L,h,e,.refl _ _⟩,d,a,f,rfl⟩
def et.carry{σ σ':List aP}{s s':St}{B:aP}{L:Loc}(d:Ext σ s σ' s')(hl:s.β.length=σ.length)(e:∀b∈L.bs,s'.w.heap[b]?=s.w.heap[b]?/\∀o,s'.M b o=s.M b o)(h:et σ s B L):et σ' s' B L:=by
 cases B with
 |cells E cs =>
  obtain⟨b,vs,h1,h2,a,c⟩:=h;subst h1;obtain⟨k1,f⟩:=e b (by simp);exact⟨b,vs,rfl,by grind,a.mono d hl,λo=>by grind⟩
 |vec E k n es =>
  obtain⟨h1,h2⟩:=h;refine⟨h1.mono d.mem,?_⟩;rcases h2 with⟨h2,a⟩|⟨b,cap,vs,h2,a,c,g⟩
  .exact .inl ⟨h2,a.mono d.mem⟩
  grind
 |cf H =>
  obtain⟨ch,h1,h2,a,c⟩:=h;refine⟨ch,h1,λb o q=>?_,a,λb u o=>by grind⟩;grind
 |dead=>trivial
 |loop N φ r =>
  obtain⟨l,tmps,fn,m,h1,h2,a,c,g⟩:=h;subst h1;obtain⟨k1,f⟩:=e l (by simp);exact⟨l,tmps,fn,m,rfl,by grind,a,λt=>(c t).mono d hl,λo=>by grind⟩
 |qX =>
  obtain⟨r,h1,h2,a⟩:=h;subst h1;obtain⟨k1,f⟩:=e r (by simp);exact⟨r,rfl,by grind,λo=>by grind⟩
 |buf E k n es =>
  rcases h with h1|⟨b,p,vs,j,h1,h2,a,c,g,i,v⟩
  .exact .inl h1
  .subst h1;obtain⟨k1,f⟩:=e b (by simp);exact .inr ⟨b,p,vs,j,rfl,by grind,a,c,g,i.mono d.mem,λo=>by grind⟩
def St.fT(s:St)(E:aj)(vs:List ah):St :=
 {β:=s.β++[⟨.pointer (aa ⟨s.w.heap.size,0,af⟩),[s.w.heap.size]⟩],M:=s.M,w:=s.w.alloc (.cells vs.toArray E),own:=s.own}
theorem cM(w:az)(o:Obj){b:Nat}(h:b<w.heap.size):(w.alloc o).heap[b]?=w.heap[b]?:=by show(w.heap.push o)[b]?=w.heap[b]?;grind
theorem dG(w:az)(o:Obj):(w.alloc o).heap[w.heap.size]?=aa o:=by show(w.heap.push o)[w.heap.size]?=aa o;simp
def Step.fT{σ:List aP}(s:St)(E:aj)(vs:List ah)(B:aP):Step σ s (σ++[B]) (s.fT E vs):=by
 refine⟨by simp[St.fT],?_,λ_ _ _ h=>h,λ_ _ _ _=>rfl,?_,?_,rfl,rfl,rfl,rfl⟩
 .intro b d _;exact cM _ _ d
 .intro L c b d;simp only[St.fT,gb,ga]at c;grind
 .intro l B' L a c;have hl:l<s.β.length:=(bZ.1 c).1;have e:l<σ.length:=(bZ.1 a).1;exact⟨B',L,by grind,by simp only[St.fT];grind,.refl _ _⟩
def aE.fT{σ:List aP}{s:St}(h:aE σ s){E:aj}{vs:List ah}{cs:List A}(r:dW σ s vs cs):aE (σ++[.cells E cs]) (s.fT E vs):=by
 have st:=Step.fT (σ:=σ) s E vs (.cells E cs);have g:(s.fT E vs).w.heap.size=s.w.heap.size+1:=by simp[St.fT]
 refine⟨?_,by simp[St.fT,h.len],?_,?_,?_,?_⟩
 .intro b o v d;have a:=h.block d;have:=h.mem b o v d;rw[<-this];simp only[aU,St.fT];grind[cM]
 .intro l B L hB hL;rcases Nat.lt_trichotomy l σ.length with f|rfl|i
  .rw[jw f]at hB;simp only[St.fT]at hL;rw[jw (by rw[h.len];exact f)]at hL;refine(h.box l B L hB hL).carry st.ext h.len λb a=>⟨?_,λ_=>rfl⟩
   have:=h.lt L (bJ hL) b a;exact cM _ _ this
  .simp at hB;subst hB;simp only[St.fT]at hL;rw[gz (by rw[h.len];grind)]at hL;simp[h.len]at hL;subst hL;refine⟨s.w.heap.size,vs,rfl,dG _ _,r.mono st.ext h.len,λo=>?_⟩;cases d:s.M s.w.heap.size o with
   |none=>exact d
   |some v=>have:=h.block d;omega
  grind
 .intro l l' L L' hL fj b a e;simp only[St.fT]at hL fj;have c:∀l L,(s.β++[⟨.pointer (aa ⟨s.w.heap.size,0,af⟩),[s.w.heap.size]⟩])[l]?=aa L->(s.β[l]?=aa L)∨(l=s.β.length/\L.bs=[s.w.heap.size]):=by grind
  rcases c l L hL with h1|⟨rfl,h1⟩<;>rcases c l' L' fj with h2|⟨rfl,h2⟩
  .exact h.eB l l' L L' h1 h2 b a e
  .have:=h.lt L (bJ h1) b a;grind
  .have:=h.lt L' (bJ h2) b e;grind
  .rfl
 .intro L hL b a;rw[g];simp only[St.fT,gb,ga]at hL;rcases hL with hL|rfl
  .have:=h.lt L hL b a;omega
  grind
 .intro b a;obtain⟨k,j⟩:=h.own b a;refine⟨by grind,λL hL=>?_⟩;simp only[St.fT,gb,ga]at hL;grind
def aE.grow{σ:List aP}{s:St}(h:aE σ s){M':Mem}{w':az}(c:s.w.heap.size<=w'.heap.size)(hk:∀b,b<s.w.heap.size->w'.heap[b]?=s.w.heap[b]?)(e:∀b,b<s.w.heap.size->∀o,M' b o=s.M b o)(m:∀b,s.w.heap.size<=b->∀o v,M' b o=aa v->w'.cell? ⟨b,o,af⟩=aa v)(i:w'.os=s.w.os)(g:w'.tape=s.w.tape)(k:w'.output=s.w.output):aE σ ⟨s.β,M',w',s.own⟩/\Step σ s σ ⟨s.β,M',w',s.own⟩:=by
 have st:Step σ s σ ⟨s.β,M',w',s.own⟩ :=
  ⟨c,λb a _=>hk b a,λb o v f=>by rw[<-f];exact e b (h.block f) o,λb a _ o=>e b a o,λL h b a=>.inr ⟨L,h,a⟩,λ_ B L h j=>⟨B,L,h,j,.refl _ _⟩,i,g,k,rfl⟩
 refine⟨⟨?_,h.len,?_,h.eB,λL d b a=>cW (h.lt L d b a) c,λb a=>⟨cW (h.own b a).1 c,(h.own b a).2⟩⟩,st⟩
 .intro b o v f;rcases cG b s.w.heap.size with a|a
  .have hm':s.M b o=aa v:=by grind
   rw[<-h.mem b o v hm'];simp only[aU];grind
  grind
 .intro l B L hB d;exact(h.box l B L hB d).carry st.ext h.len λb a=>⟨hk b (h.lt L (bJ d) b a),λo=>e b (h.lt L (bJ d) b a) o⟩
def aE.write{σ:List aP}{s:St}(h:aE σ s){l b:Nat}{L:Loc}{E:aj}{cs nb:List A}{a:List ah}(hB:σ[l]?=aa (.cells E cs))(d:s.β[l]?=aa L)(f:L.bs=[b])(r:dW σ s a nb):aE (σ.set l (.cells E nb)) {s with w:=s.w.setRow b a.toArray}/\Step σ s (σ.set l (.cells E nb)) {s with w:=s.w.setRow b a.toArray}:=by
 have g:l<σ.length:=(bZ.1 hB).1;obtain⟨i,vs,h1,h2,q,n⟩:=h.box l _ L hB d;subst h1;simp at f;subst f;have st:Step σ s (σ.set l (.cells E nb)) {s with w:=s.w.setRow i a.toArray}:=by
  refine⟨by simp,?_,λ_ _ _ h=>h,λ_ _ _ _=>rfl,λL h b c=>.inr ⟨L,h,c⟩,?_,rfl,rfl,rfl,rfl⟩
  .intro b c m;exact setRow_other _ _ _ _ (λe=>m _ (bJ d) (by simp[e]))
  .intro l' B L' jZ fj;by_cases e:l=l'
   .subst e;rw[hB]at jZ;cases jZ;exact⟨_,L',by rw[fZ g],fj,by simp[gA]⟩
   .exact⟨B,L',by grind,fj,.refl _ _⟩
 refine⟨⟨?_,by simp[h.len],?_,h.eB,λL d b c=>by simpa using h.lt L d b c,λb c=>by simpa using h.own b c⟩,st⟩
 .intro b o v k;have p:b≠i:=λe=>by grind
  rw[<-h.mem b o v k];simp only[aU];grind[setRow_other]
 .intro l' B L' jZ fj;by_cases e:l=l'
  .subst e;rw[fZ g]at jZ;cases jZ;rw[d]at fj;cases fj;exact⟨i,a,rfl,setRow_heap _ _ _ _ _ _ h2,r.mono st.ext h.len,n⟩
  .rw[j6 e]at jZ;refine(h.box l' B L' jZ fj).carry st.ext h.len λb c=>⟨setRow_other _ _ _ _ λj=>?_,λ_=>rfl⟩
   subst j;exact e (h.eB l l' _ L' d fj b (by simp) c)
section
open Go.Conc (G)
def RM(σ:List aP)(s:St):Next->D->Prop
 |.value v,x=>dn σ s v x
 |.skip,x=>x=.any
 |_,_=>False
def bG(P:aq)(o:ar)(c:ak->D)(σ:List aP)(x:D)(σ':List aP):Prop :=
 ∀s a,aE σ s->(∀y,dn σ s (a y) (c y))->∃b s',(av a o).run P s.w=.ok b s'.w/\RM σ' s' b x/\aE σ' s'/\Step σ s σ' s'/\fb s ((av a o).events P s.w #[])
def bG.om{P:aq}{o:ar}{b:ak->D}{σ:List aP}{x:D}(h:∀s a,aE σ s->(∀y,dn σ s (a y) (b y))->∃v,(av a o).run P s.w=.ok (.value v) s.w/\dn σ s v x/\fb s ((av a o).events P s.w #[])):bG P o b σ x σ :=
 λs a hh hr=>let ⟨v,h1,h2,c⟩:=h s a hh hr;⟨.value v,s,h1,h2,hh,.refl _ _,c⟩
def bG.quiet{P:aq}{o:ar}{b:ak->D}{σ:List aP}{x:D}(h:∀s a,aE σ s->(∀y,dn σ s (a y) (b y))->∃v,(av a o).run P s.w=.ok (.value v) s.w/\dn σ s v x/\(av a o).events P s.w #[]=#[]):bG P o b σ x σ :=
 λs a hh hr=>let ⟨v,h1,h2,c⟩:=h s a hh hr;⟨.value v,s,h1,h2,hh,.refl _ _,by rw[c];exact .nil⟩
def N6:IntKind->Int->Bool
 |.i64,.ofNat m=>bw m 9223372036854775807
 |.i64,.negSucc m=>bw m 9223372036854775807
 |.u8,.ofNat m=>bw m 255
 |.i32,.ofNat m=>bw m 2147483647
 |.i32,.negSucc m=>bw m 2147483647
 |.u64,.ofNat m=>bw m 18446744073709551615
 |.u32,.ofNat m=>bw m 4294967295
 |_,_=>ae
def RO{k:IntKind}{n:Int}(h:N6 k n=ab):bA k n:=by cases k<;>cases n<;>simp only[N6,bA]at h⊢<;>first|(cases h;done)|(have:=cZ h;grind)
def rY:ah->Option C
 |.int k n=>cond (N6 k n) (aa (.int k n)) af
 |.bool b=>aa (.bool b)
 |.string s=>cond (bw s.size 9223372036854775807) (aa (.str s.data.toList)) af
 |.slice af 0 0=>aa (.sl ab 0 0 (λ_=>[]))
 |.pointer af=>aa .fx
 |.nilIface=>aa .iw
 |.nilFunc=>aa .xT
 |.map m=>aa (.val (.map m))
 |_=>af
theorem Rd.jD{M:Mem}{t:Bool}{k:Nat}{a:Option Addr}{es:Nat->List C}:Rd M (.slice a 0 0) (.sl t k 0 es) :=
 Rd.sl 0 0 (λ_ _=>ai) (bg _) (by omega) (λ_=>rfl) (by omega) (by omega) (by omega) (by omega)
def Rd.rY{M:Mem}{v:ah}{c:C}(h:rY v=aa c):Rd M v c:=by
 unfold AM.rY at h;split at h<;>first
  |(rename_i k n;cases a:N6 k n<;>rw[a]at h<;>cases h;exact .int (RO a))
  |(rename_i s;cases a:bw s.size 9223372036854775807<;>rw[a]at h<;>cases h;exact .str rfl (by rw[jh];exact cZ a))
  |(cases h;done)
  |(cases h;exact .bool)
  |(cases h;exact Rd.jD)
  |(cases h;exact .fx)
  |(cases h;exact .iw)
  |(cases h;exact .xT)
  |(cases h;exact .val rfl)
def dOf:Option C->D
 |some c=>.e (.one (.c c))
 |none=>.any
def bP(φ:Fr):ak->D
 |.tmp t=>look φ t
 |.const v=>dOf (rY v)
 |.func f=>.e (.one (.c (.fn (.func f) [] [])))
 |.global _=>.any
theorem c7{N:Nat}{σ:List aP}{s:St}{φ:Fr}{a:Act}(f:cq N σ s φ a)(y:ak):dn σ s (a.eval y) (bP φ y):=by
 cases y with
 |tmp t=>exact f.slot t
 |const v =>
  simp only[bP,Act.eval];cases h:rY v with
  |none=>trivial
  |some c=>exact Rd.rY h
 |func g =>
  exact Rd.fn [] [] rfl rfl (λ_=>ai) (λ_=>ai) (by simp) (by simp) (by simp) (by simp)
 |global g=>trivial
def kl:Option Nat->D->Fr->Fr
 |some t,x,φ=>(t,x)::φ
 |none,_,φ=>φ
def rl{P:aq}{X:Cx P}{S:au->St->Prop}{b:aR}{k:List Item}{cs:List aR}{a:Act}{s:St}{ops:Array ar}{i:Nat}{rest:List Nat}{o:ar}(m:b.kind≠.early)(n:ops[i]?=aa o)(p:bc o (yielded ops a.tmps)=ab)(h:∀c,cp s c->∃d s' v,(av a.eval o).run P c.w=.ok d s'.w/\(d=.value v∨(d=.skip/\v=ai))/\qW c s' ((av a.eval o).events P c.w #[])/\fE X S (G (b.aT (a.put o.dst v) (.inRegion ops rest::k)) cs) s'):
  fE X S (G (b.aT a (.inRegion ops (i::rest)::k)) cs) s:=by refine .next rfl λc j=>?_;obtain⟨d,s',v,l,f,e,g⟩:=h c (X.iv j);refine⟨_,s',Go.Conc.listed P b.fn a o c.w,?_,⟨e.1,e.2.seen⟩,g⟩;grind[I2,FE]
theorem bG.move{P:aq}{o:ar}{a:ak->D}{σ:List aP}{x:ak}(h:o.op=.move x):bG P o a σ (a x) σ :=
 .quiet λs c _ b=>⟨c x,by simp[av,h,pure],b x,by simp[av,h]⟩
theorem bG.assign{P:aq}{o:ar}{a:ak->D}{σ:List aP}{x:ak}(h:o.op=.assign x):bG P o a σ (a x) σ :=
 .quiet λs c _ b=>⟨c x,by simp[av,h,pure],b x,by simp[av,h]⟩
def eY{σ:List aP}{s:St}{v:ah}{c:C}(h:dn σ s v (.e (.one (.c c)))):Rd s.M v c:=h
def bG.pick{P:aq}{o:ar}{f:ak->D}{σ:List aP}{c a b:ak}(h:o.op=.pick c a b){t:Bool}(j:f c=.e (.one (.c (.bool t)))):
  bG P o f σ (match t with|true=>f a|false=>f b) σ:=by
 refine .quiet λs i _ g=>?_;have h1:=g c;rw[j]at h1;have h2:=eY h1;generalize d:i c=v at h2;cases h2;cases t
 .exact⟨i b,by simp[av,h,d,asBool],g b,by simp[av,h,d,asBool]⟩
 .exact⟨i a,by simp[av,h,d,asBool],g a,by simp[av,h,d,asBool]⟩
def J8(op:BinOp)(k:IntKind)(x y:Int):Option (C×List Prop) :=
 match op with
 |.add=>aa (.int k (x+y),[bA k (x+y)])
 |.sub=>aa (.int k (x-y),[bA k (x-y)])
 |.mul=>aa (.int k (x*y),[bA k (x*y)])
 |.quo=>aa (.int k (x / y),[0<=x,0<y])
 |.rem=>aa (.int k (x % y),[0<=x,0<y])
 |.eql=>aa (.bool (x==y),[])
 |.neq=>aa (.bool (x != y),[])
 |.lss=>aa (.bool (decide (x<y)),[])
 |.leq=>aa (.bool (decide (x<=y)),[])
 |.gtr=>aa (.bool (decide (y<x)),[])
 |.geq=>aa (.bool (decide (y<=x)),[])
 |_=>af
def J9(op:BinOp)(x y:List UInt8):Option (C×List Prop) :=
 match op with
 |.add=>aa (.str (x++y),[x.length+y.length<=9223372036854775807])
 |.eql=>aa (.bool (x==y),[])
 |.neq=>aa (.bool (!(x==y)),[])
 |.lss=>aa (.bool (bk x y),[])
 |.leq=>aa (.bool (bk x y||x==y),[])
 |.gtr=>aa (.bool (!(bk x y||x==y)),[])
 |.geq=>aa (.bool (!(bk x y)),[])
 |_=>af
@[simp] def ay:List Prop->Prop
 |[]=>True
 |[p]=>p
 |p::q::r=>p/\ay (q::r)
def ay.cons{p:Prop}{r:List Prop}:ay (p::r)↔p/\ay r:=by cases r<;>simp
theorem mq{k:IntKind}{n:Int}(h:bA k n):k.wrap n=n:=by cases k<;>simp only[bA,IntKind.wrap,IntKind.bits,IntKind.signed]at h⊢<;>simp<;>(try split)<;>omega
def Ka{P:aq}{w:az}{op:BinOp}{k:IntKind}{x y:Int}{c:C}{obs:List Prop}(h:J8 op k x y=aa (c,obs))(a:ay obs)(l:bA k x)(g:bA k y)(t:aj)(M:Mem):
  ∃v,(binOp op t (.int k x) (.int k y)).run P w=.ok v w/\Rd M v c:=by
 cases op<;>simp only[J8,dr,lS,reduceCtorEq]at h
 case add=>obtain⟨rfl,rfl⟩:=h;exact⟨_,by simp only[binOp,du,fh,b9,Op.intArith,mq a];rfl,.int a⟩
 case sub=>obtain⟨rfl,rfl⟩:=h;exact⟨_,by simp only[binOp,du,fh,b9,Op.intArith,mq a];rfl,.int a⟩
 case mul=>obtain⟨rfl,rfl⟩:=h;exact⟨_,by simp only[binOp,du,fh,b9,Op.intArith,mq a];rfl,.int a⟩
 case quo =>
  obtain⟨rfl,rfl⟩:=h;obtain⟨d,b⟩:=a;replace b:0<y:=b;have e:x.tdiv y=x / y:=Int.tdiv_eq_ediv_of_nonneg d;have f:bA k (x / y):=by have j:0<=x / y:=Int.ediv_nonneg d (by omega);have i:x / y<=x:=Int.ediv_le_self _ d;cases k<;>simp only[bA]at l⊢<;>omega
  exact⟨_,by simp only[binOp,du,fh,b9,Op.intDiv,show y≠0 by omega,e,mq f];rfl,.int f⟩
 case rem =>
  obtain⟨rfl,rfl⟩:=h;obtain⟨d,b⟩:=a;replace b:0<y:=b;have e:x.tmod y=x % y:=Int.tmod_eq_emod_of_nonneg d;have f:bA k (x % y):=by have j:0<=x % y:=pY _ (by omega);have i:x % y<y:=pT _ b;cases k<;>simp only[bA]at g⊢<;>omega
  exact⟨_,by simp only[binOp,du,fh,b9,Op.intDiv,show y≠0 by omega,e];rfl,.int f⟩
 all_goals (obtain⟨rfl,rfl⟩:=h;exact⟨_,by simp only[binOp,du,fh,b9,Op.intCmp,gt_iff_lt,ge_iff_le];rfl,.bool⟩)
def Kb{P:aq}{w:az}{op:BinOp}{x y:ByteArray}{a b:List UInt8}{c:C}{obs:List Prop}(h:J9 op a b=aa (c,obs))(d:ay obs)(j:x.data.toList=a)(g:y.data.toList=b)(t:aj)(M:Mem):
  ∃v,(binOp op t (.string x) (.string y)).run P w=.ok v w/\Rd M v c:=by
 subst j g;cases op<;>simp only[J9,dr,lS,reduceCtorEq]at h
 case add =>
  obtain⟨rfl,rfl⟩:=h;have i:¬((x.size+y.size:Nat):Int)>IntKind.i64.max:=by have l:x.data.toList.length=x.size:=jh;have k:y.data.toList.length=y.size:=jh;have e:IntKind.i64.max=9223372036854775807:=rfl;have f:x.data.toList.length+y.data.toList.length<=9223372036854775807:=d;grind
  refine⟨_,by simp only[binOp,Op.stringOp,i,b9];rfl,.str (by simp) (by simpa using d)⟩
 all_goals (obtain⟨rfl,rfl⟩:=h;exact⟨_,by simp only[binOp,Op.stringOp,ByteArray.toList_eq];rfl,.bool⟩)
def N7{P:aq}{w:az}{op:BinOp}{k:IntKind}{x y:Int}{c:C}{obs:List Prop}(h:J8 op k x y=aa (c,obs))(b:ay obs)(t:aj):
  (binOp op t (.int k x) (.int k y)).events P w #[]=#[]:=by
 cases op<;>simp only[J8,dr,lS,reduceCtorEq]at h
 case quo =>
  obtain⟨rfl,rfl⟩:=h;obtain⟨d,a⟩:=b;replace a:0<y:=a;simp only[binOp,du,fh,b9,Op.intDiv,show y≠0 by omega];rfl
 case rem =>
  obtain⟨rfl,rfl⟩:=h;obtain⟨d,a⟩:=b;replace a:0<y:=a;simp only[binOp,du,fh,b9,Op.intDiv,show y≠0 by omega];rfl
 all_goals (simp only[binOp,du,fh,b9,Op.intCmp,Op.intArith];rfl)
def N8{P:aq}{w:az}{op:BinOp}{x y:ByteArray}{a b:List UInt8}{c:C}{obs:List Prop}(h:J9 op a b=aa (c,obs))(f:ay obs)(j:x.data.toList=a)(g:y.data.toList=b)(t:aj):
  (binOp op t (.string x) (.string y)).events P w #[]=#[]:=by
 subst j g;cases op<;>simp only[J9,dr,lS,reduceCtorEq]at h
 case add =>
  obtain⟨rfl,rfl⟩:=h;have i:¬((x.size+y.size:Nat):Int)>IntKind.i64.max:=by have l:x.data.toList.length=x.size:=jh;have k:y.data.toList.length=y.size:=jh;have e:IntKind.i64.max=9223372036854775807:=rfl;have d:x.data.toList.length+y.data.toList.length<=9223372036854775807:=f;grind
  simp only[binOp,Op.stringOp,i,b9];rfl
 all_goals (simp only[binOp,Op.stringOp];rfl)
def Hv:IntKind->IntKind->Bool
 |.i8,.i8|.i16,.i16|.i32,.i32|.i64,.i64|.u8,.u8|.u16,.u16|.u32,.u32|.u64,.u64=>ab
 |_,_=>ae
def z0{k k':IntKind}(h:Hv k k'=ab):k=k':=by cases k<;>cases k'<;>first|rfl|(cases h;done)
def NB(op:BinOp):C->C->Option (C×List Prop)
 |.int k x,.int k' y=>cond (Hv k k') (J8 op k x y) af
 |.str a,.str b=>J9 op a b
 |_,_=>af
def gN{P:aq}(op:BinOp)(t:aj)(x y:ak)(k k':IntKind)(n a:Int)(u:az):(eqGuard op t x y (.int k n) (.int k' a)).run P u=.ok () u:=by cases op<;>rfl
def uq{P:aq}(op:BinOp)(t:aj)(x y:ak)(a b:ByteArray)(u:az):(eqGuard op t x y (.string a) (.string b)).run P u=.ok () u:=by cases op<;>rfl
def jE{P:aq}(op:BinOp)(t:aj)(x y:ak)(k k':IntKind)(n a:Int)(u:az)(es:Array Event):(eqGuard op t x y (.int k n) (.int k' a)).events P u es=es:=by cases op<;>rfl
def wO{P:aq}(op:BinOp)(t:aj)(x y:ak)(a b:ByteArray)(u:az)(es:Array Event):(eqGuard op t x y (.string a) (.string b)).events P u es=es:=by cases op<;>rfl
theorem bG.binOp{P:aq}{o:ar}{p:ak->D}{σ:List aP}{op:BinOp}{t ty:aj}{x y:ak}(h:o.op=.binOp op t x y ty){a b c:C}{obs:List Prop}(z:p x=.e (.one (.c a)))(A:p y=.e (.one (.c b)))(g:NB op a b=aa (c,obs))(i:ay obs):bG P o p σ (.e (.one (.c c))) σ:=by
 refine .quiet λs r _ q=>?_;have h1:=q x;have h2:=q y;rw[z]at h1;rw[A]at h2;replace h1:=eY h1;replace h2:=eY h2;generalize d:r x=vx at h1;generalize f:r y=vy at h2;cases h1<;>cases h2<;>simp only[NB,reduceCtorEq]at g
 case int.int k n B k' n' hn' =>
  cases hk:Hv k k'<;>simp only[hk,cond,reduceCtorEq]at g
  cases z0 hk;obtain⟨v,m,j⟩:=Ka (P:=P) (w:=s.w) g i B hn' t s.M;exact⟨v,by simp only[av,h,bO,d,f,gN,bX,m,dt],j,by simp[av,h,d,f,gN,jE,N7 g i]⟩
 case str.str =>
  rename_i E l u hl y' l' hy Dp;obtain⟨v,m,j⟩:=Kb (P:=P) (w:=s.w) g i u hy t s.M;exact⟨v,by simp only[av,h,bO,d,f,uq,bX,m,dt],j,by simp[av,h,d,f,uq,wO,N8 g i u hy]⟩
def W4(op:UnOp):C->Option C
 |.bool b=>match op with|.not=>aa (.bool (!b))|_=>af
 |_=>af
theorem bG.unOp{P:aq}{o:ar}{f:ak->D}{σ:List aP}{op:UnOp}{t:aj}{x:ak}(h:o.op=.unOp op t x){a c:C}(g:f x=.e (.one (.c a)))(d:W4 op a=aa c):bG P o f σ (.e (.one (.c c))) σ:=by
 refine .quiet λs j _ i=>?_;have h1:=i x;rw[g]at h1;replace h1:=eY h1;generalize b:j x=vx at h1;cases h1<;>simp only[W4,reduceCtorEq]at d
 cases op<;>simp only[reduceCtorEq,dr]at d
 subst d;exact⟨_,by simp only[av,h,b,Op.unary,bO,dt,bX],Rd.bool,by simp[av,h,b,Op.unary]⟩
theorem g6.get{σ:List aP}{s:St}{vs:List ah}{xs:List E1}(r:g6 σ s vs xs){j:Nat}{x:E1}(h:xs[j]?=aa x):∃v,vs[j]?=aa v/\m8 σ s v x:=by
 induction vs generalizing xs j with
 |nil=>cases xs<;>simp_all[g6]
 |cons v vs ih =>
  cases xs with
  |nil=>grind
  |cons b cs =>
   cases j with
   |zero=>simp at h;subst h;exact⟨v,rfl,r.1⟩
   |succ j=>simp at h;obtain⟨u,c,a⟩:=ih r.2 h;grind
theorem bG.extract{P:aq}{o:ar}{c:ak->D}{σ:List aP}{x:ak}{j:Nat}(h:o.op=.extract x j){xs:List E1}{e:E1}(g:c x=.fa xs)(d:xs[j]?=aa e):bG P o c σ (.e e) σ:=by refine .quiet λs l _ i=>?_;have h1:=i x;rw[g]at h1;obtain⟨vs,k,f⟩:=h1;obtain⟨v,a,b⟩:=f.get d;refine⟨v,?_,b,?_⟩<;>simp[av,h,k,Instr.extract,a]
end
def zt(b o:Nat):Event:=⟨.cell ⟨b,o,af⟩,ae,ae⟩
def Hd(b o:Nat):Event:=⟨.cell ⟨b,o,af⟩,ab,ae⟩
theorem dq(b o n:Nat):(⟨b,o,af⟩:Addr).add n=⟨b,o+n,af⟩:=by unfold Addr.add;split<;>simp_all
section
variable {P:aq}
def zw{w:az}{b o:Nat}{v:ah}(h:w.cell? ⟨b,o,af⟩=aa v)(es:Array Event):(load ⟨b,o,af⟩).events P w es=es.push (zt b o):=by rw[events_load,h];rfl
def nw{w:az}{b o:Nat}:∀(n i:Nat) (acc:Array ah) (es:Array Event),(∀j,j<n->∃v,w.cell? ⟨b,o+(i+j),af⟩=aa v) ->
    ∀e∈(loadCellsFrom ⟨b,o,af⟩ i n acc).events P w es,e∈es∨∃j,j<i+n/\e=zt b (o+j)
  | 0,i,acc,es,_=>λe h=>.inl (by simpa[loadCellsFrom]using h)
  | n+1,i,acc,es,c=>λe h=>by
    obtain⟨v,a⟩:=c 0 (by omega);simp only[iq]at a;simp only[loadCellsFrom,aK,dq,run_load,a,aO,zw a]at h;rcases nw n (i+1) (acc.push v) _ (λj d=>by grind) e h with f|⟨j,d,rfl⟩
    · grind
    grind
def rR{w:az}{b o n:Nat}{es:Array Event}(h:∀j,j<n->∃v,w.cell? ⟨b,o+j,af⟩=aa v):∀e∈(loadCells ⟨b,o,af⟩ n).events P w es,e∈es∨∃j,j<n/\e=zt b (o+j):=by intro e a;have:=nw (P:=P) n 0 #[] es (by grind) e a;grind
def dE{b o:Nat}{t:aj}:∀(vs:List ah) (i:Nat) (a:Array ah) (w:az) (es:Array Event),w.heap[b]?=aa (.cells a t (0,0))->o+i+vs.length<=a.size->(∀v∈vs,v.oneCell'=ab) ->
    ∀e∈(storeCells ⟨b,o,af⟩ vs i).events P w es,e∈es∨∃j,i<=j/\j<i+vs.length/\e=Hd b (o+j)
  | [],_,_,_,_,_,_,_=>λe h=>.inl (by simpa[storeCells]using h)
  | v::rest,i,a,w,es,k,p,l=>λe h=>by
    have hi:o+i<a.size:=by grind
    have c:w.cell? ⟨b,o+i,af⟩=aa a[o+i]:=by simp[aU,k,hi]
    have d:w.frozen? ⟨b,o+i,af⟩=ae:=by simp[World.frozen?,k]
    have f:(store (⟨b,o+i,af⟩:Addr) v).run P w=.ok () (w.setRow b (a.setIfInBounds (o+i) v)):=by grind[run_store,setCell_eq_setRow]
    have g:(store (⟨b,o+i,af⟩:Addr) v).events P w es=es.push (Hd b (o+i)):=by rw[events_store P w es _ v _ (l v (by simp)),c];simp only[d,jy,b9];rfl
    simp only[storeCells,aK,dq,f,g,aO]at h;rcases dE rest (i+1) (a.setIfInBounds (o+i) v) _ _ (setRow_heap _ _ _ _ _ _ k) (by grind) (λu q=>l u (by grind)) e h with m|⟨j,n,r,rfl⟩
    · grind
    grind
def c9{α:Type}(P:aq)(m:Sem α):Prop:=∀w es,m.events P w es=es
def c9.bind{α β:Type}{m:Sem α}{f:α->Sem β}(h:c9 P m)(k:∀a,c9 P (f a)):c9 P (m >>= f):=by
  intro w es;rw[aK,h w es];cases m.run P w with
  | ok a w'=>exact k a w' es
  | halt x w'=>rfl
def c9.pure{α:Type}{a:α}:c9 P (Pure.pure a:Sem α):=λ_ _=>rfl
def c9.stuck{α:Type}{a:String}:c9 P (Go.stuck a:Sem α):=λ_ _=>rfl
def c9.unsupported{α:Type}{u:Unsupported}:c9 P (Go.unsupported u:Sem α):=λ_ _=>rfl
def c9.sizeOf{t:aj}:c9 P (sizeOf t):=λ_ _=>events_sizeOf ..
def c9.underlying{t:aj}:c9 P (underlying t):=λ_ _=>events_underlying ..
def c9.zeroValue{t:aj}:c9 P (zeroValue t):=λ_ _=>events_zeroValue ..
def c9.newObj{o:Obj}:c9 P (newObj o):=λ_ _=>rfl
def c9.newRow{t:aj}{c:Array ah}:c9 P (newRow t c):=.bind .newObj λ_=>.pure
def c9.PV{α β:Type}{f:α->Sem β}(h:∀a,c9 P (f a)):∀l:List α,c9 P (l.mapM f)
  | []=>by rw[List.mapM_nil];exact .pure
  | a::l=>by rw[n9];exact .bind (h a) λ_=>.bind (c9.PV h l) λ_=>.pure
def c9.map{α β:Type}{f:α->β}{m:Sem α}(h:c9 P m):c9 P (Functor.map f m):=λw es=>by rw[Sem.events_map];exact h w es
def c9.Uz{α β:Type}{f:α->Sem β}(h:∀a,c9 P (f a))(l:Array α):c9 P (l.mapM f):=by rw[qS];exact .map (.PV h _)
def c9.Js{α β:Type}{F:α->β->Sem (ForInStep β)}(h:∀a b,c9 P (F a b)):∀(l:List α) (b:β),c9 P (forIn l b F)
  | [],b=>by rw[List.forIn_nil];exact .pure
  | a::l,b=>by
    rw[List.forIn_cons];refine .bind (h a b) λr=>?_;cases r with
    | done b=>exact .pure
    | yield b=>exact c9.Js h l b
theorem c9.build{t:aj}{parts:Array (Nat×ah)}:c9 P (Instr.build t parts):=by
  unfold Instr.build;refine .bind .zeroValue λz=>.bind .underlying λd=>?_;cases d<;>first
    | exact .stuck
    | (refine .bind (.Uz (λ_=>.bind .sizeOf λ_=>.pure) _) λpl=>?_
       split
       · exact .pure
       · exact .stuck)
    | (refine .bind .sizeOf λn=>?_
       split
       · exact .pure
       · exact .stuck)
theorem c9.buildSlice{t:aj}{n:Nat}{parts:Array (Nat×ah)}:c9 P (Instr.buildSlice t n parts):=by
  unfold Instr.buildSlice;refine .bind .underlying λd=>?_;cases d<;>first
    | exact .stuck
    | (refine .bind .sizeOf λm=>?_
       dsimp only
       have hj:∀(elem:aj) (zero:Array ah),c9 P (match Instr.fill (λi=>aa (i*m,m)) (Array.map (λx=>zero[x % zero.size]!) (Array.range (n*m))) parts.toList with
          | some cells=>do
            let a<-Go.newRow elem cells
            Pure.pure (Value.slice (aa a) n n)
          | _=>Go.stuck "buildSlice: a part of the wrong size"):=by
         intro elem zero;split
         · exact .bind .newRow λ_=>.pure
         · exact .stuck
       by_cases b:n*m=0
       · simp only[b,cn]
         rw[b]at hj;split
         · grind
         · exact .bind .pure λz=>hj _ z
       · simp only[b,b9]
         split
         · exact .bind .unsupported λ_=>.bind .zeroValue λz=>.bind .pure λz=>hj _ z
         · exact .bind .zeroValue λz=>.bind .pure λz=>hj _ z)
def jF{s:St}{b o:Nat}{L:Loc}(a:L∈s.β)(c:b∈L.bs):oh s (zt b o):=⟨rfl,rfl,.inr (.inl ⟨⟨L,a,c⟩,λh=>by cases h⟩)⟩
def Bg{s:St}{b o:Nat}{v:ah}(h:s.M b o=aa v):oh s (zt b o):=⟨rfl,rfl,.inr (.inr ⟨rfl,v,h⟩)⟩
theorem jC{s:St}{b o:Nat}{L:Loc}(a:L∈s.β)(d:b∈L.bs)(c:s.M b o=af):oh s (Hd b o):=⟨rfl,rfl,.inr (.inl ⟨⟨L,a,d⟩,λ_=>c⟩)⟩
end
structure TI where
 size:Nat
 bytes:Nat
 agg:Bool
 desc:TypeDesc
 zero:List C
 eq:List TypeDesc:=[]
def ru:TypeDesc->ah->ah->Option Bool
 |.int _,.int k a,.int k' b=>if k=k' then aa (a==b)else af
 |.string,.string a,.string b=>aa (a.toList==b.toList)
 |.bool,.bool a,.bool b=>aa (a==b)
 |_,_,_=>af
def jP:List TypeDesc->List ah->List ah->Option Bool
 |[],[],[]=>aa ab
 |d::ds,v::vs,w::ws=>match ru d v w with
  |some a=>match jP ds vs ws with
   |some b=>aa (a&&b)
   |none=>af
  |none=>af
 |_,_,_=>af
def Ec:TypeDesc->Bool
 |.struct _|.array _ _=>ab
 |_=>ae
structure bE(P:aq)(t:aj)(i:TI):Prop where
 TM:P.underlying t=aa i.desc
 agg:Ec i.desc=i.agg
 info:∃inf z,P.info? t=aa inf/\inf.size=i.size/\inf.bytes=i.bytes/\inf.zero=aa z/\z.cells.toList.map rY=i.zero.map aa/\(∃cs,z=if i.agg then .agg cs else z)/\i.zero.length=i.size
 eqs:i.eq≠[]->P.eqGuardType P.depth t=ae/\∀(w:az) (vs ws:List ah) (b:Bool),jP i.eq vs ws=aa b->(Op.equal t (.agg vs.toArray) (.agg ws.toArray)).run P w=.ok b w/\∀es,(Op.equal t (.agg vs.toArray) (.agg ws.toArray)).events P w es=es
def bD:List (Nat×TI)->Nat->Option TI
 |[],_=>af
 |(i,d)::r,t=>cond (aA i t) (aa d) (bD r t)
def cT(P:aq)(T:List (Nat×TI)):Prop:=∀t i,bD T t=aa i->bE P t i
section
variable {P:aq}{w:az}{t:aj}{i:TI}
def bE.run_underlying(h:bE P t i):(underlying t).run P w=.ok i.desc w:=by simp[underlying,h.TM]
def bE.ki(h:bE P t i):(isAgg t).run P w=.ok i.agg w:=by have:=h.agg;unfold Go.isAgg;rw[bO,h.run_underlying];cases a:i.desc<;>rw[a]at this<;>simp[Ec]at this<;>simp[this]
def bE.run_sizeOf(h:bE P t i):(sizeOf t).run P w=.ok i.size w:=by obtain⟨a,z,h1,h2,_⟩:=h.info;simp[sizeOf,typeInfo,h1,h2]
def kL{σ:List aP}{s:St}:∀{vs:List ah}{cs:List C},vs.map rY=cs.map aa->dW σ s vs (cs.map A.c)
 |[],[],_=>trivial
 |[],_::_,h=>by grind
 |_::_,[],h=>by grind
 |v::vs,c::cs,h=>by simp only[p9,List.cons.injEq]at h;exact⟨Rd.rY h.1,kL h.2⟩
def bE.BW(h:bE P t i)(σ:List aP)(s:St):∃z,(zeroValue t).run P w=.ok z w/\dW σ s z.cells.toList (i.zero.map A.c):=by obtain⟨d,z,h1,h2,e,a,b,_⟩:=h.info;exact⟨z,by simp[zeroValue,typeInfo,h1,a],kL b⟩
end
def km:D->Option (List A)
 |.e (.one a)=>aa [a]
 |.e (.agg cs)=>aa cs
 |_=>af
theorem lN{σ:List aP}{s:St}{v:ah}{d:D}{cs:List A}(h:km d=aa cs)(r:dn σ s v d):dW σ s v.cells.toList cs:=by
 cases d with
 |e x =>
  cases x with
  |one a =>
   cases h;have:=gu.cell r;cases v<;>first|exact⟨r,aw⟩|cases this
  |agg c =>
   cases h;obtain⟨vs,rfl,b⟩:=r;simpa[Value.cells]using b
 |fa xs=>cases h
 |any=>cases h
def bG.newVar{P:aq}{o:ar}{b:ak->D}{σ:List aP}{E:aj}{cs:List A}(h:∀s a,aE σ s->(∀y,dn σ s (a y) (b y))->∃v:ah,(av a o).run P s.w=((do pure (.value (.pointer (aa (<-newVar E v))))):Sem Next).run P s.w/\dW σ s v.cells.toList cs/\(av a o).events P s.w #[]=#[]):
  bG P o b σ (.e (.one (.ptr σ.length 0))) (σ++[.cells E cs]):=by
 intro s a hh hr;obtain⟨v,h1,h2,c⟩:=h s a hh hr;refine⟨.value (.pointer (aa ⟨s.w.heap.size,0,af⟩)),s.fT E v.cells.toList,?_,?_,hh.fT h2,.fT s E _ _,by rw[c];exact .nil⟩
 .rw[h1];simp[Go.newVar,newRow,St.fT]
 .refine⟨by simp,⟨.pointer (aa ⟨s.w.heap.size,0,af⟩),[s.w.heap.size]⟩,s.w.heap.size,?_,rfl,rfl⟩;simp[St.fT,<-hh.len]
theorem bG.alloc{P:aq}{T:List (Nat×TI)}(hT:cT P T){o:ar}{b:ak->D}{σ:List aP}{E:aj}(h:o.op=.alloc E){i:TI}(hi:bD T E=aa i):
  bG P o b σ (.e (.one (.ptr σ.length 0))) (σ++[.cells E (i.zero.map A.c)]):=by refine .newVar λs f _ _=>?_;obtain⟨z,a,d⟩:=(hT E i hi).BW (w:=s.w) σ s;exact⟨z,by simp[av,h,Instr.alloc,a],d,by simp[av,h,Instr.alloc,a,Go.newVar,newRow]⟩
theorem bG.box{P:aq}{o:ar}{a:ak->D}{σ:List aP}{E:aj}{x:ak}(h:o.op=.box E x){cs:List A}(c:km (a x)=aa cs):
  bG P o a σ (.e (.one (.ptr σ.length 0))) (σ++[.cells E cs]) :=
 .newVar λs d _ b=>⟨d x,by simp[av,h,Instr.box],lN c (b x),by simp[av,h,Instr.box,Go.newVar,newRow]⟩
def oJ{α:Type}:Nat->List α->Option (List α)
 |0,_=>aa []
 |n+1,x::xs=>match oJ n xs with|some r=>aa (x::r)|none=>af
 |_+1,[]=>af
def nn{α:Type}:∀{n:Nat}{l r:List α},oJ n l=aa r->r=l.take n/\r.length=n
 |0,l,r,h=>by cases h;simp
 |n+1,[],r,h=>by simp[oJ]at h
 |n+1,x::xs,r,h=>by
  simp only[oJ]at h;cases a:oJ n xs with
  |none=>grind
  |some q =>
   simp[a]at h;subst h;obtain⟨c,b⟩:=nn a;grind
def dw{α:Type}:Nat->List α->Option α
 |_,[]=>af
 |0,x::_=>aa x
 |n+1,_::xs=>dw n xs
theorem b5{α:Type}:∀{n:Nat}{l:List α}{x:α},dw n l=aa x->l[n]?=aa x
 |_,[],_,h=>by simp[dw]at h
 |0,x::_,_,h=>by simpa[dw]using h
 |n+1,_::xs,_,h=>by simpa using b5 (n:=n) (l:=xs) h
def fO{α:Type}:Nat->List α->List α
 |0,l=>l
 |_+1,[]=>[]
 |n+1,_::xs=>fO n xs
def l3{α:Type}:∀(n:Nat)(l:List α),fO n l=l.drop n
 |0,_=>by simp[fO]
 |_+1,[]=>by simp[fO]
 |n+1,_::xs=>by simp[fO,l3 n xs]
def kP(i:TI)(cs:List A):Option E1 :=
 match i.agg with
 |true=>match oJ i.size cs with|some r=>aa (.agg r)|none=>af
 |false=>match dw 0 cs with|some a=>aa (.one a)|none=>af
def iA{P:aq}{σ:List aP}{s:St}{t:aj}{i:TI}(l:bE P t i){b off:Nat}{vs:List ah}{cs:List A}{e:E1}(u:∀(j:Nat) (v:ah),vs[j]?=aa v->s.w.cell? ⟨b,off+j,af⟩=aa v)(k:dW σ s vs cs)(d:kP i cs=aa e):
  ∃v,(loadVar t ⟨b,off,af⟩).run P s.w=.ok v s.w/\m8 σ s v e:=by
 simp only[loadVar,bO,l.ki,bX];cases n:i.agg<;>simp only[kP,n]at d
 .cases f:dw 0 cs with
  |none=>grind
  |some a =>
   simp[f]at d;subst d;obtain⟨v,q,h⟩:=k.get (b5 f);refine⟨v,?_,h⟩;grind[run_load]
 .cases f:oJ i.size cs with
  |none=>grind
  |some r =>
   simp[f]at d;subst d;obtain⟨p,m⟩:=nn f;have c:=k.take i.size;rw[<-p]at c;have o:(vs.take i.size).length=i.size:=by rw[c.length,m]
   have g:=run_loadCells_list (P:=P) s.w ⟨b,off,af⟩ (vs.take i.size) (λj v x=>by grind[dq])
   rw[o]at g;refine⟨.agg (vs.take i.size).toArray,?_,vs.take i.size,rfl,c⟩;simp[l.run_sizeOf,g]
def gf{P:aq}{w:az}{t:aj}{i:TI}(k:bE P t i){b off n:Nat}(g:∀j,j<n->∃v,w.cell? ⟨b,off+j,af⟩=aa v)(c:(if i.agg then i.size else 1)<=n):
  ∀e∈(loadVar t ⟨b,off,af⟩).events P w #[],∃j,j<n/\e=zt b (off+j):=by
 intro e a;simp only[loadVar,aK,k.ki,aO,events_isAgg]at a;cases d:i.agg
 .rw[d]at c a;obtain⟨v,f⟩:=g 0 (by grind);simp only[iq]at f;simp only[jy,b9,zw f]at a;rcases Array.mem_push.1 a with h|rfl
  .grind
  .exact⟨0,by grind,rfl⟩
 .rw[d]at c a;simp only[cn]at c;simp only[cn,aK,k.run_sizeOf,aO,events_sizeOf]at a;have key:∀e∈(loadCells ⟨b,off,af⟩ i.size).events P w #[],∃j,j<n/\e=zt b (off+j):=by
   intro e a;rcases rR (P:=P) (λj l=>g j (by omega)) e a with h|⟨j,l,rfl⟩
   .grind
   grind
  apply key;generalize(loadCells ⟨b,off,af⟩ i.size).run P w=r at a;cases r with
  |ok v w'=>simpa using a
  |halt x w'=>simpa using a
theorem kQ{i:TI}{cs:List A}{e:E1}(h:kP i cs=aa e):(if i.agg then i.size else 1)<=cs.length:=by
 unfold kP at h;cases b:i.agg<;>rw[b]at h
 .cases cs with
  |nil=>simp[dw]at h
  |cons c cs=>simp
 .simp only at h;cases a:oJ i.size cs with
  |none=>grind
  |some r =>
   obtain⟨f,d⟩:=nn a;grind
theorem bG.FU{P:aq}{T:List (Nat×TI)}(hT:cT P T){o:ar}{u:ak->D}{σ:List aP}{t:aj}{x:ak}(h:o.op=.load t x){l off:Nat}{E:aj}{cs:List A}{i:TI}{e:E1}(F:u x=.e (.one (.ptr l off)))(hB:σ[l]?=aa (.cells E cs))(hi:bD T t=aa i)(p:kP i (fO off cs)=aa e):bG P o u σ (.e e) σ:=by
 refine .om λs C hh hr=>?_
 have h1:=hr x;rw[F]at h1;obtain⟨_,L,b,y,f,q⟩:=h1;obtain⟨k,vs,rfl,B,a,_⟩:=hh.box l _ L hB y;simp at f;subst f;rw[l3]at p;obtain⟨v,c,m⟩:=iA (s:=s) (σ:=σ) (P:=P) (hT t i hi) (b:=k) (off:=off) (vs:=vs.drop off) (cs:=cs.drop off) (e:=e) (λj v hj=>by
  simp only[aU,B]
  grind) (a.drop off) p
 refine⟨v,by simp[av,h,q,Instr.loadAt,bn,c],m,λr d=>?_⟩;have g:r∈(loadVar t ⟨k,off,af⟩).events P s.w #[]:=by
  have e:av C o=(do pure (.value (<-loadVar t ⟨k,off,af⟩))):=by simp[av,h,q,Instr.loadAt,bn]
  rw[e]at d;simpa[c]using d
 have z:(vs.drop off).length=(cs.drop off).length:=(a.drop off).length;obtain⟨j,hj,rfl⟩:=gf (hT t i hi) (n:=(vs.drop off).length) (λj hj=>by refine⟨(vs.drop off)[j],?_⟩;simp only[aU,B];simp at hj⊢<;>omega) (by grind[kQ]) r g
 exact jF (bJ y) (by simp)
theorem bG.JA{P:aq}{T:List (Nat×TI)}(hT:cT P T){o:ar}{B:ak->D}{σ:List aP}{t:aj}{x:ak}(h:o.op=.load t x){cs:List C}{i:TI}{e:E1}(G:B x=.e (.one (.c (.rp cs))))(hi:bD T t=aa i)(u:kP i (cs.map A.c)=aa e):bG P o B σ (.e e) σ:=by
 refine .om λs y hh hr=>?_;have h1:=hr x;rw[G]at h1;have h2:=eY h1;generalize a:y x=vx at h2;cases h2;rename_i b off f q F;have p:∀(n:Nat) (ds:List C),(∀j c,ds[j]?=aa c->Rd s.M (f (n+j)) c)->dW σ s ((bd ds.length).map λj=>f (n+j)) (ds.map A.c):=by
  intro n ds;induction ds generalizing n with
  |nil=>intro _;trivial
  |cons d ds ih =>
   intro E;rw[er,uY];refine⟨E 0 d rfl,?_⟩;have:=ih (n+1) (λj c hj=>by have:=E (j+1) c (by grind);grind);grind[Function.comp_def]
 obtain⟨v,g,r⟩:=iA (s:=s) (σ:=σ) (P:=P) (hT t i hi) (b:=b) (off:=off) (vs:=(bd cs.length).map λj=>f (0+j)) (cs:=cs.map A.c) (e:=e) (λj v hj=>by
  simp only[mV,bC]at hj;by_cases k:j<cs.length
  .simp[k]at hj;subst hj;exact hh.mem _ _ _ (q j cs[j] (br k))
  grind) (p 0 cs (by grind)) u
 refine⟨v,by simp[av,h,a,Instr.loadAt,bn,g],r,λz l=>?_⟩;have m:z∈(loadVar t ⟨b,off,af⟩).events P s.w #[]:=by
  have e:av y o=(do pure (.value (<-loadVar t ⟨b,off,af⟩))):=by simp[av,h,a,Instr.loadAt,bn]
  rw[e]at l;simpa[g]using l
 obtain⟨j,hj,rfl⟩:=gf (hT t i hi) (n:=cs.length) (λj hj=>⟨f j,hh.mem _ _ _ (q j cs[j] (br hj))⟩) (by have:=kQ u;grind) z m;exact Bg (q j cs[j] (br hj))
def fy{α:Type}:Nat->List α->List α->Option (List α)
 |0,[],l=>aa l
 |0,n::ns,_::cs=>match fy 0 ns cs with|some r=>aa (n::r)|none=>af
 |k+1,ns,c::cs=>match fy k ns cs with|some r=>aa (c::r)|none=>af
 |_,_,[]=>af
def qq{α:Type}:∀{off:Nat}{new l r:List α},fy off new l=aa r->off+new.length<=l.length/\r=l.take off++new++l.drop (off+new.length)
 |0,[],l,r,h=>by cases l<;>cases h<;>simp
 |0,n::ns,c::cs,r,h=>by
  simp only[fy]at h;cases a:fy 0 ns cs with
  |none=>grind
  |some q =>
   simp[a]at h;subst h;obtain⟨d,b⟩:=qq a;grind
 |0,n::ns,[],r,h=>by simp[fy]at h
 |k+1,ns,c::cs,r,h=>by
  simp only[fy]at h;cases a:fy k ns cs with
  |none=>grind
  |some q =>
   simp[a]at h;subst h;obtain⟨d,b⟩:=qq a;grind
 |k+1,ns,[],r,h=>by simp[fy]at h
def dW.fy{σ:List aP}{s:St}{off:Nat}{vs new:List ah}{cs RP r:List A}(h:AM.fy off RP cs=aa r)(h1:dW σ s vs cs)(h2:dW σ s new RP):
  off+new.length<=vs.length/\dW σ s (vs.take off++new++vs.drop (off+new.length)) r:=by obtain⟨k1,rfl⟩:=qq h;rw[h2.length,h1.length];refine⟨k1,((h1.take off).append h2).append (by have:=h1.drop (off+RP.length);exact this)⟩
theorem bG.store{P:aq}{T:List (Nat×TI)}(hT:cT P T){o:ar}{u:ak->D}{σ:List aP}{t:aj}{x y:ak}(h:o.op=.store t x y){l off:Nat}{E:aj}{cs new nb:List A}{i:TI}(M:u x=.e (.one (.ptr l off)))(hB:σ[l]?=aa (.cells E cs))(hi:bD T t=aa i)(J:km (u y)=aa new)(B:new.length=i.size)(I:fy off new cs=aa nb):
  bG P o u σ .any (σ.set l (.cells E nb)):=by
 intro s d hh hr;have h1:=hr x;rw[M]at h1;obtain⟨_,L,b,z,k,F⟩:=h1;obtain⟨p,vs,rfl,G,q,n⟩:=hh.box l _ L hB z;simp at k;subst k;have a:=lN J (hr y);obtain⟨k1,H⟩:=dW.fy I q a;obtain⟨w1,w2⟩:=hh.write hB z rfl H;refine⟨.skip,_,?_,rfl,w1,w2,?_⟩
 rotate_left
 .intro C c;have f:(d y).cells.size=i.size:=by rw[<-B,<-a.length,jh]
  have e:av d o=(do storeVar t ⟨p,off,af⟩ (d y);pure .skip):=by simp[av,h,F,Instr.storeAt,bn]
  rw[e]at c;have g:C∈(storeCells ⟨p,off,af⟩ (d y).cells.toList).events P s.w #[]:=by
   simp only[storeVar,aK,(hT t i hi).run_sizeOf,f,aO,events_sizeOf,du,fh,b9,bO,bX,Sem.events_pure]at c;generalize(storeCells ⟨p,off,af⟩ (d y).cells.toList).run P s.w=r at c;cases r with
   |ok v w'=>simpa using c
   |halt x w'=>simpa using c
  rcases dE (d y).cells.toList 0 vs.toArray s.w #[] G (by grind) a.cell C g with K|⟨j,_,_,rfl⟩
  .grind
  .exact jC (bJ z) (by simp) (n _)
 have m:=run_storeCells_at P p off E (d y).cells.toList 0 vs.toArray s.w G (by grind) (a.cell);have f:(d y).cells.size=i.size:=by rw[<-B,<-a.length,jh]
 simp only[iq]at m;simp[av,h,F,Instr.storeAt,bn,storeVar,(hT t i hi).run_sizeOf,f,m]
def jK(T:List (Nat×TI))(t:aj)(f:Nat):Option (Nat×TI) :=
 match bD T t with
 |some i=>match i.desc with
  |.struct fs=>match dw f fs.toList with
   |some fl=>match bD T fl.type with
    |some j=>cond (aA j.size 0) af (aa (fl.offset,j))
    |none=>af
   |none=>af
  |_=>af
 |none=>af
def tz{P:aq}{T:List (Nat×TI)}(hT:cT P T){t:aj}{f off:Nat}{j:TI}(h:jK T t f=aa (off,j)):
  ∃i fs fl,bD T t=aa i/\i.desc=.struct fs/\fs[f]?=aa fl/\fl.offset=off/\bD T fl.type=aa j/\j.size≠0/\bE P t i/\bE P fl.type j:=by
 unfold jK at h;split at h
 .rename_i i hi;split at h
  .rename_i fs Yt;split at h
   .rename_i fl hfl;split at h
    .rename_i c b;cases a:aA c.size 0<;>simp[a]at h
     obtain⟨rfl,rfl⟩:=h;refine⟨i,fs,fl,hi,Yt,by simpa using b5 hfl,rfl,b,?_,hT _ _ hi,hT _ _ b⟩;intro e;rw[e]at a;cases a
    grind
   grind
  grind
 grind
def mE{P:aq}{T:List (Nat×TI)}(hT:cT P T){t:aj}{f off:Nat}{j:TI}(h:jK T t f=aa (off,j))(b o:Nat)(w:az):
  (Instr.fieldAt t (.pointer (aa ⟨b,o,af⟩)) f).run P w=.ok (.pointer (aa ⟨b,o+off,af⟩)) w:=by obtain⟨i,fs,l,m,a,c,g,n,d,k,e⟩:=tz hT h;simp[Instr.fieldAt,k.run_underlying,a,c,bn,fieldPlace,e.run_sizeOf,d,dq,g]
def oz{P:aq}{T:List (Nat×TI)}(hT:cT P T){t:aj}{f off:Nat}{j:TI}(h:jK T t f=aa (off,j))(b o:Nat)(w:az)(es:Array Event):
  (Instr.fieldAt t (.pointer (aa ⟨b,o,af⟩)) f).events P w es=es:=by obtain⟨i,fs,k,l,a,c,m,n,d,g,e⟩:=tz hT h;simp[Instr.fieldAt,g.run_underlying,a,c,bn,fieldPlace,e.run_sizeOf,d]
def bG.se{P:aq}{T:List (Nat×TI)}(hT:cT P T){o:ar}{d:ak->D}{σ:List aP}{t:aj}{x:ak}{f:Nat}(h:o.op=.fieldAddr t x f){l off k:Nat}{j:TI}(n:d x=.e (.one (.ptr l off)))(g:jK T t f=aa (k,j)):bG P o d σ (.e (.one (.ptr l (off+k)))) σ:=by refine .quiet λs p hh hr=>?_;have h1:=hr x;rw[n]at h1;obtain⟨i,L,b,m,a,c⟩:=h1;exact⟨.pointer (aa ⟨b,off+k,af⟩),by simp[av,h,c,mE hT g],⟨i,L,b,m,a,rfl⟩,by simp[av,h,c,oz hT g]⟩
theorem bG.uj{P:aq}{T:List (Nat×TI)}(hT:cT P T){o:ar}{d:ak->D}{σ:List aP}{t:aj}{x:ak}{f:Nat}(h:o.op=.fieldAddr t x f){cs:List C}{k:Nat}{j:TI}(n:d x=.e (.one (.c (.rp cs))))(g:jK T t f=aa (k,j)):bG P o d σ (.e (.one (.c (.rp (fO k cs))))) σ:=by
 refine .quiet λs l hh hr=>?_;have h1:=hr x;rw[n]at h1;have h2:=eY h1;generalize a:l x=vx at h2;cases h2;rename_i b o m p i;refine⟨.pointer (aa ⟨b,o+k,af⟩),by simp[av,h,a,mE hT g],?_,by simp[av,h,a,oz hT g]⟩;rw[l3];refine Rd.rp b (o+k) (λj=>m (k+j)) (λj c hj=>?_) (λj c hj=>?_)
 .grind
 grind
def Kc{σ:List aP}{s:St}{P:aq}{t:aj}{i:TI}(g:bE P t i){vs:List ah}{cs:List A}(r:dW σ s vs cs){off:Nat}{e:E1}(b:kP i (fO off cs)=aa e)(w:az):
  ∃v,(part t vs.toArray off).run P w=.ok v w/\m8 σ s v e/\∀es,(part t vs.toArray off).events P w es=es:=by
 simp only[part,bO,g.ki,bX,aK,aO,events_isAgg];rw[l3]at b;cases j:i.agg<;>simp only[kP,j]at b
 .cases d:dw 0 (cs.drop off)with
  |none=>grind
  |some a =>
   simp[d]at b;subst b;obtain⟨v,h,f⟩:=(r.drop off).get (b5 d);simp at h;refine⟨v,?_,f,λes=>?_⟩<;>simp[h]
 .cases d:oJ i.size (cs.drop off)with
  |none=>grind
  |some q =>
   simp[d]at b;subst b;obtain⟨k,l⟩:=nn d;have c:=(r.drop off).take i.size;rw[<-k]at c;refine⟨.agg (vs.toArray.extract off (off+i.size)),by simp[g.run_sizeOf],⟨(vs.drop off).take i.size,?_,c⟩,λes=>by simp⟩;simp
theorem bG.field{P:aq}{T:List (Nat×TI)}(hT:cT P T){o:ar}{n:ak->D}{σ:List aP}{t:aj}{x:ak}{f:Nat}(h:o.op=.field t x f){cs:List A}{k:Nat}{j:TI}{e:E1}(y:n x=.e (.agg cs))(u:jK T t f=aa (k,j))(q:kP j (fO k cs)=aa e):bG P o n σ (.e e) σ:=by refine .quiet λs B hh hr=>?_;have h1:=hr x;rw[y]at h1;obtain⟨vs,m,a⟩:=h1;obtain⟨i,fs,fl,h1,h2,g,p,C,z,l,r⟩:=tz hT u;obtain⟨v,c,d,b⟩:=Kc r a q s.w;exact⟨v,by simp[av,h,m,Instr.field,l.run_underlying,h2,g,asAgg,p,c],d,by simp[av,h,m,Instr.field,l.run_underlying,h2,g,asAgg,p,b]⟩
theorem bG.uk{P:aq}{o:ar}{d:ak->D}{σ:List aP}{x:ak}(h:o.op=.nilCheck x){l off:Nat}(i:d x=.e (.one (.ptr l off))):bG P o d σ (.e (.one (.ptr l off))) σ:=by refine .quiet λs f hh hr=>?_;have h1:=hr x;rw[i]at h1;have a:=h1;obtain⟨j,L,b,k,g,c⟩:=h1;exact⟨f x,by simp[av,h,c],a,by simp[av,h,c]⟩
theorem bG.wy{P:aq}{o:ar}{b:ak->D}{σ:List aP}{x:ak}(h:o.op=.nilCheck x){cs:List C}(f:b x=.e (.one (.c (.rp cs)))):bG P o b σ (.e (.one (.c (.rp cs)))) σ:=by refine .quiet λs d hh hr=>?_;have h1:=hr x;rw[f]at h1;have h2:=eY h1;generalize a:d x=vx at h2;cases h2;exact⟨_,by simp[av,h,a];rfl,by grind,by simp[av,h,a]⟩
def Hz(new:List ah):∀(j off:Nat)(cs:Array ah),off+j+new.length<=cs.size ->
  ((new.zipIdx j).foldl (λcs (x:ah×Nat)=>cs.setIfInBounds (off+x.2) x.1) cs).toList=cs.toList.take (off+j)++new++cs.toList.drop (off+j+new.length):=by
 induction new with
 |nil=>intro j off cs _;simp
 |cons v vs ih =>
  intro j off cs h;simp only[List.zipIdx_cons,lj];rw[ih (j+1) off _ (by grind)];have:=list_seg_step cs.toList (off+j) v vs (by grind);simpa[Array.toList_setIfInBounds,Nat.add_assoc]using this
def yv(place:Nat->Option (Nat×Nat)):List (Nat×List A)->List A->Option (List A)
 |[],cs=>aa cs
 |(i,new)::rest,cs=>match place i with
  |some (off,size)=>match aA new.length size with
   |true=>match fy off new cs with
    |some r=>yv place rest r
    |none=>af
   |false=>af
  |none=>af
def wP{σ:List aP}{s:St}{place place':Nat->Option (Nat×Nat)}(o:∀i p,place i=aa p->place' i=aa p):∀{parts:List (Nat×List A)}{vparts:List (Nat×ah)}{cs r:List A}{vs:Array ah},
  yv place parts cs=aa r->vparts.map (·.1)=parts.map (·.1)->(∀(k:Nat) (p:Nat×List A) (q:Nat×ah),parts[k]?=aa p->vparts[k]?=aa q->dW σ s q.2.cells.toList p.2)->dW σ s vs.toList cs ->
  ∃d,Instr.fill place' vs vparts=aa d/\dW σ s d.toList r
 |[],[],cs,r,vs,h,_,_,b=>by cases h;exact⟨vs,rfl,b⟩
 |[],_::_,cs,r,vs,h,a,_,b=>by grind
 |_::_,[],cs,r,vs,h,a,_,b=>by grind
 |(i,new)::rest,(f,v)::U1,cs,r,vs,h,a,hk,b=>by
  simp only[p9,List.cons.injEq]at a;obtain⟨rfl,a⟩:=a;simp only[yv]at h;cases c:place f with
  |none=>grind
  |some p =>
   obtain⟨off,size⟩:=p;simp only[c]at h;cases m:aA new.length size with
   |false=>grind
   |true =>
    simp only[m]at h;cases l:fy off new cs with
    |none=>grind
    |some q =>
     simp only[l]at h;have g:=hk 0 (f,new) (f,v) rfl rfl;simp only at g;have y:=g.length;have n:new.length=size:=bR m;obtain⟨k1,z⟩:=dW.fy l b g;have w:=Hz v.cells.toList 0 off vs (by grind);have e:v.cells.size=size:=by grind
     have t:off+size<=vs.size:=by grind
     obtain⟨d,u,j⟩:=wP (σ:=σ) (s:=s) o (parts:=rest) (vparts:=U1) (cs:=q) (r:=r)
      (vs:=v.cells.zipIdx.foldl (λcs (x:ah×Nat)=>cs.setIfInBounds (off+x.2) x.1) vs) h a (λk p q u j=>hk (k+1) p q (by grind) (by grind)) (by grind[Array.toList_zipIdx])
     refine⟨d,?_,j⟩;simp only[Instr.fill,o _ _ c,e,du,fh,kA,Bool.false_or,aZ];grind
def qt(T:List (Nat×TI)):List Field->Option (List (Nat×Nat))
 |[]=>aa []
 |f::fs=>match bD T f.type with
  |some j=>match qt T fs with
   |some r=>aa ((f.offset,j.size)::r)
   |none=>af
  |none=>af
def wQ{P:aq}{T:List (Nat×TI)}(hT:cT P T):∀{fs:List Field}{r:List (Nat×Nat)},qt T fs=aa r->fs.mapM (λf=>(P.info? f.type).map λi=>(f.offset,i.size))=aa r
 |[],r,h=>by cases h;simp
 |f::fs,r,h=>by
  simp only[qt]at h;cases b:bD T f.type with
  |none=>grind
  |some j =>
   cases a:qt T fs with
   |none=>grind
   |some q =>
    simp[b,a]at h;subst h;obtain⟨d,z,e,c,_⟩:=(hT _ _ b).info;simp[n9,e,c,wQ hT a]
def py(a:ak->D):List (Nat×ak)->Option (List (Nat×List A))
 |[]=>aa []
 |(i,x)::r=>match km (a x)with
  |some cs=>match py a r with
   |some q=>aa ((i,cs)::q)
   |none=>af
  |none=>af
def tA{σ:List aP}{s:St}{b:ak->ah}{a:ak->D}(d:∀y,dn σ s (b y) (a y)):∀{l:List (Nat×ak)}{q:List (Nat×List A)},py a l=aa q ->
  (l.map λ(i,x)=>(i,b x)).map (·.1)=q.map (·.1)/\∀(k:Nat) (p:Nat×List A) (u:Nat×ah),q[k]?=aa p->(l.map λ(i,x)=>(i,b x))[k]?=aa u->dW σ s u.2.cells.toList p.2
 |[],q,h=>by cases h;simp
 |(i,x)::r,q,h=>by
  simp only[py]at h;cases e:km (a x)with
  |none=>grind
  |some cs =>
   cases c:py a r with
   |none=>grind
   |some q' =>
    simp[e,c]at h;subst h;obtain⟨g,f⟩:=tA d c;grind[lN]
def zO(T:List (Nat×TI))(a:ak->D)(t:aj)(parts:List (Nat×ak)):Option (List A) :=
 match bD T t with
 |some i=>match i.desc with
  |.struct fs=>match qt T fs.toList with
   |some pl=>match py a parts with
    |some ps=>yv (λk=>dw k pl) ps (i.zero.map A.c)
    |none=>af
   |none=>af
  |_=>af
 |none=>af
theorem bG.build{P:aq}{T:List (Nat×TI)}(hT:cT P T){o:ar}{g:ak->D}{σ:List aP}{t:aj}{parts:Array (Nat×ak)}(h:o.op=.build t parts){cs:List A}(b:zO T g t parts.toList=aa cs):bG P o g σ (.e (.agg cs)) σ:=by
 refine .quiet λs y hh hr=>?_;unfold zO at b;cases hi:bD T t with
 |none=>grind
 |some i =>
  simp only[hi]at b;cases j:i.desc with
  |struct fs =>
   simp only[j]at b;cases f:qt T fs.toList with
   |none=>grind
   |some pl =>
    simp only[f]at b;cases c:py g parts.toList with
    |none=>grind
    |some ps =>
     simp only[c]at b;obtain⟨m,z,u,C,F,n,q,G,E⟩:=(hT t i hi).info;obtain⟨r,p2⟩:=tA (σ:=σ) (s:=s) hr c;obtain⟨d,v,B⟩:=wP (σ:=σ) (s:=s) (place':=λk=>pl.toArray[k]?) (λk p hk=>by grind[b5]) b r p2 (kL q);have l:P.built t (parts.map λ(i,x)=>(i,y x)).toList=aa d:=by unfold Program.built;have a:=(hT t i hi).TM;rw[j]at a;simp only[u,a,n,wQ hT f];simpa using v
     refine⟨.agg d,?_,⟨d.toList,by simp,B⟩,?_⟩
     .simp only[av,h,bO,run_build s.w t _ d l,bX,dt]
     .simp only[av,h,aK,run_build s.w t _ d l,aO,Sem.events_pure];exact c9.build s.w #[]
  |_=>grind
theorem RZ{k n i j:Nat}(hi:i<n)(b:j<k):i*k+j<n*k:=by have a:(i+1)*k<=n*k:=eC k (by omega);grind
theorem Ob{k i j:Nat}(a:j<k):(i*k+j) / k=i:=by grind[Nat.mul_comm,Nat.mul_add_div,Nat.div_eq_of_lt]
theorem Oc{k i j:Nat}(a:j<k):(i*k+j) % k=j:=by rw[Nat.mul_comm,Nat.mul_add_mod,Nat.mod_eq_of_lt a]
def Flat.nil{M:Mem}{k:Nat}{es:Nat->List C}:Flat M k 0 es []:=⟨by simp,by omega,by omega⟩
def cE(n:Nat)(f g:Nat->List C):Nat->List C:=λi=>if i<n then f i else g (i-n)
def Flat.append{M:Mem}{k n m:Nat}{es es':Nat->List C}{vs zB:List ah}(h:Flat M k n es vs)(b:Flat M k m es' zB):Flat M k (n+m) (cE n es es') (vs++zB):=by
 refine⟨by simp[h.len,b.len,ir],λi hi=>?_,λi hi j c hj=>?_⟩
 .simp only[cE];split
  .rename_i a;exact h.width i a
  .exact b.width _ (by omega)
 .simp only[cE]at hj;split at hj
  .rename_i a;obtain⟨v,h1,h2⟩:=h.rd i a j c hj;grind
  .rename_i d;obtain⟨v,h1,h2⟩:=b.rd _ (by omega) j c hj;refine⟨v,?_,h2⟩;have e1:i*k+j=vs.length+((i-n)*k+j):=by rw[h.len,<-Nat.add_assoc,<-ir,zo (by omega)]
   grind
def Flat.cell{M:Mem}{k n:Nat}{es:Nat->List C}{vs:List ah}(h:Flat M k n es vs):∀v∈vs,v.oneCell'=ab:=by
 intro v b;obtain⟨p,a,rfl⟩:=dL b;rw[h.len]at a;have hk:0<k:=by grind
 have hi:p / k<n:=pQ (by grind);have hj:p % k<k:=j9 _ hk;have c:=h.width _ hi;obtain⟨v,h1,h2⟩:=h.rd (p / k) hi (p % k) ((es (p / k))[p % k]'(by omega)) (br (by omega));have e:p / k*k+p % k=p:=pV p k;rw[e]at h1;rw[br (by grind)]at h1;simp at h1;rw[h1];have:=Rd.cell h2;cases v<;>simp_all[cJ,Value.oneCell']
def Rd.flat{M:Mem}{v:ah}{t:Bool}{k n:Nat}{es:Nat->List C}(h:Rd M v (.sl t k n es)):
  ∃a cap vs,v=.slice a n cap/\n<=cap/\cap<=9223372036854775807/\(t=ab->cap=n)/\Flat M k n es vs/\∀p u,vs[p]?=aa u->∃b off,a=aa ⟨b,off,af⟩/\M b (off+p)=aa u:=by
 cases h with
 |@sl a _ cap _ _ _ b off f c j i hk ha hm hr =>
  refine⟨a,cap,(bd (n*k)).map λp=>f (p / k) (p % k),rfl,c,j,i,⟨by simp,hk,?_⟩,?_⟩
  .grind [RZ,Ob,Oc]
  .intro p u e;simp only[mV]at e;by_cases d:p<n*k
   .simp[d]at e;subst e;have g:0<k:=by grind
    have hi:p / k<n:=pQ (by grind);have hj:p % k<k:=j9 _ g;have l:=hk _ hi;have:=hm (p / k) hi (p % k) ((es (p / k))[p % k]'(by omega)) (br (by omega));refine⟨b,off,ha (Nat.lt_of_le_of_lt (ll _) hi),?_⟩;grind[Nat.div_add_mod']
   grind
def Rd.qV{M:Mem}{k n:Nat}{es:Nat->List C}{vs:List ah}(h:Flat M k n es vs){a:Option Addr}{b off cap:Nat}{t:Bool}(f:0<n->a=aa ⟨b,off,af⟩)(d:n<=cap)(g:cap<=9223372036854775807)(e:t=ab->cap=n)(l:∀p u,vs[p]?=aa u->M b (off+p)=aa u):Rd M (.slice a n cap) (.sl t k n es):=by
 refine .sl b off (λi j=>(vs[i*k+j]?).getD ai) d g e h.width f (λi hi j c hj=>?_) (λi hi j c hj=>?_)
 .obtain⟨v,h1,h2⟩:=h.rd i hi j c hj;grind
 .obtain⟨v,h1,h2⟩:=h.rd i hi j c hj;grind
def dX{P:aq}{σ:List aP}{s:St}(i:aE σ s){v:ah}{t:Bool}{k n:Nat}{es:Nat->List C}(h:Rd s.M v (.sl t k n es)):
  ∃vs,Flat s.M k n es vs/\(Builtin.firstCells k n v).run P s.w=.ok vs.toArray s.w/\Builtin.lenOf v=pure n:=by
 obtain⟨a,cap,vs,rfl,d,p,o,f,e⟩:=h.flat;refine⟨vs,f,?_,rfl⟩;have l:vs.length=n*k:=f.len;cases a with
 |none =>
  have:vs=[]:=by
   cases vs with
   |nil=>rfl
   |cons u q=>obtain⟨b,off,c,_⟩:=e 0 u rfl;cases c
  subst this;rfl
 |some ad =>
  simp only[Builtin.firstCells];rw[<-l];refine run_loadCells_list s.w ad vs λj u m=>?_;obtain⟨b,off,c,g⟩:=e j u m;cases c;rw[dq];exact i.mem _ _ _ g
def bG.Jy{P:aq}{T:List (Nat×TI)}(hT:cT P T){o:ar}{f:ak->D}{σ:List aP}{t:aj}{x y:ak}(h:o.op=.index t x y){l:List UInt8}{j:Int}{k:IntKind}{i:TI}{m:Nat}(hi:bD T t=aa i)(p:i.desc=.string)(u:f x=.e (.one (.c (.str l))))(r:f y=.e (.one (.c (.int k j))))(hj:j=m)(v:m<l.length):bG P o f σ (.e (.one (.c (.int .u8 (l[m]).toNat)))) σ:=by
 refine .quiet λs n hh hr=>?_;have h1:=hr x;have h2:=hr y;rw[u]at h1;rw[r]at h2;replace h1:=eY h1;replace h2:=eY h2;generalize a:n x=vx at h1;generalize d:n y=vy at h2;cases h1 with
 |@str sb _ q hl =>
 cases h2;subst q;have g:sb[m]?=aa (sb.data.toList[m]):=by
  have hm':m<sb.size:=by have e:sb.data.toList.length=sb.size:=jh;omega
  rw[getElem?_pos sb m hm'];congr 1
 refine⟨.int .u8 (sb.data.toList[m]).toNat,?_,Rd.int ?_,?_⟩
 rotate_left 2
 .have b:=(hT t i hi).run_underlying (w:=s.w);rw[p]at b;simp[av,h,a,d,Instr.index,asIntOf,b,hj,g]
 .have b:=(hT t i hi).run_underlying (w:=s.w);rw[p]at b;simp[av,h,a,d,Instr.index,asIntOf,b,hj,g]
 .have:=(sb.data.toList[m]).toNat_lt;simp only[bA];omega
def bG.indexAddr{P:aq}{T:List (Nat×TI)}(hT:cT P T){o:ar}{r:ak->D}{σ:List aP}{t:aj}{x y:ak}(h:o.op=.indexAddr t x y){i g:TI}{E:aj}(hi:bD T t=aa i)(I:i.desc=.slice E)(G:bD T E=aa g){tt:Bool}{n:Nat}{es:Nat->List C}{j:Int}{k:IntKind}{m:Nat}(J:∀s v,dn σ s v (r x)->Rd s.M v (.sl tt g.size n es))(H:r y=.e (.one (.c (.int k j))))(hj:j=m)(d:m<n):
  bG P o r σ (.e (.one (.c (.rp (es m))))) σ:=by
 refine .quiet λs B hh hr=>?_;have h1:=J s _ (hr x);have h2:=hr y;rw[H]at h2;replace h2:=eY h2;generalize l:B x=vx at h1;generalize z:B y=vy at h2;cases h2;cases h1 with
 |@sl a _ cap _ _ _ b off f A L K hk ha hm' MY =>
 have u:0<n:=by omega
 have F:=(hT t i hi).run_underlying (w:=s.w);rw[I]at F;refine⟨.pointer (aa ⟨b,off+m*g.size,af⟩),?_,Rd.rp b (off+m*g.size) (f m) (λq c p=>hm' m d q c p) (λq c p=>MY m d q c p),?_⟩<;>
 simp[av,h,l,z,Instr.indexAt,asIntOf,F,hj,ha u,(hT E g G).run_sizeOf,dq,d]
def bG.UB{P:aq}{T:List (Nat×TI)}(hT:cT P T){o:ar}{g:ak->D}{σ:List aP}{x:ak}{b:Array aj}{t:aj}(h:o.op=.call {callee:=.builtin .len,args:=#[x],argTypes:=b})(l:b[0]?=aa t){i:TI}{E:aj}(hi:bD T t=aa i)(p:i.desc=.slice E){tt:Bool}{k n:Nat}{es:Nat->List C}(q:∀s v,dn σ s v (g x)->Rd s.M v (.sl tt k n es)):bG P o g σ (.e (.one (.c (.int .i64 n)))) σ:=by
 refine .quiet λs r hh hr=>?_;obtain⟨a,cap,vs,m,f,u,_⟩:=(q s _ (hr x)).flat;have j:=(hT t i hi).run_underlying (w:=s.w);rw[p]at j;have d:b[0]?=aa t:=l;refine⟨.int .i64 n,?_,Rd.int (by simp only[bA];omega),?_⟩<;>
 simp[av,h,resolve,invoke,builtin,Builtin.len_,m,j,goInt,d]
theorem bG.Rn{P:aq}{T:List (Nat×TI)}(hT:cT P T){o:ar}{g:ak->D}{σ:List aP}{x:ak}{a:Array aj}{t:aj}(h:o.op=.call {callee:=.builtin .len,args:=#[x],argTypes:=a})(m:a[0]?=aa t){i:TI}(hi:bD T t=aa i)(p:i.desc=.string){l:List UInt8}(q:g x=.e (.one (.c (.str l)))):bG P o g σ (.e (.one (.c (.int .i64 l.length)))) σ:=by
 refine .quiet λs n hh hr=>?_;have h1:=hr x;rw[q]at h1;replace h1:=eY h1;generalize b:n x=vx at h1;cases h1 with
 |@str sb _ k hl =>
 have j:=(hT t i hi).run_underlying (w:=s.w);rw[p]at j;have d:a[0]?=aa t:=m;have f:sb.size=l.length:=by rw[<-k];exact jh.symm
 refine⟨.int .i64 l.length,?_,Rd.int (by simp only[bA];omega),?_⟩<;>
 simp[av,h,resolve,invoke,builtin,Builtin.len_,b,j,goInt,d,f]
def St.newRow(s:St)(E:aj)(vs:List ah):St :=
 {β:=s.β,M:=λb o=>if b=s.w.heap.size then vs[o]? else s.M b o,w:=s.w.alloc (.cells vs.toArray E),own:=s.own}
def aE.newRow{σ:List aP}{s:St}(h:aE σ s)(E:aj)(vs:List ah):aE σ (s.newRow E vs)/\Step σ s σ (s.newRow E vs):=by
 refine h.grow (by simp) (λb c=>cM _ _ c) (λb c o=>by grind) (λb c o v a=>?_) rfl rfl rfl;by_cases e:b=s.w.heap.size
 .subst e;simp at a;show aU (s.w.alloc (.cells vs.toArray E)) ⟨s.w.heap.size,o,af⟩=aa v;unfold aU;grind[dG]
 .simp only[e,b9]at a;have:=h.block a;omega
def HA(s:St)(E:aj)(vs:List ah):∀p u,vs[p]?=aa u->(s.newRow E vs).M s.w.heap.size (0+p)=aa u:=by intro p u h;simpa[St.newRow]using h
def gE:List A->Option (List C)
 |[]=>aa []
 |.c c::r=>match gE r with|some q=>aa (c::q)|none=>af
 |.vec _ k n es::r=>match gE r with|some q=>aa (.sl ae k n es::q)|none=>af
 |_::_=>af
def lP{σ:List aP}{s:St}:∀{cs:List A}{r:List C}{vs:List ah},gE cs=aa r->dW σ s vs cs->dW σ s vs (r.map A.c)
 |[],r,vs,h,a=>by cases h;exact a
 |_::_,_,[],_,a=>a.elim
 |.c c::al,r,v::vs,h,a=>by
  simp only[gE]at h;cases b:gE al with
  |none=>grind
  |some q=>simp[b]at h;subst h;exact⟨a.1,lP b a.2⟩
 |.vec l k n es::al,r,v::vs,h,a=>by
  simp only[gE]at h;cases b:gE al with
  |none=>grind
  |some q=>simp[b]at h;subst h;exact⟨a.1.1,lP b a.2⟩
 |.ptr l o::al,r,v::vs,h,a=>by simp[gE]at h
 |.ref l::al,r,v::vs,h,a=>by simp[gE]at h
 |.bp l w::al,r,v::vs,h,a=>by simp[gE]at h
 |.any::al,r,v::vs,h,a=>by simp[gE]at h
def tB{α:Type}(k:Nat):Nat->List α->Option (List (List α))
 |0,[]=>aa []
 |0,_::_=>af
 |n+1,l=>match oJ k l with
  |some c=>match tB k n (fO k l)with
   |some r=>aa (c::r)
   |none=>af
  |none=>af
def dW.closed{σ:List aP}{s:St}:∀{vs:List ah}{cs:List C},dW σ s vs (cs.map A.c)->∀(j:Nat)(c:C),cs[j]?=aa c->∃v,vs[j]?=aa v/\Rd s.M v c:=by intro vs cs h j c hj;obtain⟨v,h1,h2⟩:=h.get (j:=j) (a:=.c c) (by grind);exact⟨v,h1,h2⟩
def yw{M:Mem}{k:Nat}:∀{n:Nat}{cs:List C}{es:List (List C)}{vs:List ah},tB k n cs=aa es->vs.length=cs.length->(∀(j:Nat)(c:C),cs[j]?=aa c->∃v,vs[j]?=aa v/\Rd M v c)->es.length=n/\Flat M k n (λi=>es.getD i []) vs
 |0,[],es,vs,h,a,b=>by cases h;simp at a;subst a;exact⟨rfl,.nil⟩
 |0,_::_,es,vs,h,a,b=>by cases h
 |n+1,cs,es,vs,h,a,b=>by
  simp only[tB]at h;cases g:oJ k cs with
  |none=>grind
  |some c =>
   simp only[g]at h;cases d:tB k n (fO k cs)with
   |none=>grind
   |some q =>
    simp[d]at h;subst h;obtain⟨m,f⟩:=nn g;rw[l3]at d;obtain⟨r,p⟩:=yw (vs:=vs.drop k) d (by grind) (λj c o=>by
     obtain⟨v,m,f⟩:=b (k+j) c (by grind)
     exact⟨v,by grind,f⟩)
    refine⟨by grind,?_⟩;have hk:k<=cs.length:=by grind
    have l:Flat M k 1 (λ_=>c) (vs.take k):=by refine⟨by grind,by grind,λi hi j x o=>?_⟩;grind
    have:=l.append p;rw[Nat.add_comm 1 n]at this;have e:cE 1 (λ_=>c) (λi=>q.getD i [])=λi=>(c::q).getD i []:=by funext i;cases i<;>simp[cE]
    rw[e]at this;simpa using this
def NC(T:List (Nat×TI))(a:ak->D)(t:aj)(n:Nat)(parts:List (Nat×ak)):Option (Nat×List (List C)) :=
 match bD T t with
 |some i=>match i.desc with
  |.slice E=>match bD T E with
   |some ie=>match aA ie.size 0 with
    |true=>af
    |false=>match bw (n*ie.size) 16777216 with
     |true=>match py a parts with
      |some ps=>match yv (λk=>aa (k*ie.size,ie.size)) ps (List.replicate (n*ie.size) A.any)with
       |some cs=>match gE cs with
        |some r=>match tB ie.size n r with
         |some es=>aa (ie.size,es)
         |none=>af
        |none=>af
       |none=>af
      |none=>af
     |false=>af
   |none=>af
  |_=>af
 |none=>af
theorem bG.buildSlice{P:aq}{T:List (Nat×TI)}(hT:cT P T){o:ar}{R:ak->D}{σ:List aP}{t:aj}{n:Nat}{parts:Array (Nat×ak)}(h:o.op=.buildSlice t n parts){k:Nat}{es:List (List C)}(a:NC T R t n parts.toList=aa (k,es)):bG P o R σ (.e (.one (.c (.sl ab k n λi=>es.getD i [])))) σ:=by
 intro s K hh hr;unfold NC at a;cases hi:bD T t with
 |none=>grind
 |some i =>
  simp only[hi]at a;cases Y:i.desc with
  |slice E =>
   simp only[Y]at a;cases N:bD T E with
   |none=>grind
   |some ie =>
    simp only[N]at a;cases U:aA ie.size 0 with
    |true=>grind
    |false =>
     simp only[U]at a;cases l:bw (n*ie.size) 16777216 with
     |false=>grind
     |true =>
      simp only[l]at a;cases g:py R parts.toList with
      |none=>grind
      |some ps =>
       simp only[g]at a;cases B:yv (λk=>aa (k*ie.size,ie.size)) ps (List.replicate (n*ie.size) A.any)with
       |none=>grind
       |some cs =>
        simp only[B]at a;cases F:gE cs with
        |none=>grind
        |some r =>
         simp only[F]at a;cases y:tB ie.size n r with
         |none=>grind
         |some es' =>
          simp only[y,dr,lS]at a;obtain⟨rfl,rfl⟩:=a;have hz0:ie.size≠0:=λe=>by rw[e]at U;cases U
          have X:=cZ l;obtain⟨Z,z,z1,z2,z3,z4,V,z6,z7⟩:=(hT E ie N).info;have hzs:z.cells.size=ie.size:=by have:=dA List.length V;grind
          have hzc:∀v∈z.cells.toList,cJ v=ab:=by intro v L;have d:rY v∈z.cells.toList.map rY:=kB.2 ⟨v,L,rfl⟩;rw[V]at d;obtain⟨c,_,hc⟩:=kB.1 d;exact(Rd.rY (M:=s.M) hc.symm).cell
          have j:∀m,(∀v∈(bd m).map (λq=>z.cells[q % z.cells.size]!),cJ v=ab):=by grind[Nat.mod_lt]
          have I:∀vs:List ah,(∀v∈vs,cJ v=ab)->dW σ s vs (List.replicate vs.length A.any):=by
           intro vs;induction vs with
           |nil=>intro _;trivial
           |cons v vs ih=>intro L;exact⟨L v (by simp),ih λu J=>L u (by grind)⟩
          obtain⟨p1,p2⟩:=tA (σ:=σ) (s:=s) hr g;have O:dW σ s ((Array.range (n*ie.size)).map (λq=>z.cells[q % z.cells.size]!)).toList (List.replicate (n*ie.size) A.any):=by have:=I _ (j (n*ie.size));simpa using this
          obtain⟨G,u1,u2⟩:=wP (σ:=σ) (s:=s) (place':=λk=>aa (k*ie.size,ie.size)) (λk p hk=>hk) B p1 p2 O;have u3:=lP F u2;obtain⟨c1,c2⟩:=yw (M:=s.M) (vs:=G.toList) y (by simpa using u3.length) u3.closed;obtain⟨g1,W⟩:=hh.newRow E G.toList;refine⟨.value (.slice (aa ⟨s.w.heap.size,0,af⟩) n n),s.newRow E G.toList,?_,?_,g1,W,?_⟩
          rotate_left 2
          .have e:(av K o).events P s.w #[]=#[]:=by simp only[av,h];exact c9.bind c9.buildSlice (λ_=>c9.pure) _ _
           rw[e];exact .nil
          .have J:=(hT t i hi).run_underlying (w:=s.w);rw[Y]at J;have S:(zeroValue E).run P s.w=.ok z s.w:=by simp[zeroValue,typeInfo,z1,z4]
           have f:Instr.fill (λk=>aa (k*ie.size,ie.size)) ((Array.range (n*ie.size)).map (λq=>z.cells[q % z.cells.size]!)) (parts.map λ(i,x)=>(i,K x)).toList=aa G:=by simpa using u1
           by_cases h0:n*ie.size=0
           .have Q:n=0:=by grind[Nat.mul_eq_zero]
            subst Q;have H:Array.range 0=#[]:=rfl;simp[H]at f;simp[av,h,Instr.buildSlice,J,(hT E ie N).run_sizeOf,H,f,Go.newRow,St.newRow]
           .rw[show av K o=(do pure (.value (<-Instr.buildSlice t n (parts.map λ(i,x)=>(i,K x))))) by simp[av,h]];simp only[Instr.buildSlice,bO,J,bX,(hT E ie N).run_sizeOf,h0,b9,S,show¬n*ie.size>2 ^ 24 by omega,rO,f,dt];simp[Go.newRow,St.newRow]
          .refine Rd.qV (c2.mono W.mem) (b:=s.w.heap.size) (off:=0) (λ_=>rfl) (bg _) ?_ (λ_=>rfl) (HA s E G.toList);have:n<=n*ie.size:=uX n (by omega);omega
  |_=>grind
def Ext.trans{σ σ1 σ2:List aP}{s a s2:St}(h:Ext σ s σ1 a)(k:Ext σ1 a σ2 s2):Ext σ s σ2 s2:=by refine⟨λb o v m=>k.mem _ _ _ (h.mem _ _ _ m),λl B L hB hL=>?_⟩;obtain⟨B1,L1,h1,h2,c⟩:=h.box l B L hB hL;obtain⟨f,j,k1,n,e⟩:=k.box l B1 L1 h1 h2;exact⟨f,j,k1,n,c.trans e⟩
def gd{α:Type}{l:List α}{x y:α}{i:Nat}(h:(l++[x])[i]?=aa y):l[i]?=aa y∨(i=l.length/\y=x):=by grind
def aE.hO{σ:List aP}{s a:St}(h1:aE σ a)(st:Step σ s σ a)(p:a.β=s.β)(hh:aE σ s){B:aP}{L:Loc}(hB:et (σ++[B]) {a with β:=a.β++[L]} B L)(k:∀b∈L.bs,s.w.heap.size<=b/\b<a.w.heap.size):aE (σ++[B]) {a with β:=a.β++[L]}/\Step σ s (σ++[B]) {a with β:=a.β++[L]}:=by
 have ex:Ext σ a (σ++[B]) {a with β:=a.β++[L]}:=by refine⟨λ_ _ _ h=>h,λl B' L' jZ fj=>?_⟩;have hl:l<a.β.length:=(bZ.1 fj).1;have o:l<σ.length:=(bZ.1 jZ).1;exact⟨B',L',by grind,by grind,.refl _ _⟩
 have e2:=st.ext.trans ex;refine⟨⟨h1.mem,by simp[h1.len],?_,?_,?_,?_⟩,⟨st.size,st.fi,st.mem,st.iU,?_,e2.box,st.os,st.tape,st.output,st.own⟩⟩
 .intro l B' L' jZ fj;rcases gd jZ with m|⟨rfl,rfl⟩
  .have hl:l<a.β.length:=by rw[h1.len];grind
   rw[jw hl]at fj;exact(h1.box l B' L' m fj).carry ex h1.len λ_ _=>⟨rfl,λ_=>rfl⟩
  .rcases gd fj with j|⟨_,rfl⟩
   .have:=(bZ.1 j).1;rw[h1.len]at this;omega
   grind
 .intro l l' L1 L2 j n b c f;rcases gd j with k1|⟨rfl,rfl⟩<;>rcases gd n with q|⟨rfl,rfl⟩
  .exact h1.eB l l' L1 L2 k1 q b c f
  .have a1:=k b f;have a2:=hh.lt L1 (by grind) b c;omega
  .have a1:=k b c;have a2:=hh.lt L2 (by grind) b f;omega
  .rfl
 .intro L' fj b c;simp only[gb,ga]at fj;rcases fj with fj|rfl
  .exact h1.lt L' fj b c
  grind
 .intro b c;refine⟨(h1.own b c).1,λL' fj Nc=>?_⟩;simp only[gb,ga]at fj;rcases fj with fj|rfl
  .exact(h1.own b c).2 L' fj Nc
  .have e:=st.own;simp only at c;rw[e]at c;have:=(hh.own b c).1;grind
 grind
def aE.gB{σ:List aP}{s:St}{M':Mem}{w':az}(hh:aE σ s){l:Nat}{B B':aP}{L L':Loc}(q:σ[l]?=aa B)(h:s.β[l]?=aa L)(I:gA B L B' L')(y:s.w.heap.size<=w'.heap.size)(hk:∀b,b<s.w.heap.size->b∉L.bs->w'.heap[b]?=s.w.heap[b]?)(O:∀b,b<s.w.heap.size->b∉L.bs->∀o,M' b o=s.M b o)(m:∀b o v,s.M b o=aa v->M' b o=aa v)(K:∀b o v,M' b o=aa v->w'.cell? ⟨b,o,af⟩=aa v)(G:∀b∈L'.bs,(b∈L.bs∨s.w.heap.size<=b)/\b<w'.heap.size)(F:w'.os=s.w.os)(J:w'.tape=s.w.tape)(H:w'.output=s.w.output)(hB:et (σ.set l B') ⟨s.β.set l L',M',w',s.own⟩ B' L'):aE (σ.set l B') ⟨s.β.set l L',M',w',s.own⟩/\Step σ s (σ.set l B') ⟨s.β.set l L',M',w',s.own⟩:=by
 have A:l<σ.length:=(bZ.1 q).1;have z:l<s.β.length:=(bZ.1 h).1;have a:∀i X,(s.β.set l L')[i]?=aa X->(i=l/\X=L')∨(i≠l/\s.β[i]?=aa X):=by grind
 have ex:Ext σ s (σ.set l B') ⟨s.β.set l L',M',w',s.own⟩:=by
  refine⟨m,λi X Y c n=>?_⟩;by_cases e:l=i
  .grind
  .exact⟨X,Y,by grind,by grind,.refl _ _⟩
 have out:∀i X,i≠l->s.β[i]?=aa X->∀b∈X.bs,b<s.w.heap.size/\b∉L.bs:=by intro i X hi c b f;exact⟨hh.lt X (bJ c) b f,λr=>hi (hh.eB i l X L c h b f r)⟩
 refine⟨⟨K,by simp[hh.len],?_,?_,?_,?_⟩,⟨y,?_,m,?_,?_,ex.box,F,J,H,rfl⟩⟩
 .intro i X Y c n;rcases a i Y n with⟨rfl,rfl⟩|⟨hi,n⟩
  .grind
  .rw[j6 (λe=>hi e.symm)]at c;refine(hh.box i X Y c n).carry ex hh.len λb f=>?_;grind
 .intro i C X D c k b f x;rcases a i X c with⟨rfl,rfl⟩|⟨hi,p⟩<;>rcases a C D k with⟨rfl,rfl⟩|⟨u,j⟩
  .rfl
  .grind
  .grind
  .exact hh.eB i C X D p j b f x
 .intro X c b f;obtain⟨i,hi,rfl⟩:=dL c;rcases a i _ (br hi)with⟨rfl,e⟩|⟨u,k⟩
  .grind
  grind
 .intro b f;obtain⟨Q,N⟩:=hh.own b f;grind
 .grind
 .grind
 grind
def rQ{a old bytes:Nat}(h:old<a)(b:a*bytes<=140737488355328):¬Builtin.nextslicecap a old*bytes>2 ^ 48:=by have:=growslice_fits h b;omega
section
variable {P:aq}{T:List (Nat×TI)}(hT:cT P T){σ:List aP}{s:St}{t g ty E:aj}{i i2 d:TI}
def jb(hi:bE P t i)(v:i.desc=.slice E)(h:bE P g i2)(j:i2.desc=.slice E)(q:bE P E d)(r:aE σ s){a:Option Addr}{n cap:Nat}(b:n<=cap){x:ah}{tx:Bool}{es':Nat->List C}(o:Rd s.M x (.sl tx d.size 0 es')):
  (Builtin.append_ #[t,g] ty #[.slice a n cap,x]).run P s.w=.ok (.slice a n cap) s.w:=by obtain⟨c,u,p,l⟩:=dX (P:=P) r o;have m:=hi.run_underlying (w:=s.w);have e:=h.run_underlying (w:=s.w);rw[v]at m;rw[j]at e;obtain⟨a',k,vs,rfl,_⟩:=o.flat;have f:c=[]:=jf (by simpa using u.len);subst f;cases a<;>simp[Builtin.append_,m,e,q.run_sizeOf,Builtin.lenOf,b,p,storeCells]
def iu(hi:bE P t i)(Y:i.desc=.slice E)(H:bE P g i2)(F:i2.desc=.slice E)(N:bE P E d)(V:aE σ s){a:Option Addr}{n cap m:Nat}{td tx:Bool}{es es':Nat->List C}{x:ah}(X:Rd s.M (.slice a n cap) (.sl td d.size n es))(hx:Rd s.M x (.sl tx d.size m es'))(S:cap<n+m)(O:(n+m)*d.bytes<=140737488355328)(I:d.bytes≠0):
  ∃vs zs Nd,Flat s.M d.size (n+m) (cE n es es') vs/\n+m<=Nd/\Nd<=9223372036854775807/\(vs++zs).length=Nd*d.size /\
   (Builtin.append_ #[t,g] ty #[.slice a n cap,x]).run P s.w=.ok (.slice (aa ⟨s.w.heap.size,0,af⟩) (n+m) Nd) (s.w.drew.alloc (.cells (vs++zs).toArray E)):=by
 have o:aE σ {s with w:=s.w.drew}:=V.same rfl;obtain⟨c,J,G,k⟩:=dX (P:=P) o (v:=x) hx;obtain⟨b,p,h,U⟩:=dX (P:=P) o (v:=.slice a n cap) X;have K:=hi.run_underlying (w:=s.w);have r:=H.run_underlying (w:=s.w);rw[Y]at K;rw[F]at r;obtain⟨j,z,L,z2,z3,Q,R,z6,z7⟩:=N.info;have W:n+m<=140737488355328:=im (uX _ (Nat.pos_of_ne_zero I)) O;have B:z.cells.size=d.size:=by have:=dA List.length R;grind
 refine⟨b++c,(Builtin.zeroCells z.cells (grownCap s.w (n+m) cap E-(n+m))).toList,grownCap s.w (n+m) cap E,p.append J,grownCap_ge _ _ _ _,?_,?_,?_⟩
 .have:=grownCap_le_maxLen s.w (n+m) cap E (by unfold maxLen;omega);unfold maxLen at this;omega
 .have QY:=grownCap_ge s.w (n+m) cap E;simp only[cA,p.len,J.len,jh,size_zeroCells,B,<-ir];grind
 .have ZO:=rQ S O;have q:¬Builtin.nextslicecap (n+m) cap*j.bytes>2 ^ 48:=by grind
  have l:¬n+m<=cap:=by omega
  have y:¬((n+m:Nat):Int)>IntKind.i64.max:=by have e:IntKind.i64.max=9223372036854775807:=rfl;grind
  have D:∀u,(typeInfo E).run P u=.ok j u:=λu=>by simp[typeInfo,L]
  have A:∀u,(zeroValue E).run P u=.ok z u:=λu=>by simp[zeroValue,typeInfo,L,Q]
  have f:(Builtin.lenOf x).run P s.w=.ok m s.w:=by rw[k];rfl
  replace G:(Builtin.firstCells d.size m x).run P s.w.drew=.ok c.toArray s.w.drew:=G;replace h:(Builtin.firstCells d.size n (.slice a n cap)).run P s.w.drew=.ok b.toArray s.w.drew:=h
  unfold Builtin.append_;simp only[ij,lb,nY,bO,K,r,bX,N.run_sizeOf,dt,jy,b9,f,l,
   y,false_and,D,q,run_choose,Question.forced,run_askRoom,rO,World.drew_eq,h,G,og,cn,A]
  simp[Go.newRow,grownCap];have e:∀Z:Array ah,(b++c).toArray++Z=(b++(c++Z.toList)).toArray:=λZ=>by grind
  rw[e];rfl
def kg(hi:bE P t i)(B:i.desc=.slice E)(p:bE P g i2)(o:i2.desc=.slice E)(D:bE P E d)(y:aE σ s){b n cap m:Nat}{v:aj}{c:List ah}(A:s.w.heap[b]?=aa (.cells c.toArray v (0,0)))(h:c.length=cap*d.size){tx:Bool}{es':Nat->List C}{x:ah}(F:Rd s.M x (.sl tx d.size m es'))(q:n+m<=cap):
  ∃a,Flat s.M d.size m es' a/\(Builtin.append_ #[t,g] ty #[.slice (aa ⟨b,0,af⟩) n cap,x]).run P s.w=.ok (.slice (aa ⟨b,0,af⟩) (n+m) cap) (s.w.setRow b (c.take (n*d.size)++a++c.drop (n*d.size+a.length)).toArray):=by
 obtain⟨a,l,z,f⟩:=dX (P:=P) y F;have r:=hi.run_underlying (w:=s.w);have k:=p.run_underlying (w:=s.w);rw[B]at r;rw[o]at k;have u:n*d.size+a.length<=c.length:=by rw[l.len,h,<-ir];exact eC _ q
 have j:=run_storeCells_at P b (n*d.size) v a 0 c.toArray s.w A (by grind) l.cell;simp only[iq]at j;have e:(Builtin.lenOf x).run P s.w=.ok m s.w:=by rw[f];rfl
 refine⟨a,l,?_⟩;unfold Builtin.append_;simp only[ij,lb,nY,bO,r,k,bX,D.run_sizeOf,dt,jy,b9,e,q,cn,og,z,dq,bC,j]
end
def Dy{α:Type}{P:aq}{x:Sem α}{w:az}{es:Array Event}{e:Event}(h:e∈x.events P w es):e∈es∨e∈x.events P w #[]:=by grind[Sem.events_acc]
def ZP(s:St)(e:Event):Prop:=∃b o u,e=zt b o/\s.M b o=aa u
def g8{P:aq}{σ:List aP}{s:St}(r:aE σ s){v:ah}{t:Bool}{k n:Nat}{es:Nat->List C}(h:Rd s.M v (.sl t k n es)){w:az}(D:w.heap=s.w.heap):
  ∀e∈(Builtin.firstCells k n v).events P w #[],ZP s e:=by
 obtain⟨a,cap,vs,rfl,q,G,F,z,x⟩:=h.flat;have H:vs.length=n*k:=z.len;intro e f;cases a with
 |none=>simp[Builtin.firstCells]at f
 |some ad =>
  simp only[Builtin.firstCells]at f;have c:∀j,j<n*k->∃b off u,ad=⟨b,off,af⟩/\s.M b (off+j)=aa u:=by intro j o;obtain⟨b,off,I,m⟩:=x j (vs[j]'(by omega)) (br (by omega));grind
  by_cases A:n*k=0
  .rw[A]at f;simp[loadCells,loadCellsFrom]at f
  .obtain⟨b,off,_,rfl,_⟩:=c 0 (by omega);have y:∀j,j<n*k->∃v,w.cell? ⟨b,off+j,af⟩=aa v:=by intro j o;obtain⟨B,l,u,p,m⟩:=c j o;cases p;have:=r.mem _ _ _ m;exact⟨u,by simp only[aU,D]at this⊢;exact this⟩
   rcases rR (P:=P) y e f with h|⟨j,o,rfl⟩
   .grind
   .obtain⟨B,l,u,p,m⟩:=c j o;cases p;exact⟨_,_,u,rfl,m⟩
theorem s9{s:St}{e:Event}(h:ZP s e):oh s e:=by obtain⟨b,o,u,rfl,a⟩:=h;exact Bg a
section
variable {P:aq}{σ:List aP}{s:St}{t g ty E:aj}{i i2 d:TI}
def jB(hi:bE P t i)(A:i.desc=.slice E)(j:bE P g i2)(l:i2.desc=.slice E)(y:bE P E d)(p:aE σ s){a:Option Addr}{n cap:Nat}(b:n<=cap){x:ah}{tx:Bool}{es':Nat->List C}(m:Rd s.M x (.sl tx d.size 0 es')):
  fb s ((Builtin.append_ #[t,g] ty #[.slice a n cap,x]).events P s.w #[]):=by obtain⟨c,z,u,q⟩:=dX (P:=P) p m;have k:=g8 (P:=P) p m (w:=s.w) rfl;have r:=hi.run_underlying (w:=s.w);have f:=j.run_underlying (w:=s.w);rw[A]at r;rw[l]at f;obtain⟨a',o,vs,rfl,_⟩:=m.flat;have h:c=[]:=jf (by simpa using z.len);subst h;intro e v;refine s9 (k e ?_);cases a<;>simpa[Builtin.append_,r,f,y.run_sizeOf,Builtin.lenOf,b,u,storeCells]using v
def iV(hi:bE P t i)(hd:i.desc=.slice E)(N:bE P g i2)(K:i2.desc=.slice E)(V:bE P E d)(I:aE σ s){a:Option Addr}{n cap m:Nat}{td tx:Bool}{es es':Nat->List C}{x:ah}(U:Rd s.M (.slice a n cap) (.sl td d.size n es))(X:Rd s.M x (.sl tx d.size m es'))(Z:cap<n+m)(W:(n+m)*d.bytes<=140737488355328)(O:d.bytes≠0):
  fb s ((Builtin.append_ #[t,g] ty #[.slice a n cap,x]).events P s.w #[]):=by
 have A:aE σ {s with w:=s.w.drew}:=I.same rfl;obtain⟨y,hF,L,b⟩:=dX (P:=P) A (v:=x) X;obtain⟨p,hFo,l,hlo⟩:=dX (P:=P) A (v:=.slice a n cap) U;have Ha:=g8 (P:=P) I X (w:=s.w.drew) rfl;have Q:=g8 (P:=P) I U (w:=s.w.drew) rfl;have R:=hi.run_underlying (w:=s.w);have D:=N.run_underlying (w:=s.w);rw[hd]at R;rw[K]at D;obtain⟨f,z,S,z2,z3,Y,z5,z6,z7⟩:=V.info;have hle:n+m<=140737488355328:=im (uX _ (Nat.pos_of_ne_zero O)) W;have ZO:=rQ Z W;have B:¬Builtin.nextslicecap (n+m) cap*f.bytes>2 ^ 48:=by grind
 have q:¬n+m<=cap:=by omega
 have F:¬((n+m:Nat):Int)>IntKind.i64.max:=by have e:IntKind.i64.max=9223372036854775807:=rfl;grind
 have J:∀u,(typeInfo E).run P u=.ok f u:=λu=>by simp[typeInfo,S]
 have H:∀u,(zeroValue E).run P u=.ok z u:=λu=>by simp[zeroValue,typeInfo,S,Y]
 have j:(Builtin.lenOf x).run P s.w=.ok m s.w:=by rw[b];rfl
 have k:(Builtin.lenOf x).events P s.w #[]=#[]:=by rw[b];rfl
 replace L:(Builtin.firstCells d.size m x).run P s.w.drew=.ok y.toArray s.w.drew:=L;replace l:(Builtin.firstCells d.size n (.slice a n cap)).run P s.w.drew=.ok p.toArray s.w.drew:=l
 intro e o;unfold Builtin.append_ at o;simp only[ij,lb,nY,aK,bO,R,D,bX,aO,V.run_sizeOf,dt,jy,b9,j,k,q,
  F,false_and,J,B,run_choose,Question.forced,run_askRoom,rO,Sem.events_ite,World.drew_eq,l,L,og,cn,H,events_underlying,events_sizeOf,events_typeInfo,events_choose,events_zeroValue,Sem.events_pure]at o
 have G:∀(x:Nat) (w:az) (e:Event),e∈(askRoom x).events P w #[]->e=⟨.mark .noRoom,ae,ab⟩:=by intro x w e h;unfold askRoom at h;simp_all
 rw[c9.newRow (P:=P)]at o;generalize(Go.newRow E _).run P s.w.drew=r at o;have c:e∈(Builtin.firstCells d.size m x).events P s.w.drew ((Builtin.firstCells d.size n (.slice a n cap)).events P s.w.drew ((askRoom ((Question.appendCap (n+m) cap E).cut (s.w.tape s.w.drawn (Question.appendCap (n+m) cap E))*f.bytes)).events P s.w.drew #[])):=by
  cases r with
  |ok v w'=>simpa using o
  |halt v w'=>simpa using o
 rcases Dy c with c|c
 .rcases Dy c with c|c
  .rw[G _ _ _ c];exact .inl rfl
  grind[s9]
 grind[s9]
def lT(hi:bE P t i)(Q:i.desc=.slice E)(A:bE P g i2)(z:i2.desc=.slice E)(R:bE P E d)(D:aE σ s){b n cap m:Nat}{I:aj}{a:List ah}(G:s.w.heap[b]?=aa (.cells a.toArray I (0,0)))(p:a.length=cap*d.size){tx:Bool}{es':Nat->List C}{x:ah}(J:Rd s.M x (.sl tx d.size m es'))(B:n+m<=cap){L:Loc}(U:L∈s.β)(K:b∈L.bs)(v:∀o,n*d.size<=o->s.M b o=af):
  fb s ((Builtin.append_ #[t,g] ty #[.slice (aa ⟨b,0,af⟩) n cap,x]).events P s.w #[]):=by
 obtain⟨c,y,O,f⟩:=dX (P:=P) D J;have N:=g8 (P:=P) D J (w:=s.w) rfl;have F:=hi.run_underlying (w:=s.w);have r:=A.run_underlying (w:=s.w);rw[Q]at F;rw[z]at r;have H:n*d.size+c.length<=a.length:=by rw[y.len,p,<-ir];exact eC _ B
 have q:=run_storeCells_at P b (n*d.size) I c 0 a.toArray s.w G (by grind) y.cell;simp only[iq]at q;have k:(Builtin.lenOf x).run P s.w=.ok m s.w:=by rw[f];rfl
 have l:(Builtin.lenOf x).events P s.w #[]=#[]:=by rw[f];rfl
 intro e u;unfold Builtin.append_ at u;simp only[ij,lb,nY,aK,bO,F,r,aO,R.run_sizeOf,dt,jy,b9,k,l,B,cn,og,O,dq,bC,q,
  rO,Sem.events_ite,events_underlying,events_sizeOf,Sem.events_pure]at u
 rcases dE c 0 a.toArray s.w _ G (by grind) y.cell e u with h|⟨j,S,V,rfl⟩
 .grind [s9]
 grind[jC]
end
structure lA(P:aq)(o:ar)(x y:ak)(E:aj)(d:TI):Prop where
 op:∃t g i i2,o.op=.call {callee:=.builtin .append,args:=#[x,y],argTypes:=#[t,g]}/\bE P t i/\i.desc=.slice E/\bE P g i2/\i2.desc=.slice E
 elem:bE P E d
 bytes:d.bytes≠0
 size:d.size≠0
def St.grown(s:St)(E:aj)(vs zs:List ah)(β:List Loc):St :=
 {β:=β,M:=λb o=>if b=s.w.heap.size then vs[o]? else s.M b o,w:=s.w.drew.alloc (.cells (vs++zs).toArray E),own:=s.own}
def yi{σ:List aP}{s:St}(h:aE σ s)(E:aj)(vs zs:List ah):∀b o v,(if b=s.w.heap.size then vs[o]? else s.M b o)=aa v->(s.w.drew.alloc (.cells (vs++zs).toArray E)).cell? ⟨b,o,af⟩=aa v:=by
 intro b o v a;by_cases e:b=s.w.heap.size
 .subst e;simp only[cn]at a;unfold aU;have:(s.w.drew.alloc (.cells (vs++zs).toArray E)).heap[s.w.heap.size]?=aa (.cells (vs++zs).toArray E):=dG s.w.drew _;grind
 .simp only[e,b9]at a;have c:=h.block a;rw[<-h.mem b o v a];unfold aU;have:(s.w.drew.alloc (.cells (vs++zs).toArray E)).heap[b]?=s.w.heap[b]?:=cM s.w.drew _ c;grind
def yj{σ:List aP}{s:St}(h:aE σ s)(vs:List ah):∀b o v,s.M b o=aa v->(if b=s.w.heap.size then vs[o]? else s.M b o)=aa v:=by intro b o v a;have:=h.block a;grind
theorem eJ{P:aq}{s:St}{m:Sem ah}(h:fb s (m.events P s.w #[])):fb s ((do pure (.value (<-m)):Sem Next).events P s.w #[]):=by simp_all
theorem dj{o:ar}{x y:ak}{t g:aj}(h:o.op=.call {callee:=.builtin .append,args:=#[x,y],argTypes:=#[t,g]})(a:ak->ah):
  av a o=(do pure (.value (<-Builtin.append_ #[t,g] o.type #[a x,a y]))):=by simp[av,h,resolve,invoke,builtin]
def Rd.loose{M:Mem}{v:ah}{t:Bool}{k n:Nat}{es:Nat->List C}(h:Rd M v (.sl t k n es)):Rd M v (.sl ae k n es):=by
 cases h with
 |sl b off f a c e hk ha hm hr=>exact .sl b off f a c (by simp) hk ha hm hr
def Rd.Dw{M:Mem}{v:ah}{t:Bool}{k n:Nat}{es es':Nat->List C}(m:∀i,i<n->es i=es' i)(h:Rd M v (.sl t k n es)):Rd M v (.sl t k n es'):=by
 cases h with
 |sl b off f a e l hk ha hm hr=>exact .sl b off f a e l (λi hi=>by grind) ha (λi hi j c hj=>hm i hi j c (by grind)) (λi hi j c hj=>hr i hi j c (by grind))
def Rd.u9{M:Mem}{v:ah}{k k' n:Nat}{es:Nat->List C}(hk:k=k'∨n=0)(h:Rd M v (.sl ab k n es)):Rd M v (.sl ab k' n es):=by
 rcases hk with rfl|rfl
 .exact h
 .obtain⟨a,cap,vs,e,c,b,f,_⟩:=h.flat;grind[Rd.jD]
def qb{σ:List aP}{s:St}{l:Nat}{E:aj}{k n:Nat}{es:Nat->List C}{L:Loc}(hB:σ[l]?=aa (.vec E k n es))(a:s.β[l]?=aa L)(h:et σ s (.vec E k n es) L):gu σ s L.v (.vec l k n es):=by refine⟨h.1,(bZ.1 hB).1,λb k' n' es' he=>?_⟩;grind
def bG.o7{P:aq}{o:ar}{N:ak->D}{σ:List aP}{x y:ak}{E:aj}{d:TI}(h:lA P o x y E d){n m k:Nat}{tx:Bool}{es es':Nat->List C}(hx:N x=.e (.one (.c (.sl ab k n es))))(hk:k=d.size∨n=0)(hy:∀s v,dn σ s v (N y)->Rd s.M v (.sl tx d.size m es'))(A:(n+m)*d.bytes<=140737488355328)(hz:n=0∨0<m):
  bG P o N σ (.e (.one (.vec σ.length d.size (n+m) (cE n es es')))) (σ++[.vec E d.size (n+m) (cE n es es')]):=by
 intro s ρ hh hr;obtain⟨t,g,i,i2,L,hi,J,z,r⟩:=h.op;have h1:=hr x;rw[hx]at h1;have f:=Rd.u9 hk (eY h1);have h2:=hy s _ (hr y);obtain⟨a,cap,vs,hv,B,Z,ht,hF,W⟩:=f.flat;have Q:cap=n:=ht rfl;subst Q;rw[dj L];rw[hv]at f⊢;by_cases X:m=0
 .subst X;have q:=jb (P:=P) (ty:=o.type) hi J z r h.elem hh (a:=a) B h2;simp only[iq];have f:=Rd.Dw (es':=cE cap es es') (λi hi=>by grind) f;have hB:et (σ++[.vec E d.size cap (cE cap es es')]) {s with β:=s.β++[⟨.slice a cap cap,[]⟩]} (.vec E d.size cap (cE cap es es')) ⟨.slice a cap cap,[]⟩:=⟨f.loose,.inl ⟨⟨rfl,by omega⟩,f⟩⟩
  obtain⟨R,O⟩:=hh.hO (.refl _ _) rfl hh hB (by simp);refine⟨.value (.slice a cap cap),_,?_,?_,R,O,eJ (jB hi J z r h.elem hh B h2)⟩
  .simp[q]
  .exact qb (by simp) (by simp[<-hh.len]) hB
 .have V:cap<cap+m:=by omega
  obtain⟨j,G,l,I,U,K,H,q⟩:=iu (P:=P) (ty:=o.type) hi J z r h.elem hh f h2 V A h.bytes;have F:aE σ (s.grown E j G s.β)/\Step σ s σ (s.grown E j G s.β) :=
   hh.grow (by simp) (λb A=>cM s.w.drew _ A) (λb A o=>by grind)
    (λb A o v W=>yi hh E j G b o v W) rfl rfl rfl
  have S:Rd (s.grown E j G s.β).M (.slice (aa ⟨s.w.heap.size,0,af⟩) (cap+m) l) (.sl ae d.size (cap+m) (cE cap es es')) :=
   Rd.qV (I.mono F.2.mem) (b:=s.w.heap.size) (off:=0) (λ_=>rfl) U K (by simp) (λp u Y=>by simpa[St.grown]using Y)
  have hB:et (σ++[.vec E d.size (cap+m) (cE cap es es')]) {(s.grown E j G s.β)with β:=(s.grown E j G s.β).β++[⟨.slice (aa ⟨s.w.heap.size,0,af⟩) (cap+m) l,[s.w.heap.size]⟩]} (.vec E d.size (cap+m) (cE cap es es')) ⟨.slice (aa ⟨s.w.heap.size,0,af⟩) (cap+m) l,[s.w.heap.size]⟩:=by
   refine⟨S,.inr ⟨s.w.heap.size,l,j++G,rfl,dG s.w.drew _,H,λo L=>?_⟩⟩;have hl:j.length<=o:=by rw[I.len];exact L
   simp[St.grown,rH hl]
  obtain⟨R,O⟩:=F.1.hO F.2 rfl hh hB (λb A=>by simp at A;subst A;refine⟨bg _,?_⟩;simp[St.grown])
  refine⟨.value (.slice (aa ⟨s.w.heap.size,0,af⟩) (cap+m) l),_,?_,?_,R,O,eJ (iV hi J z r h.elem hh f h2 V A h.bytes)⟩
  .simp[q];rfl
  .exact qb (by simp) (by simp[St.grown,<-hh.len]) hB
def bG.Hb{P:aq}{o:ar}{η:ak->D}{σ:List aP}{x y:ak}{E:aj}{d:TI}(h:lA P o x y E d){l n m:Nat}{tx:Bool}{es es':Nat->List C}(hx:η x=.e (.one (.vec l d.size n es)))(hl:σ[l]?=aa (.vec E d.size n es))(hy:∀s v,dn σ s v (η y)->Rd s.M v (.sl tx d.size m es'))(O:(n+m)*d.bytes<=140737488355328):
  bG P o η σ (.e (.one (.vec l d.size (n+m) (cE n es es')))) (σ.set l (.vec E d.size (n+m) (cE n es es'))):=by
 intro s ρ hh hr;obtain⟨t,g,i,i2,Z,hi,hd,I,H⟩:=h.op;have QZ:l<σ.length:=(bZ.1 hl).1;have h1:=hr x;rw[hx]at h1;obtain⟨S,_,h1v⟩:=h1;obtain⟨L,U,hv⟩:=(h1v _ _ _ _ hl).2 rfl;have h2:=hy s _ (hr y);have Q0:l<s.β.length:=(bZ.1 U).1;have Q:=hh.box l _ L hl U;obtain⟨a,cap,vs,Nf,V,Ng,ht,hF,hm⟩:=S.flat;rw[dj Z,Nf];rw[Nf]at S;have R:L.v=.slice a n cap:=by grind
 by_cases h0:m=0
 .subst h0;have A:=jb (P:=P) (ty:=o.type) hi hd I H h.elem hh (a:=a) V h2;simp only[iq];have ha:∀i,i<n->es i=cE n es es' i:=λi hi=>by simp[cE,hi]
  have WT:et (σ.set l (.vec E d.size n (cE n es es'))) ⟨s.β.set l L,s.M,s.w,s.own⟩ (.vec E d.size n (cE n es es')) L:=by
   refine⟨Q.1.Dw ha,?_⟩;rcases Q.2 with⟨h3,h4⟩|h3
   .exact .inl ⟨h3,h4.Dw ha⟩
   grind
  have f:=hh.gB (M':=s.M) (w':=s.w) (B':=.vec E d.size n (cE n es es')) (L':=L) hl U ⟨λ_=>rfl,bg _⟩ (bg _) (λ_ _ _=>rfl) (λ_ _ _ _=>rfl) (λ_ _ _ h=>h) hh.mem
   (λb O=>⟨.inl O,hh.lt L (bJ U) b O⟩) rfl rfl rfl WT
  refine⟨.value (.slice a n cap),_,?_,?_,f.1,f.2,eJ (jB hi hd I H h.elem hh V h2)⟩
  .simp[A]
  .rw[<-R];exact qb (E:=E) (by grind) (by grind) WT
 .have K:¬(n+m=n):=by omega
  by_cases k:n+m<=cap
  .rcases Q.2 with⟨Ud,B⟩|⟨b,Nh,q,rfl,hw,N,W⟩
   .rw[R]at B;obtain⟨_,_,_,e,_,_,ht2,_⟩:=B.flat;grind
   .simp only at R;cases R;obtain⟨c,MV,A⟩:=kg (P:=P) (ty:=o.type) hi hd I H h.elem hh hw N h2 k;have TG:c.length=m*d.size:=MV.len;have Xy:b<s.w.heap.size:=(ig.1 hw).1;let M':Mem:=λF o=>if F=b/\n*d.size<=o/\o<(n+m)*d.size then c[o-n*d.size]? else s.M F o;have Dz:q.length=cap*d.size:=N;have hnm:(n+m)*d.size=n*d.size+m*d.size:=ir _ _ _;have ZQ:(n+m)*d.size<=cap*d.size:=eC _ k;have Ue:∀F o v,s.M F o=aa v->M' F o=aa v:=by grind
    have QX:∀p u,c[p]?=aa u->M' b (n*d.size+p)=aa u:=by grind
    have Y:Rd M' (.slice (aa ⟨b,0,af⟩) (n+m) cap) (.sl ae d.size (n+m) (cE n es es')):=by refine Rd.qV (vs:=vs++c) ((hF.append MV).mono Ue) (b:=b) (off:=0) (λ_=>rfl) k Ng (by simp) (λp u hp=>?_);have PN:vs.length=n*d.size:=hF.len;grind
    have f:=hh.gB (M':=M') (w':=s.w.setRow b (q.take (n*d.size)++c++q.drop (n*d.size+c.length)).toArray) (B':=.vec E d.size (n+m) (cE n es es')) (L':=⟨.slice (aa ⟨b,0,af⟩) (n+m) cap,[b]⟩) hl U
     ⟨λe=>absurd e K,by omega⟩ (by simp) (λF _ G=>setRow_other _ _ _ _ (by grind)) (λF _ G o=>by
      grind) Ue ?_ (λF G=>by simp at G;subst G;exact⟨.inl (by simp),by simpa using Xy⟩) rfl rfl rfl ?_
    .refine⟨.value (.slice (aa ⟨b,0,af⟩) (n+m) cap),_,?_,?_,f.1,f.2,eJ (lT hi hd I H h.elem hh hw N h2 k (bJ U) (by simp) W)⟩
     .simp[A]
     .exact qb (L:=⟨.slice (aa ⟨b,0,af⟩) (n+m) cap,[b]⟩) (E:=E) (by grind) (by grind) (f.1.box l _ _ (by grind) (by grind))
    .intro F o v J;by_cases G:F=b
     .subst G;have X:∀j,(s.w.setRow F (q.take (n*d.size)++c++q.drop (n*d.size+c.length)).toArray).cell? ⟨F,j,af⟩=(q.take (n*d.size)++c++q.drop (n*d.size+c.length))[j]?:=by grind[cell_setRow_same]
      rw[X];simp only[M']at J;have hkl:(q.take (n*d.size)).length=n*d.size:=by rw[List.length_take];omega
      split at J
      .grind
      .rename_i hc;have h3:=hh.mem F o v J;have Z:o<n*d.size:=by grind
       rw[lR,jw (by omega),iN,bl Z];simp only[aU,hw]at h3;grind
     .simp only[M']at J;rw[aY (by omega)]at J;rw[<-hh.mem F o v J];simp only[aU];grind[setRow_other]
    .refine⟨Y,.inr ⟨b,cap,_,rfl,setRow_heap _ _ _ _ _ _ hw,?_,λo Z=>?_⟩⟩
     .grind
     grind
  .have hg:cap<n+m:=by omega
   obtain⟨r,zs,z,Uc,TH,WU,hlen,A⟩:=iu (P:=P) (ty:=o.type) hi hd I H h.elem hh S h2 hg O h.bytes;have hbl:∀b∈L.bs,b<s.w.heap.size:=hh.lt L (bJ U);have Y:Rd (λb o=>if b=s.w.heap.size then r[o]? else s.M b o) (.slice (aa ⟨s.w.heap.size,0,af⟩) (n+m) z) (.sl ae d.size (n+m) (cE n es es')) :=
    Rd.qV (Uc.mono (yj hh r)) (b:=s.w.heap.size) (off:=0) (λ_=>rfl) TH WU (by simp) (λp u hp=>by grind)
   have f:=hh.gB (M':=λb o=>if b=s.w.heap.size then r[o]? else s.M b o) (w':=s.w.drew.alloc (.cells (r++zs).toArray E)) (B':=.vec E d.size (n+m) (cE n es es')) (L':=⟨.slice (aa ⟨s.w.heap.size,0,af⟩) (n+m) z,[s.w.heap.size]⟩) hl U
    ⟨λe=>absurd e K,by omega⟩ (by simp) (λb O _=>cM s.w.drew _ O) (λb O _ o=>by grind) (yj hh r) (yi hh E r zs) (λb O=>by
     simp at O;subst O;exact⟨.inr (bg _),by simp⟩) rfl rfl rfl ⟨Y,.inr ⟨s.w.heap.size,z,r++zs,rfl,dG s.w.drew _,hlen,λo Z=>by
      have hl:r.length<=o:=by rw[Uc.len];exact Z
      grind⟩⟩
   refine⟨.value (.slice (aa ⟨s.w.heap.size,0,af⟩) (n+m) z),_,?_,?_,f.1,f.2,eJ (iV hi hd I H h.elem hh S h2 hg O h.bytes)⟩
   .simp[A]
   .exact qb (L:=⟨.slice (aa ⟨s.w.heap.size,0,af⟩) (n+m) z,[s.w.heap.size]⟩) (E:=E) (by grind) (by grind) (f.1.box l _ _ (by grind) (by grind))
section
open Go.Conc (G)
def jH{α:Type}:List Nat->List α->Option (List α)
 |[],_=>aa []
 |k::ks,l=>match dw k l with
  |some x=>match jH ks l with
   |some r=>aa (x::r)
   |none=>af
  |none=>af
def fp{α:Type}:∀(n:Nat)(l:List α),dw n l=l[n]?
 |_,[]=>by simp[dw]
 |0,x::_=>by simp[dw]
 |n+1,_::xs=>by simpa[dw]using fp n xs
def iI{α:Type}:∀{ks:List Nat}{l r:List α},jH ks l=aa r->r.length=ks.length/\∀(j k:Nat),ks[j]?=aa k->∃x,r[j]?=aa x/\l[k]?=aa x
 |[],l,r,h=>by cases h;simp
 |k::ks,l,r,h=>by
  simp only[jH]at h;cases b:dw k l with
  |none=>grind
  |some x =>
   cases a:jH ks l with
   |none=>grind
   |some q =>
    simp[b,a]at h;subst h;obtain⟨d,c⟩:=iI a;grind[b5]
def vM{α c:Type}:∀{ks:List Nat}{l r:List α}{l':List c},jH ks l=aa r->l'.length=l.length->∃r',jH ks l'=aa r'
 |[],l,r,l',_,_=>⟨[],rfl⟩
 |k::ks,l,r,l',h,b=>by
  simp only[jH]at h;cases e:dw k l with
  |none=>grind
  |some x =>
   cases d:jH ks l with
   |none=>grind
   |some q =>
    obtain⟨r',a⟩:=vM (l':=l') d b;have hk:k<l'.length:=by rw[b];exact(bZ.1 (b5 e)).1
    exact⟨l'[k]::r',by simp[jH,fp,hk,a]⟩
def oQ(ks:List Nat):A->A
 |.ptr l o=>match dw l ks with|some k=>.ptr k o|none=>.any
 |.vec l k n es=>match dw l ks with|some m=>.vec m k n es|none=>.c (.sl ae k n es)
 |.ref l=>match dw l ks with|some k=>.ref k|none=>.any
 |.bp l w=>match dw l ks with|some k=>.bp k w|none=>.any
 |.c x=>.c x
 |.any=>.any
def Br(ks:List Nat):List A->List A
 |[]=>[]
 |a::r=>oQ ks a::Br ks r
def zz(ks:List Nat):E1->E1
 |.one a=>.one (oQ ks a)
 |.agg cs=>.agg (Br ks cs)
def yl(ks:List Nat):List E1->List E1
 |[]=>[]
 |a::r=>zz ks a::yl ks r
def hY(ks:List Nat):D->D
 |.e x=>.e (zz ks x)
 |.fa xs=>.fa (yl ks xs)
 |.any=>.any
def fM(ks:List Nat):List D->List D
 |[]=>[]
 |a::r=>hY ks a::fM ks r
def DJ:A->Bool
 |.c _|.any=>ab
 |_=>ae
def zA:List A->Bool
 |[]=>ab
 |a::r=>match DJ a with|true=>zA r|false=>ae
def vN:aP->Bool
 |.cells _ cs=>zA cs
 |.loop ..=>ae
 |_=>ab
def cx:List aP->Bool
 |[]=>ab
 |a::r=>match vN a with|true=>cx r|false=>ae
def kM:∀{l:List aP},cx l=ab->∀B∈l,vN B=ab
 |[],_,B,hB=>by grind
 |b::r,h,B,hB=>by
  simp only[cx]at h;cases a:vN b with
  |false=>grind
  |true =>
   simp only[a]at h;rcases eE.1 hB with rfl|hB
   .exact a
   .exact kM h B hB
def dW.plain{σ σ':List aP}{s s':St}(e:s'.M=s.M):∀{vs:List ah}{cs:List A},zA cs=ab->dW σ s vs cs->dW σ' s' vs cs
 |[],[],_,_=>trivial
 |[],_::_,_,h=>h.elim
 |_::_,[],_,h=>h.elim
 |v::vs,a::al,b,h=>by
  simp only[zA]at b;cases d:DJ a with
  |false=>grind
  |true =>
   simp only[d]at b;refine⟨?_,dW.plain e b h.2⟩;cases a with
   |c x=>have:=h.1;simp only[gu]at this⊢;grind
   |any=>exact h.1
   |_=>simp[DJ]at d
def et.plain{σ σ':List aP}{s s':St}(a:s'.M=s.M)(c:s'.w=s.w){B:aP}{L:Loc}(d:vN B=ab)(h:et σ s B L):et σ' s' B L:=by
 cases B with
 |cells E cs =>
  obtain⟨b,vs,h1,h2,e,f⟩:=h;exact⟨b,vs,h1,by grind,e.plain a d,λo=>by rw[a];grind⟩
 |vec E k n es=>simp only[et,a,c]at h⊢;exact h
 |cf H=>simp only[et,a,c]at h⊢;exact h
 |dead=>trivial
 |loop N φ r=>simp[vN]at d
 |qX=>simp only[et,a,c]at h⊢;exact h
 |buf E k n es=>simp only[et,a,c]at h⊢;exact h
def hZ:Nat->List Nat->Bool
 |_,[]=>ae
 |k,x::r=>match aA k x with|true=>ab|false=>hZ k r
def dy:List Nat->Bool
 |[]=>ab
 |k::r=>match hZ k r with|true=>ae|false=>dy r
theorem vf:∀{k:Nat}{l:List Nat},k∈l->hZ k l=ab
 |k,[],h=>by grind
 |k,x::r,h=>by
  simp only[hZ];cases a:aA k x with
  |true=>rfl
  |false =>
   rcases eE.1 h with rfl|h
   .grind [Nat.beq_refl]
   .exact vf h
def vO:∀{l:List Nat},dy l=ab->∀(i j k:Nat),l[i]?=aa k->l[j]?=aa k->i=j
 |[],_,i,j,k,hi,_=>by grind
 |x::r,h,i,j,k,hi,a=>by
  simp only[dy]at h;cases c:hZ x r with
  |true=>grind
  |false =>
   simp only[c]at h;have no:∀q,r[q]?=aa x->False:=λq b=>by have:=vf (bJ b);grind
   cases i with
   |zero =>
    grind
   |succ i =>
    cases j with
    |zero =>
     grind
    |succ j =>
     simp at hi a;rw[vO h i j k hi a]
def He(n:Nat):A->Bool
 |.ptr l _|.vec l _ _ _|.ref l|.bp l _=>bw (l+1) n
 |_=>ab
def FJ(n:Nat):List A->Bool
 |[]=>ab
 |a::r=>match He n a with|true=>FJ n r|false=>ae
def Hf(n:Nat):E1->Bool
 |.one a=>He n a
 |.agg cs=>FJ n cs
def xU(n:Nat):List E1->Bool
 |[]=>ab
 |a::r=>match Hf n a with|true=>xU n r|false=>ae
def vP(n:Nat):D->Bool
 |.e x=>Hf n x
 |.fa xs=>xU n xs
 |.any=>ab
def ln(n:Nat):List D->Bool
 |[]=>ab
 |a::r=>match vP n a with|true=>ln n r|false=>ae
section sub
variable {ks:List Nat}{σ σ':List aP}{s:St}{β':List Loc}
def gu.sub(q:jH ks σ=aa σ')(r:jH ks s.β=aa β'){v:ah}{a:A}(d:gu σ s v (oQ ks a))(e:He ks.length a=ab):gu σ' {s with β:=β'} v a:=by
 obtain⟨C,m⟩:=iI q;obtain⟨z,i⟩:=iI r;cases a with
 |c x=>exact d
 |any=>exact d
 |ptr l o =>
  have hl:l<ks.length:=cZ e;simp only[oQ,fp,br hl]at d;obtain⟨h1,L,b,h2,f,t⟩:=d;obtain⟨x,j,u⟩:=m l _ (br hl);obtain⟨y,h,g⟩:=i l _ (br hl);rw[g]at h2;cases h2;exact⟨λB p=>h1 B (by grind),L,b,h,f,t⟩
 |vec l k n es =>
  have hl:l<ks.length:=cZ e;simp only[oQ,fp,br hl]at d;obtain⟨h1,h2,f⟩:=d;obtain⟨x,j,u⟩:=m l _ (br hl);obtain⟨y,h,g⟩:=i l _ (br hl);refine⟨h1,by grind,λE k' n' es' p=>?_⟩;grind
 |ref l =>
  have hl:l<ks.length:=cZ e;simp only[oQ,fp,br hl]at d;obtain⟨h1,L,h2,f,t⟩:=d;obtain⟨x,j,u⟩:=m l _ (br hl);obtain⟨y,h,g⟩:=i l _ (br hl);rw[g]at h2;cases h2;exact⟨λB p=>h1 B (by grind),L,h,f,t⟩
 |bp l w =>
  have hl:l<ks.length:=cZ e;simp only[oQ,fp,br hl]at d;obtain⟨lv,h1,h2,f⟩:=d;obtain⟨x,j,u⟩:=m l _ (br hl);obtain⟨y,h,g⟩:=i l _ (br hl);refine⟨lv,h1,(bZ.1 j).1,λE k n es p=>?_⟩;grind
def gu.nj{σ2:List aP}{s2:St}(u:s2.M=s.M)(e:∀(j:Nat)(B:aP),σ[j]?=aa B->∃k,ks[j]?=aa k/\σ2[k]?=aa B)(h:∀(j:Nat)(L:Loc),s.β[j]?=aa L->∃k,ks[j]?=aa k/\s2.β[k]?=aa L)(t:s.β.length=σ.length){v:ah}{a:A}(f:gu σ s v a):gu σ2 s2 v (oQ ks a):=by
 cases a with
 |c x=>simp only[oQ,gu,u];exact f
 |any=>exact f
 |ptr l o =>
  obtain⟨h1,L,b,h2,g,r⟩:=f;obtain⟨k,k1,q⟩:=h l L h2;have hl:l<σ.length:=by grind
  obtain⟨k',d,i⟩:=e l _ (br hl);rw[k1]at d;cases d;simp only[oQ,fp,k1];refine⟨λB m=>?_,L,b,q,g,r⟩;grind
 |vec l k n es =>
  obtain⟨h1,h2,g⟩:=f;obtain⟨k1,p,p2⟩:=e l _ (br h2);simp only[oQ,fp,p];refine⟨by grind,(bZ.1 p2).1,λE k' n' es' m=>?_⟩;grind
 |ref l =>
  obtain⟨h1,L,h2,g,r⟩:=f;obtain⟨k,k1,q⟩:=h l L h2;have hl:l<σ.length:=by grind
  obtain⟨k',d,i⟩:=e l _ (br hl);rw[k1]at d;cases d;simp only[oQ,fp,k1];refine⟨λB m=>?_,L,q,g,r⟩;grind
 |bp l w =>
  obtain⟨lv,h1,h2,g⟩:=f;obtain⟨k1,p,p2⟩:=e l _ (br h2);simp only[oQ,fp,p];refine⟨lv,h1,(bZ.1 p2).1,λE k' n' es' m=>?_⟩;grind
def dW.sub(b:jH ks σ=aa σ')(c:jH ks s.β=aa β'):∀{vs:List ah}{cs:List A},dW σ s vs (Br ks cs)->FJ ks.length cs=ab->dW σ' {s with β:=β'} vs cs
 |[],[],_,_=>trivial
 |[],_::_,h,_=>h.elim
 |_::_,[],h,_=>h.elim
 |v::vs,a::al,h,d=>by
  simp only[FJ]at d;cases e:He ks.length a with
  |false=>grind
  |true=>simp only[e]at d;exact⟨h.1.sub b c e,dW.sub b c h.2 d⟩
def m8.sub(b:jH ks σ=aa σ')(c:jH ks s.β=aa β'){v:ah}{x:E1}(h:m8 σ s v (zz ks x))(d:Hf ks.length x=ab):m8 σ' {s with β:=β'} v x:=by
 cases x with
 |one a=>exact gu.sub b c h d
 |agg cs=>obtain⟨vs,h1,h2⟩:=h;exact⟨vs,h1,h2.sub b c d⟩
def g6.sub(b:jH ks σ=aa σ')(c:jH ks s.β=aa β'):∀{vs:List ah}{xs:List E1},g6 σ s vs (yl ks xs)->xU ks.length xs=ab->g6 σ' {s with β:=β'} vs xs
 |[],[],_,_=>trivial
 |[],_::_,h,_=>h.elim
 |_::_,[],h,_=>h.elim
 |v::vs,a::al,h,d=>by
  simp only[xU]at d;cases e:Hf ks.length a with
  |false=>grind
  |true=>simp only[e]at d;exact⟨h.1.sub b c e,g6.sub b c h.2 d⟩
def dn.sub(a:jH ks σ=aa σ')(b:jH ks s.β=aa β'){v:ah}{d:D}(h:dn σ s v (hY ks d))(c:vP ks.length d=ab):dn σ' {s with β:=β'} v d:=by
 cases d with
 |e x=>exact m8.sub a b h c
 |fa xs=>obtain⟨vs,h1,h2⟩:=h;exact⟨vs,h1,h2.sub a b c⟩
 |any=>trivial
def ck.sub(b:jH ks σ=aa σ')(c:jH ks s.β=aa β'):∀{vs:List ah}{ds:List D},ck σ s vs (fM ks ds)->ln ks.length ds=ab->ck σ' {s with β:=β'} vs ds
 |[],[],_,_=>trivial
 |[],_::_,h,_=>h.elim
 |_::_,[],h,_=>h.elim
 |v::vs,a::al,h,d=>by
  simp only[ln]at d;cases e:vP ks.length a with
  |false=>grind
  |true=>simp only[e]at d;exact⟨h.1.sub b c e,ck.sub b c h.2 d⟩
variable {σ2:List aP}{s2:St}
def dW.nj(d:s2.M=s.M)(c:∀(j:Nat)(B:aP),σ[j]?=aa B->∃k,ks[j]?=aa k/\σ2[k]?=aa B)(b:∀(j:Nat)(L:Loc),s.β[j]?=aa L->∃k,ks[j]?=aa k/\s2.β[k]?=aa L)(a:s.β.length=σ.length):
  ∀{vs:List ah} {cs:List A},dW σ s vs cs->dW σ2 s2 vs (Br ks cs)
 |[],[],_=>trivial
 |[],_::_,h=>h.elim
 |_::_,[],h=>h.elim
 |_::_,_::_,h=>⟨h.1.nj d c b a,dW.nj d c b a h.2⟩
def m8.nj(e:s2.M=s.M)(d:∀(j:Nat)(B:aP),σ[j]?=aa B->∃k,ks[j]?=aa k/\σ2[k]?=aa B)(c:∀(j:Nat)(L:Loc),s.β[j]?=aa L->∃k,ks[j]?=aa k/\s2.β[k]?=aa L)(b:s.β.length=σ.length){v:ah}{x:E1}(h:m8 σ s v x):m8 σ2 s2 v (zz ks x):=by
 cases x with
 |one a=>exact gu.nj e d c b h
 |agg cs=>obtain⟨vs,h1,h2⟩:=h;exact⟨vs,h1,h2.nj e d c b⟩
def g6.nj(d:s2.M=s.M)(c:∀(j:Nat)(B:aP),σ[j]?=aa B->∃k,ks[j]?=aa k/\σ2[k]?=aa B)(b:∀(j:Nat)(L:Loc),s.β[j]?=aa L->∃k,ks[j]?=aa k/\s2.β[k]?=aa L)(a:s.β.length=σ.length):
  ∀{vs:List ah} {xs:List E1},g6 σ s vs xs->g6 σ2 s2 vs (yl ks xs)
 |[],[],_=>trivial
 |[],_::_,h=>h.elim
 |_::_,[],h=>h.elim
 |_::_,_::_,h=>⟨h.1.nj d c b a,g6.nj d c b a h.2⟩
def dn.nj(f:s2.M=s.M)(c:∀(j:Nat)(B:aP),σ[j]?=aa B->∃k,ks[j]?=aa k/\σ2[k]?=aa B)(b:∀(j:Nat)(L:Loc),s.β[j]?=aa L->∃k,ks[j]?=aa k/\s2.β[k]?=aa L)(a:s.β.length=σ.length){v:ah}{d:D}(h:dn σ s v d):dn σ2 s2 v (hY ks d):=by
 cases d with
 |e x=>exact m8.nj f c b a h
 |fa xs=>obtain⟨vs,h1,h2⟩:=h;exact⟨vs,h1,h2.nj f c b a⟩
 |any=>trivial
end sub
def dH.qD{α:Type}:Nat->α->List α->List α
 |_,_,[]=>[]
 |0,x,_::r=>x::r
 |k+1,x,y::r=>y::dH.qD k x r
def dH{α:Type}:List Nat->List α->List α->List α
 |[],new,old=>old++new
 |k::ks,x::new,old=>dH ks new (dH.qD k x old)
 |_::_,[],old=>old
theorem jc{α:Type}:∀(k:Nat)(x:α)(l:List α),dH.qD k x l=l.set k x
 |_,_,[]=>by simp[dH.qD]
 |0,x,_::r=>by simp[dH.qD]
 |k+1,x,y::r=>by simp[dH.qD,jc k x r]
def vQ{α:Type}:∀{ks:List Nat}{new old:List α},dy ks=ab->(∀k∈ks,k<old.length)->ks.length<=new.length ->
  (dH ks new old).length=old.length+(new.length-ks.length)/\(∀(j k:Nat),ks[j]?=aa k->(dH ks new old)[k]?=new[j]?) /\
  (∀j,(dH ks new old)[old.length+j]?=new[ks.length+j]?)/\(∀l,l<old.length->l∉ks->(dH ks new old)[l]?=old[l]?)
 |[],new,old,_,_,_=>by
  refine⟨by simp[dH],by simp,λj=>?_,λl f _=>?_⟩
  .simp only[dH,fG,bC];grind
  .simp[dH,jw f]
 |k::ks,[],old,_,_,h=>by grind
 |k::ks,x::new,old,a,b,c=>by
  have g:=a;simp only[dy]at a;cases e:hZ k ks with
  |true=>grind
  |false =>
   simp only[e]at a;have hk:k<old.length:=b k (by simp);have d:k∉ks:=λh=>by grind[vf]
   obtain⟨n,i,m,o⟩:=vQ (ks:=ks) (new:=new) (old:=old.set k x) a (λk' Uq=>by grind) (by grind);simp only[dH,jc];grind
def Ev{P:aq}(X:Cx P)(f:aH)(args:List D)(σ:List aP)(res:D)(σ':List aP):Prop :=
 (∃fn,P.funcs[f]?=aa fn/\(fn.name== "runtime.NumGoroutine")=ae/\fn.body.isNone=ae) /\
 ∀s (vs:List ah),ck σ s vs args->aE σ s->∀(S:au->St->Prop) (cs:List aR),
  (∀a v s',uK P f a v s'->dn σ' s' v res->aE σ' s'->cU σ s σ' s'->fE X S (G a cs) s')->fE X S (G (Frame.enter P f vs.toArray .normal) cs) s
def dZ{P:aq}{ι:Type}(X:Cx P)(f:aH)(args:List D)(σ:List aP)(res:ι->D)(σ':ι->List aP):Prop :=
 (∃fn,P.funcs[f]?=aa fn/\(fn.name== "runtime.NumGoroutine")=ae/\fn.body.isNone=ae) /\
 ∀s (vs:List ah),ck σ s vs args->aE σ s->∀(S:au->St->Prop) (cs:List aR),
  (∀i a v s',uK P f a v s'->dn (σ' i) s' v (res i)->aE (σ' i) s'->cU σ s (σ' i) s'->fE X S (G a cs) s')->fE X S (G (Frame.enter P f vs.toArray .normal) cs) s
def Ev.sW{P:aq}{X:Cx P}{f:aH}{args:List D}{σ:List aP}{res:D}{σ':List aP}(h:Ev X f args σ res σ'):dZ (ι:=Unit) X f args σ (λ_=>res) (λ_=>σ') :=
 ⟨h.1,λs vs hr hh S cs hS=>h.2 s vs hr hh S cs (hS ())⟩
def dZ.DK{P:aq}{X:Cx P}{f:aH}{args:List D}{σ:List aP}{res:D}{σ':List aP}(h:dZ (ι:=Unit) X f args σ (λ_=>res) (λ_=>σ')):Ev X f args σ res σ' :=
 ⟨h.1,λs vs hr hh S cs hS=>h.2 s vs hr hh S cs (λ_=>hS)⟩
def vR(s:St)(a:List Loc):Nat->Prop:=λb=>s.own b∨((∃L∈s.β,b∈L.bs)/\∀L∈a,b∉L.bs)
def kN(n:Nat):Nat->List Nat
 |0=>[]
 |m+1=>n::kN (n+1) m
def Bt:∀(m n j:Nat),(kN n m)[j]?=if j<m then aa (n+j)else af
 |0,n,j=>by simp[kN]
 |m+1,n,0=>by simp[kN]
 |m+1,n,j+1=>by simp only[kN,nY,Bt m (n+1) j,Nat.add_lt_add_iff_right];grind
def frame{ks:List Nat}{σ K σ1:List aP}{s a:St}{p:List Loc}(q:aE σ s)(O:jH ks σ=aa K)(hβ:jH ks s.β=aa p)(hn:dy ks=ab)(hp:cx σ1=ab)(t:aE σ1 a)(st:cU K {s with β:=p,own:=vR s p} σ1 a)(Q:ks.length<=σ1.length){v:ah}{res:D}(hr:dn σ1 a v res):
  ∃s2:St,s2.w=a.w/\dn (dH ks σ1 σ) s2 v (hY (ks++kN σ.length (σ1.length-ks.length)) res)/\aE (dH ks σ1 σ) s2/\cU σ s (dH ks σ1 σ) s2/\s2.M=a.M/\s2.own=s.own/\∀L∈s2.β,L∈a.β∨(L∈s.β/\∀b∈L.bs,∀L'∈p,b∉L'.bs):=by
 have F:∀k∈ks,k<σ.length:=by intro k hk;obtain⟨j,n,rfl⟩:=dL hk;obtain⟨x,_,h2⟩:=(iI O).2 j _ (br n);grind
 have C:∀k∈ks,k<s.β.length:=by rw[q.len];exact F
 have I:ks.length<=a.β.length:=by rw[t.len];exact Q
 obtain⟨a1,a2,a3,a4⟩:=vQ (new:=σ1) (old:=σ) hn F Q;obtain⟨b1,b2,b3,b4⟩:=vQ (new:=a.β) (old:=s.β) hn C I;obtain⟨c1,c2⟩:=iI O;obtain⟨d1,d2⟩:=iI hβ;let J:=ks++kN σ.length (σ1.length-ks.length);have R:∀j,j<σ1.length->∃k,J[j]?=aa k/\(dH ks σ1 σ)[k]?=σ1[j]?/\(dH ks a.β s.β)[k]?=a.β[j]?:=by
  intro j n;rcases cG j ks.length with m|E
  .refine⟨ks[j],?_,a2 j _ (br m),b2 j _ (br m)⟩;grind
  .refine⟨σ.length+(j-ks.length),?_,?_,?_⟩
   .simp only[J];rw[gz E,Bt,bl (by omega)]
   .rw[a3];grind
   .rw[<-q.len,b3];grind
 have f:∀l L,(dH ks a.β s.β)[l]?=aa L->(∃j,j<σ1.length/\a.β[j]?=aa L/\(∀B,(dH ks σ1 σ)[l]?=aa B->σ1[j]?=aa B)/\(∀k,ks[j]?=aa k->k=l)/\(j≥ks.length->l=σ.length+(j-ks.length))) ∨
   (l<σ.length/\l∉ks/\s.β[l]?=aa L/\(dH ks σ1 σ)[l]?=σ[l]?):=by
  intro l L c;have W:l<(dH ks a.β s.β).length:=(bZ.1 c).1;rcases cG l σ.length with m|E
  .by_cases r:l∈ks
   .obtain⟨j,n,rfl⟩:=dL r;have hk:=br n;grind
   .exact .inr ⟨m,r,by rw[<-b4 l (by rw[q.len];exact m) r];exact c,a4 l m r⟩
  .rw[b1,t.len,q.len]at W;refine .inl ⟨ks.length+(l-σ.length),by omega,?_,λB hB=>?_,λk hk=>?_,λ_=>by omega⟩
   .rw[<-b3,q.len,zo E];exact c
   .rw[<-a3,zo E];exact hB
   grind
 have A:∀L∈p,L∈s.β:=by
  intro L c;obtain⟨j,n,rfl⟩:=dL c;have z:j<ks.length:=by grind
  obtain⟨x,T,S⟩:=d2 j _ (br z);grind
 have other:∀l L,l∉ks->s.β[l]?=aa L->∀b∈L.bs,b<s.w.heap.size/\∀L'∈p,b∉L'.bs:=by
  intro l L u c b d;refine⟨q.lt L (bJ c) b d,λL' fj Dq=>?_⟩;obtain⟨j,n,rfl⟩:=dL fj;have z:j<ks.length:=by grind
  obtain⟨x,T,S⟩:=d2 j _ (br z);rw[br n]at T;cases T;have:=q.eB l ks[j] L _ c S b d Dq;grind
 have out:∀b,b<s.w.heap.size->(∀L∈s.β,b∉L.bs)->∀L∈p,b∉L.bs:=λb _ h L c=>h L (A L c);have ex:Ext σ s (dH ks σ1 σ) ⟨dH ks a.β s.β,a.M,a.w,s.own⟩:=by
  refine⟨st.mem,λl B L hB c=>?_⟩;have m:l<σ.length:=(bZ.1 hB).1;by_cases r:l∈ks
  .obtain⟨j,n,rfl⟩:=dL r;have hk:=br n;obtain⟨x,T,S⟩:=c2 j _ hk;obtain⟨y,y1,y2⟩:=d2 j _ hk;rw[hB]at S;cases S;rw[c]at y2;cases y2;obtain⟨B',L',p1,p2,p3⟩:=st.box j B L T y1;grind
  .exact⟨B,L,by grind,by grind,.refl _ _⟩
 refine⟨⟨dH ks a.β s.β,a.M,a.w,s.own⟩,rfl,?_,⟨t.mem,?_,?_,?_,?_,?_⟩,⟨st.size,?_,st.mem,?_,?_,ex.box,st.os,st.tape,st.output,rfl⟩,rfl,rfl,?_⟩
 .refine dn.nj (s:=a) (s2:=⟨dH ks a.β s.β,a.M,a.w,s.own⟩) (σ2:=dH ks σ1 σ) (ks:=J) rfl (λj B hB=>?_) (λj L c=>?_) t.len hr
  .grind
  .obtain⟨k,k1,_,k3⟩:=R j (by rw[<-t.len];grind);grind
 .simp only;rw[a1,b1,t.len,q.len]
 .intro l B L hB c;rcases f l L c with⟨j,n,g,U,_⟩|⟨u,r,fj,X⟩
  .exact et.plain (σ:=σ1) (s:=a) (s':=⟨dH ks a.β s.β,a.M,a.w,s.own⟩) rfl rfl (kM hp B (bJ (U B hB))) (t.box j B L (U B hB) g)
  .rw[X]at hB;refine(q.box l B L hB fj).carry ex q.len λb d=>?_;obtain⟨Z,V⟩:=other l L r fj b d;exact⟨st.fi b (.inr ⟨⟨L,bJ fj,d⟩,V⟩),st.iU b Z V⟩
 .intro l l' L L' c fj b d Dq;rcases f l L c with⟨j,n,g,_,Ub,hjn⟩|⟨u,r,i,_⟩<;>rcases f l' L' fj with⟨j',z,H,_,abR,abS⟩|⟨Dp,hm',G,_⟩
  .have e:=t.eB j j' L L' g H b d Dq;grind
  .obtain⟨Z,V⟩:=other l' L' hm' G b Dq;rcases st.vb L (bJ g) b d with h|⟨L0,h0,P⟩
   .grind
   grind
  .obtain⟨Z,V⟩:=other l L r i b d;rcases st.vb L' (bJ H) b Dq with h|⟨L0,h0,P⟩
   .grind
   grind
  .exact q.eB l l' L L' i G b d Dq
 .intro L c b d;obtain⟨l,u,rfl⟩:=dL c;rcases f l _ (br u)with⟨j,n,g,_⟩|⟨_,_,i,_⟩
  .exact t.lt _ (bJ g) b d
  .have:=q.lt _ (bJ i) b d;have:=st.size;grind
 .intro b d;refine⟨?_,λL c N=>?_⟩
  .have:=(q.own b d).1;have:=st.size;grind
  .obtain⟨l,u,rfl⟩:=dL c;rcases f l _ (br u)with⟨j,n,g,_⟩|⟨_,_,i,_⟩
   .have ho:a.own b:=by rw[st.own];exact .inl d
    exact(t.own b ho).2 _ (bJ g) N
   .exact(q.own b d).2 _ (bJ i) N
 .intro b d;exact st.fi b (.inl d)
 .intro b d Y o;exact st.iU b d (out b d Y) o
 .intro L c b d;obtain⟨l,u,rfl⟩:=dL c;rcases f l _ (br u)with⟨j,n,g,_⟩|⟨_,_,i,_⟩
  .rcases st.vb _ (bJ g) b d with h|⟨L0,h0,P⟩
   .grind
   grind
  grind
 .intro L c;obtain⟨l,u,rfl⟩:=dL c;rcases f l _ (br u)with⟨j,n,g,_⟩|⟨_,r,i,_⟩
  .grind
  grind
def eG:D->Option (aH×List C)
 |.e (.one (.c (.fn (.func f) [] cap)))=>aa (f,cap)
 |_=>af
theorem lI{σ:List aP}{s:St}{c:ak->ah}{a:ak->D}(b:∀y,dn σ s (c y) (a y)):∀l:List ak,ck σ s (l.map c) (l.map a)
 |[]=>trivial
 |x::r=>⟨b x,lI b r⟩
def ck.append{σ:List aP}{s:St}:∀{vs zB:List ah}{ds FI:List D},ck σ s vs ds->ck σ s zB FI->ck σ s (vs++zB) (ds++FI)
 |[],_,[],_,_,h=>h
 |[],_,_::_,_,h,_=>h.elim
 |_::_,_,[],_,h,_=>h.elim
 |_::_,_,_::_,_,h,a=>⟨h.1,ck.append h.2 a⟩
def Q9:A->A
 |.vec _ k n es=>.c (.sl ae k n es)
 |.c (.sl _ k n es)=>.c (.sl ae k n es)
 |a=>a
def FK{σ:List aP}{s:St}{v:ah}{a:A}(h:gu σ s v a):gu σ s v (Q9 a):=by
 cases a with
 |vec l k n es=>exact h.1
 |c x=>cases x<;>first|exact h|exact Rd.loose h
 |_=>exact h
def Ra:List A->List A
 |[]=>[]
 |a::r=>Q9 a::Ra r
def FL{σ:List aP}{s:St}:∀{vs:List ah}{cs:List A},dW σ s vs cs->dW σ s vs (Ra cs)
 |[],[],_=>trivial
 |[],_::_,h=>h.elim
 |_::_,[],h=>h.elim
 |_::_,_::_,h=>⟨FK h.1,FL h.2⟩
def Ur:D->D
 |.e (.one a)=>.e (.one (Q9 a))
 |.e (.agg cs)=>.e (.agg (Ra cs))
 |d=>d
def Nw{σ:List aP}{s:St}{v:ah}{d:D}(h:dn σ s v d):dn σ s v (Ur d):=by
 cases d with
 |e x=>cases x with
  |one a=>exact FK h
  |agg cs=>obtain⟨vs,c,b⟩:=h;exact⟨vs,c,FL b⟩
 |fa xs=>exact h
 |any=>trivial
def mr:List D->List D
 |[]=>[]
 |a::r=>Ur a::mr r
theorem pe{σ:List aP}{s:St}:∀{vs:List ah}{ds:List D},ck σ s vs ds->ck σ s vs (mr ds)
 |[],[],_=>trivial
 |[],_::_,h=>h.elim
 |_::_,[],h=>h.elim
 |_::_,_::_,h=>⟨Nw h.1,pe h.2⟩
def fN:List C->List D
 |[]=>[]
 |c::r=>.e (.one (.c c))::fN r
theorem nk{σ:List aP}{s:St}:∀{vs:List ah}{cs:List C},(∀(j:Nat)(c:C),cs[j]?=aa c->∃v,vs[j]?=aa v/\Rd s.M v c)->vs.length=cs.length->ck σ s vs (fN cs)
 |[],[],_,_=>trivial
 |[],_::_,_,h=>by grind
 |_::_,[],_,h=>by grind
 |v::vs,c::cs,h,d=>by obtain⟨u,a,b⟩:=h 0 c rfl;simp at a;subst a;exact⟨b,nk (λj c e=>by simpa using h (j+1) c (by grind)) (by grind)⟩
def zC{α:Type}{ks:List Nat}{l r:List α}(h:jH ks l=aa r):∀x∈r,x∈l:=by intro x b;obtain⟨f,a⟩:=iI h;obtain⟨j,c,rfl⟩:=dL b;obtain⟨y,e,d⟩:=a j _ (br (by omega));grind
def aE.sub{ks:List Nat}{σ d:List aP}{s:St}{a:List Loc}(hh:aE σ s)(n:jH ks σ=aa d)(i:jH ks s.β=aa a)(u:cx d=ab)(t:dy ks=ab):
  aE d {s with β:=a,own:=vR s a}/\eu s {s with β:=a,own:=vR s a}:=by
 obtain⟨c1,c2⟩:=iI n;obtain⟨d1,d2⟩:=iI i;have f:∀L∈a,L∈s.β:=zC i;refine⟨⟨hh.mem,by grind,?_,?_,?_,?_⟩,⟨rfl,λ_ _ _ h=>h,λ_ _ _=>rfl,hh.mem,?_⟩⟩
 .intro j B L hB hL;have hj:j<ks.length:=by grind
  obtain⟨x,r,v⟩:=c2 j _ (br hj);obtain⟨y,e,l⟩:=d2 j _ (br hj);rw[hB]at r;cases r;simp only at hL;rw[hL]at e;cases e;exact et.plain (σ:=σ) (s:=s) (s':={s with β:=a,own:=vR s a}) rfl rfl (kM u B (bJ hB)) (hh.box _ B L v l)
 .intro j o L L' hL fj b c p;simp only at hL fj;have hj:j<ks.length:=by grind
  have k:o<ks.length:=by grind
  obtain⟨y,e,l⟩:=d2 j _ (br hj);obtain⟨w,g,m⟩:=d2 o _ (br k);rw[hL]at e;cases e;rw[fj]at g;cases g;have:=hh.eB _ _ L L' l m b c p;exact vO t j o ks[j] (br hj) (by grind)
 .intro L hL b c;exact hh.lt _ (f L hL) b c
 .rintro b (c|⟨⟨L,hL,c⟩,q⟩)
  .exact⟨(hh.own b c).1,λL hL=>(hh.own b c).2 L (f L hL)⟩
  .exact⟨hh.lt L hL b c,q⟩
 .rintro b ((c|⟨⟨L,hL,c⟩,_⟩)|⟨L,hL,c⟩)
  .grind
  .grind
  grind
def eu.back{σ d σ1:List aP}{s c s2:St}{a:List Loc}(hh:aE σ s)(h1:aE σ1 c)(st:cU d {s with β:=a,own:=vR s a} σ1 c)(k:s2.w=c.w)(g:s2.M=c.M)(l:s2.own=s.own)(f:∀L∈s2.β,L∈c.β∨(L∈s.β/\∀b∈L.bs,∀L'∈a,b∉L'.bs)):eu c s2:=by
 refine⟨k,λb o v h=>by grind,λb _ o=>by rw[g],λb o v h=>by rw[g]at h;exact h1.mem b o v h,?_⟩;rintro b (e|⟨L,j,e⟩)
 .left;rw[st.own];exact .inl (by grind)
 .rcases f L j with h|⟨h,i⟩
  .grind
  .left;rw[st.own];exact .inr ⟨⟨L,h,e⟩,i b e⟩
def tc{P:aq}{ι:Type}{X:Cx P}{S:au->St->Prop}{b:aR}{k:List Item}{cs:List aR}{a:Act}{s:St}{ops:Array ar}{i:Nat}{rest:List Nat}{o:ar}{ks:List Nat}{σ g:List aP}{σ1:ι->List aP}{f:aH}{d:List D}{res:ι->D}{vs:List ah}(hb:b.kind≠.early)(ho:ops[i]?=aa o)(hw:bc o (yielded ops a.tmps)=ab)(hh:aE σ s)(H:∀w,(av a.eval o).run P w=.ok (.enter f vs.toArray) w)(z:∀w,(av a.eval o).events P w #[]=#[])(R:dZ X f d g res σ1)(t:ck σ s vs (fM ks d))(T:ln ks.length d=ab)(p:jH ks σ=aa g)(hp:cx g=ab)(O:∀j,cx (σ1 j)=ab)(hn:dy ks=ab)(M:∀j,ks.length<=(σ1 j).length)(h:∀j v s',dn (dH ks (σ1 j) σ) s' v (hY (ks++kN σ.length ((σ1 j).length-ks.length)) (res j))->aE (dH ks (σ1 j) σ) s'->cU σ s (dH ks (σ1 j) σ) s'->fE X S (G (b.aT (a.put o.dst v) (.inRegion ops rest::k)) cs) s'):
  fE X S (G (b.aT a (.inRegion ops (i::rest)::k)) cs) s:=by
 obtain⟨_,r⟩:=R;refine .next rfl λn W=>?_;have J:=X.iv W;have e:=hh.rely J;obtain⟨m,x⟩:=vM (l':=n.β) p e.len;obtain⟨F,Y⟩:=e.sub p x hp hn;have q:ck σ n vs (fM ks d):=t.mono J.stepW.ext hh.len;have E:ck g {n with β:=m,own:=vR n m} vs d:=(q.sub (s:=n) p x T).mono (σ:=g) (s:={n with β:=m}) (σ':=g) (s':={n with β:=m,own:=vR n m}) ⟨λ_ _ _ h=>h,λl B L hB hL=>⟨B,L,hB,hL,.refl _ _⟩⟩ F.len;refine⟨_,n,_,o8 ho hw hb (H n.w),?_,.ghost Y (r _ vs E F S _ λj fr v s2 hl mh MW nV=>?_)⟩
 .refine⟨⟨σ,σ,e,e,.refl _ _⟩,fb.seen ?_⟩;rw[z];exact .nil
 refine qf (cs:=cs) (c:=b.aT a (.inRegion ops (i::rest)::k)) MW hl λs3 u=>?_;have C:=MW.rely u;have A:=nV.trans u.stepW;obtain⟨s4,N,U,Z,I,Q,K,y⟩:=frame e p x hn (O j) C A (M j) (mh.mono u.stepW.ext MW.len);refine .ghost (eu.back e C A N Q K y) ?_;have V:=kh (b:=b) (a:=a) (k:=k) ops i rest v;rw[ho]at V;simp only[n7]at V;rw[V];exact h j v s4 U Z (J.stepW.trans I)
def Jd{P:aq}{X:Cx P}{S:au->St->Prop}{b:aR}{k:List Item}{cs:List aR}{a:Act}{s:St}{ops:Array ar}{i:Nat}{rest:List Nat}{o:ar}{ks:List Nat}{σ d:List aP}{σ1:List aP}{f:aH}{c:List D}{res:D}{vs:List ah}(t:b.kind≠.early)(u:ops[i]?=aa o)(z:bc o (yielded ops a.tmps)=ab)(r:aE σ s)(j:∀w,(av a.eval o).run P w=.ok (.enter f vs.toArray) w)(g:∀w,(av a.eval o).events P w #[]=#[])(n:Ev X f c d res σ1)(e:ck σ s vs (fM ks c))(q:ln ks.length c=ab)(m:jH ks σ=aa d)(x:cx d=ab)(l:cx σ1=ab)(y:dy ks=ab)(p:ks.length<=σ1.length)(h:∀v s',dn (dH ks σ1 σ) s' v (hY (ks++kN σ.length (σ1.length-ks.length)) res)->aE (dH ks σ1 σ) s'->cU σ s (dH ks σ1 σ) s'->fE X S (G (b.aT (a.put o.dst v) (.inRegion ops rest::k)) cs) s'):
  fE X S (G (b.aT a (.inRegion ops (i::rest)::k)) cs) s :=
 tc t u z r j g n.sW e q m x (λ_=>l) y (λ_=>p) (λ_=>h)
theorem jr{P:aq}{o:ar}{l:ak}{xs:Array ak}{e:Array aj}(k:o.op=.call {callee:=.value l,args:=xs,argTypes:=e}){f:aH}{fn:Func}(d:P.funcs[f]?=aa fn)(i:(fn.name== "runtime.NumGoroutine")=ae)(h:fn.body.isNone=ae){a:Act}{cs:List ah}(j:a.eval l=.func (.func f) #[] cs.toArray)(w:az):
  (av a.eval o).run P w=.ok (.enter f (xs.toList.map a.eval++cs).toArray) w/\(av a.eval o).events P w #[]=#[]:=by
 have g:(xs.map a.eval++cs.toArray)=(xs.toList.map a.eval++cs).toArray:=by grind
 have c:fn.name≠ "runtime.NumGoroutine":=by grind
 have b:fn.body≠af:=by grind
 constructor
 .simp[av,k,resolve,j,Deferred.ofValue,invoke,callFunc,d,c,b,g]
 .simp[av,k,resolve,j,Deferred.ofValue,invoke,callFunc,d,c,b]
def ia.Bu{P:aq}{ι:Type}{X:Cx P}{N:Nat}{all rest:List ar}{Q:Fr->List aP->Prop}{φ:Fr}{σ:List aP}{o:ar}{B:ak}{xs:Array ak}{O:Array aj}(W:∀σ s a,cq N σ s φ a->bc o (yielded all.toArray a.tmps)=ab)(R:o.op=.call {callee:=.value B,args:=xs,argTypes:=O}){f:aH}{cap:List C}(A:eG (bP φ B)=aa (f,cap))(ks:List Nat){e:List D}{n:List aP}{σ1:ι->List aP}{res:ι->D}(x:dZ X f e n res σ1)(p:∀s vs,ck σ s vs (xs.toList.map (bP φ)++fN cap)->ck σ s vs (fM ks e))(M:ln ks.length e=ab)(G:jH ks σ=aa n)(Y:cx n=ab)(K:∀j,cx (σ1 j)=ab)(V:dy ks=ab)(I:∀j,ks.length<=(σ1 j).length)(d:Option Nat)(hd:o.dst=d)(hN:∀t,d=aa t->t<N)(k:∀j,ia X N all rest Q (kl d (hY (ks++kN σ.length ((σ1 j).length-ks.length)) (res j)) φ) (dH ks (σ1 j) σ)):ia X N all (o::rest) Q φ σ:=by
 subst hd;intro s a h hh b kk cs S idx hb jk hQ;cases idx with
 |nil=>exact jk.elim
 |cons i idx =>
 obtain⟨hi,jk⟩:=jk;have y:=c7 h B;unfold eG at A;split at A
 case h_2=>cases A
 case h_1 f' Nh he =>
  cases A;rw[he]at y;have l:=eY y;generalize T:a.eval B=fv at l;cases l with
  |fn fs nb hl Dp f1 f2 h1 h2 r1 r2 =>
   have H:fs=[]:=jf hl;subst H;have r:ck σ s nb (fN cap):=nk (λj c hj=>⟨f2 j,h2 j (by grind),r2 j c hj⟩) Dp;have u:ck σ s (xs.toList.map a.eval++nb) (fM ks e):=by exact p _ _ ((lI (c7 h) xs.toList).append r)
   obtain⟨fn,z,m,g⟩:=x.1;refine tc hb hi (W _ _ _ h) hh (λw=>(jr R z m g T w).1) (λw=>(jr R z m g T w).2) x u M G Y K V I λj v s' hr iX st=>?_;refine k j s' _ ?_ iX b kk cs S idx hb jk λF E s3 a3 q Z U J=>hQ F E s3 a3 q Z U (st.trans J);cases L:o.dst with
   |none=>exact h.mono st hh.len
   |some t=>exact(h.mono st hh.len).put (hN t L) hr
def ia.PO{P:aq}{ι:Type}{X:Cx P}{N:Nat}{all rest:List ar}{Q:Fr->List aP->Prop}{φ:Fr}{σ:List aP}{o:ar}{q:ak}{xs:Array ak}{g:Array aj}(w:∀σ s a,cq N σ s φ a->bc o (yielded all.toArray a.tmps)=ab)(u:o.op=.call {callee:=.value q,args:=xs,argTypes:=g}){f:aH}{cap:List C}(z:eG (bP φ q)=aa (f,cap))(ks:List Nat){b:List D}{c:List aP}{σ1:ι->List aP}{res:ι->D}(l:dZ X f b c res σ1)(p:mr (xs.toList.map (bP φ)++fN cap)=fM ks b)(n:ln ks.length b=ab)(i:jH ks σ=aa c)(r:cx c=ab)(e:∀j,cx (σ1 j)=ab)(v:dy ks=ab)(m:∀j,ks.length<=(σ1 j).length)(d:Option Nat)(x:o.dst=d)(y:∀t,d=aa t->t<N)(k:∀j,ia X N all rest Q (kl d (hY (ks++kN σ.length ((σ1 j).length-ks.length)) (res j)) φ) (dH ks (σ1 j) σ)):ia X N all (o::rest) Q φ σ :=
 ia.Bu w u z ks l (λs vs h=>by grind[pe]) n i r e v m d x y k
theorem ia.call{P:aq}{X:Cx P}{N:Nat}{all rest:List ar}{Q:Fr->List aP->Prop}{φ:Fr}{σ:List aP}{o:ar}{n:ak}{xs:Array ak}{h:Array aj}(u:∀σ s a,cq N σ s φ a->bc o (yielded all.toArray a.tmps)=ab)(q:o.op=.call {callee:=.value n,args:=xs,argTypes:=h}){f:aH}{cap:List C}(x:eG (bP φ n)=aa (f,cap))(ks:List Nat){b:List D}{c σ1:List aP}{res:D}(j:Ev X f b c res σ1)(e:mr (xs.toList.map (bP φ)++fN cap)=fM ks b)(m:ln ks.length b=ab)(i:jH ks σ=aa c)(p:cx c=ab)(g:cx σ1=ab)(r:dy ks=ab)(l:ks.length<=σ1.length)(d:Option Nat)(v:o.dst=d)(w:∀t,d=aa t->t<N)(k:ia X N all rest Q (kl d (hY (ks++kN σ.length (σ1.length-ks.length)) res) φ) (dH ks σ1 σ)):ia X N all (o::rest) Q φ σ :=
 ia.PO u q x ks j.sW e m i p (λ_=>g) r (λ_=>l) d v w (λ_=>k)
def Names.range(all:List ar):Names all (bd all.toArray.size) all:=by
 have key:∀(l:List ar) (n:Nat),(∀j o,l[j]?=aa o->all[n+j]?=aa o)->Names all (List.range' n l.length) l:=by
  intro l;induction l with
  |nil=>intro n _;trivial
  |cons o r b =>
   intro n h;rw[er,List.range'_succ];refine⟨by simpa using h 0 o rfl,b (n+1) λj a hj=>?_⟩;have:=h (j+1) a (by grind);grind
 grind[List.range_eq_range']
theorem AW.region{P:aq}{X:Cx P}{N:Nat}{Q:Post}{φ:Fr}{σ:List aP}{id:Nat}{ops:Array ar}(h:ia X N ops.toList ops.toList (λφ σ=>Q .normal φ σ) φ σ):AW X N (.region id ops ae) Q φ σ:=by intro s a f hh b k cs S g d;refine .ctl hh rfl (λ_=>qc) λc h1=>?_;have:=h c a (f.rely h1 hh) (hh.rely h1) b k cs S (bd ops.size) g (by simpa using Names.range ops.toList) λφ' σ' s' a' q e i st=>d .normal φ' σ' s' a' q e i (h1.stepW.trans st);simpa using this
def ia.nil{P:aq}{X:Cx P}{N:Nat}{all:List ar}{Q:Fr->List aP->Prop}{φ:Fr}{σ:List aP}(h:Q φ σ):ia X N all [] Q φ σ:=by
 intro s a f hh b k cs S idx _ c e;cases idx with
 |cons i idx=>exact c.elim
 |nil=>exact .ctl hh rfl (λ_=>iW) λd h1=>e φ σ d a h (f.rely h1 hh) (hh.rely h1) h1.stepW
def ia.mono{P:aq}{X:Cx P}{N:Nat}{all rest:List ar}{Q c:Fr->List aP->Prop}{φ:Fr}{σ:List aP}(h:ia X N all rest Q φ σ)(g:∀φ σ,Q φ σ->c φ σ):ia X N all rest c φ σ :=
 λs a f hh b k cs S idx hb hi hQ=>h s a f hh b k cs S idx hb hi λφ' σ' s' a' q e d st=>hQ φ' σ' s' a' (g _ _ q) e d st
def ia.le{P:aq}{X:Cx P}{N:Nat}{all rest:List ar}{Q:Fr->List aP->Prop}{φ φ':Fr}{σ:List aP}(h:ia X N all rest Q φ' σ)(hl:oq φ φ'):ia X N all rest Q φ σ :=
 λs a f hh b k cs S idx hb hi hQ=>h s a (f.le hl) hh b k cs S idx hb hi hQ
def iY:Nat->List D->Fr
 |_,[]=>[]
 |i,d::r=>(i,d)::iY (i+1) r
def ot:∀(ds:List D)(i t:Nat),look (iY i ds) t=if i<=t then(ds[t-i]?).getD .any else .any
 |[],i,t=>by simp[iY,look]
 |d::r,i,t=>by
  simp only[iY,look];by_cases e:i=t
  .grind [Nat.beq_refl]
  .have:aA i t=ae:=by grind[Nat.eq_of_beq_eq_true]
   rw[this];simp only[cond,ot r (i+1) t];grind
theorem ck.get{σ:List aP}{s:St}:∀{vs:List ah}{ds:List D},ck σ s vs ds->vs.length=ds.length/\∀(j:Nat),dn σ s ((vs[j]?).getD ai) ((ds[j]?).getD .any)
 |[],[],_=>⟨rfl,λj=>by simp[dn]⟩
 |[],_::_,h=>h.elim
 |_::_,[],h=>h.elim
 |v::vs,d::ds,h=>by
  obtain⟨h1,h2⟩:=ck.get h.2;refine⟨by grind,λj=>?_⟩;cases j with
  |zero=>simpa using h.1
  |succ j=>grind
def xV(φ:Fr):List ResultVar->Option (List D)
 |[]=>aa []
 |.tmp t::r=>match xV φ r with
  |some q=>aa (look φ t::q)
  |none=>af
 |.cell _ _::_=>af
def ug:List D->Option (List E1)
 |[]=>aa []
 |.e x::r=>match ug r with
  |some q=>aa (x::q)
  |none=>af
 |_::_=>af
def rW:List D->Option D
 |[d]=>aa d
 |ds=>match ug ds with
  |some es=>aa (.fa es)
  |none=>af
def gg(a:Act):ResultVar->Sem ah
 |ResultVar.tmp t=>pure (a.tmps.getD t ai)
 |ResultVar.cell ad t=>do loadVar t (<-asAddr (a.tmps.getD ad ai))
def FM(P:aq){N:Nat}{σ:List aP}{s:St}{φ:Fr}{a:Act}(f:cq N σ s φ a):∀{rs:List ResultVar}{ds:List D},xV φ rs=aa ds ->
  ∃vs,(∀w,(rs.mapM (gg a)).run P w=Result.ok vs w)/\ck σ s vs ds/\c9 P (rs.mapM (gg a))
 |[],ds,h=>by cases h;exact⟨[],by simp,aw,by rw[List.mapM_nil];exact .pure⟩
 |.tmp t::r,ds,h=>by
  simp only[xV]at h;cases b:xV φ r with
  |none=>grind
  |some q =>
   simp[b]at h;subst h;obtain⟨vs,e,d,c⟩:=FM P f b;refine⟨a.tmps.getD t ai::vs,?_,⟨f.slot t,d⟩,?_⟩
   .intro w;simp only[n9,bO,gg,dt,bX,e]
   .rw[n9];exact .bind .pure λ_=>.bind c λ_=>.pure
 |.cell ad t::r,ds,h=>by simp[xV]at h
def Bv{σ:List aP}{s:St}:∀{vs:List ah}{ds:List D}{es:List E1},ug ds=aa es->ck σ s vs ds->g6 σ s vs es
 |[],[],es,h,_=>by cases h;trivial
 |[],_::_,_,_,h=>h.elim
 |_::_,[],_,_,h=>h.elim
 |v::vs,.e x::r,es,h,b=>by
  simp only[ug]at h;cases a:ug r with
  |none=>grind
  |some q=>simp[a]at h;subst h;exact⟨b.1,Bv a b.2⟩
 |_::_,.fa _::_,es,h,_=>by simp[ug]at h
 |_::_,.any::_,es,h,_=>by simp[ug]at h
def Bw{σ:List aP}{s:St}{vs:List ah}{ds:List D}{d:D}(h:rW ds=aa d)(a:ck σ s vs ds):dn σ s (if h:vs.length=1 then vs[0]else .tuple vs.toArray) d:=by
 unfold rW at h;split at h
 .rename_i g;cases h
  match vs,a with
  |[v],a=>simpa using a.1
 .rename_i f;cases b:ug ds with
  |none=>grind
  |some es =>
   simp[b]at h;subst h;have c:vs.length≠1:=by
    intro e;rw[(ck.get a).1]at e
    match ds,e with
    |[x],_=>grind
   rw[dif_neg c];exact⟨vs,rfl,Bv b a⟩
def zD(P:aq)(fn:Func)(φ:Fr)(d:D):Prop:=∀{N:Nat}{σ:List aP}{s:St}{a:Act},cq N σ s φ a->∃v,dn σ s v d/\∀w,(∀b o u,s.M b o=aa u->w.cell? ⟨b,o,af⟩=aa u)->(results fn a.tmps).run P w=.ok v w/\∀e∈(results fn a.tmps).events P w #[],∃b o u,e=⟨.cell ⟨b,o,af⟩,ae,ae⟩/\s.M b o=aa u
def uh{P:aq}{N:Nat}{σ:List aP}{s:St}{φ:Fr}{a:Act}(f:cq N σ s φ a){fn:Func}{ds:List D}{d:D}(h:xV φ fn.results.toList=aa ds)(g:rW ds=aa d):
  ∃v,(∀w,(results fn a.tmps).run P w=.ok v w)/\dn σ s v d/\c9 P (results fn a.tmps):=by
 obtain⟨vs,i,b,c⟩:=FM P f h;refine⟨_,λw=>?_,Bw g b,?_⟩
 .have e:(fn.results.mapM (gg a)).run P w=Result.ok vs.toArray w:=by grind[Array.mapM_eq_mapM_toList,Sem.run_map,Go.Result.andThen_ok]
  unfold results;rw[bO];refine(dA (λr=>Result.andThen r _) (Eq.trans ?_ e)).trans ?_
  .congr 2
  .simp
 .unfold results;have e:c9 P (fn.results.mapM (gg a)):=by rw[qS];exact .map c
  exact .bind e λ_=>.pure
theorem zD.of{P:aq}{fn:Func}{φ:Fr}{ds:List D}{d:D}(h:xV φ fn.results.toList=aa ds)(hj:rW ds=aa d):zD P fn φ d:=by intro N σ s a f;obtain⟨v,h1,h2,b⟩:=uh (P:=P) f h hj;exact⟨v,h2,λw _=>⟨h1 w,λe c=>by rw[b w #[]]at c;grind⟩⟩
end
section
open Go.Conc (G)
def aE.lH{σ:List aP}{s:St}(h:aE σ s):aE (σ.map λ_=>.dead) s:=by
 refine⟨h.mem,by simp[h.len],λl B L hB hL=>?_,h.eB,h.lt,h.own⟩;simp only[mV]at hB;cases a:σ[l]? with
 |none=>grind
 |some x=>rw[a]at hB;cases hB;trivial
structure PR(ls:List Nat)(s s':St):Prop where
 β:s'.β=s.β
 M:s'.M=s.M
 own:s'.own=s.own
 size:s.w.heap.size<=s'.w.heap.size
 fi:∀b,(s.own b∨∃(l:Nat) (L:Loc),s.β[l]?=aa L/\l∉ls/\b∈L.bs)->s'.w.heap[b]?=s.w.heap[b]?
 mem:∀b o v,s.M b o=aa v->s'.w.cell? ⟨b,o,af⟩=aa v
 os:s'.w.os=s.w.os
 tape:s'.w.tape=s.w.tape
 output:s'.w.output=s.w.output
def cp.unR{s s':St}(h:cp s s')(ls:List Nat):PR ls s s' :=
 ⟨h.β,h.M,h.own,h.size,λb c=>h.fi b (c.imp id λ⟨l,L,h1,_,a⟩=>⟨L,bJ h1,a⟩),h.mem,h.os,h.tape,h.output⟩
theorem PR.cat{l:Nat}{ls:List Nat}{s a s2:St}(h:PR [l] s a)(k:PR ls a s2):PR (l::ls) s s2:=by refine⟨k.β.trans h.β,k.M.trans h.M,k.own.trans h.own,im h.size k.size,λb e=>?_,λb o v d=>k.mem b o v (by rw[h.M];exact d),k.os.trans h.os,k.tape.trans h.tape,k.output.trans h.output⟩;rw[k.fi b,h.fi b (e.imp id λ⟨l',L,h1,h2,c⟩=>⟨l',L,h1,λf=>h2 (by grind),c⟩)];rw[h.own,h.β];grind
def Ji{P:aq}{w:az}{r:Nat}(a:w.heap[r]?=aa (.deferred (aa []))):
  (Instr.takeDeferred r).run P w=.ok [] {w with heap:=w.heap.setIfInBounds r (.deferred af)}/\(Instr.takeDeferred r).events P w #[]=#[⟨.obj r,ae,ae⟩,⟨.obj r,ab,ae⟩]:=by
 have b:(getObj r).run P w=.ok (.deferred (aa [])) w:=by simp only[getObj,Sem.run,a]
 have c:(setObj r (.deferred af)).run P w=.ok () {w with heap:=w.heap.setIfInBounds r (.deferred af)}:=by simp only[setObj,Sem.run,a]
 have d:∀es,(getObj r).events P w es=es.push ⟨.obj r,ae,ae⟩:=λes=>by simp only[getObj,Sem.events,Sem.runT,a];rfl
 have e:∀es,(setObj r (.deferred af)).events P w es=es.push ⟨.obj r,ab,ae⟩:=λes=>by simp only[setObj,Sem.events,Sem.runT,a];rfl
 constructor
 .simp[Instr.takeDeferred,b,c]
 .simp[Instr.takeDeferred,b,d,e]
variable {P:aq}{X:Cx P}{S:au->St->Prop}{cs:List aR}{main:Bool}
def Nx{a:aR}{r:Nat}{ds:List Deferred}{w:az}(d:a.mode=.returning)(f:a.defers={target:=.collected r,args:=#[]}::ds)(c:w.heap[r]?=aa (.deferred (aa []))):
  aG P main (G a cs) w=.go (G {a with defers:=ds} cs) {w with heap:=w.heap.setIfInBounds r (.deferred af)} (seen P a.fn #[⟨.obj r,ae,ae⟩,⟨.obj r,ab,ae⟩]):=by obtain⟨e,b⟩:=Ji (P:=P) c;simp[G,aG,unwind,d,f,e,b,GStep.after]
def vZ(s:St):List Deferred->List Nat->Prop
 |[],[]=>True
 |d::ds,l::ls=>(∃r:Nat,s.β[l]?=aa ⟨.int .i64 r,[r]⟩/\s.w.heap[r]?=aa (.deferred (aa []))/\(∀o,s.M r o=af)/\d={target:=.collected r,args:=#[]})/\l∉ls/\vZ s ds ls
 |_,_=>False
def oS.taken{σ:List aP}{s:St}(hh:aE σ s):∀{ds:List Deferred}{ls:List Nat},oS σ s ds ls->vZ s ds ls
 |[],[],_=>trivial
 |[],_::_,r=>r.elim
 |_::_,[],r=>r.elim
 |d::ds,l::ls,⟨⟨h1,L,r,h2,a,g⟩,h,c⟩=>by
  obtain⟨r',k1,f,b⟩:=hh.box l _ L h1 h2;subst k1;simp at a;have e:r'=r:=by omega
  subst e;exact⟨⟨r',h2,f,b,g⟩,h,oS.taken hh c⟩
def vZ.mono{s s':St}{b:Nat}(h:PR [b] s s'):∀{ds:List Deferred}{ls:List Nat},b∉ls->vZ s ds ls->vZ s' ds ls
 |[],[],_,_=>trivial
 |[],_::_,_,r=>r.elim
 |_::_,[],_,r=>r.elim
 |d::ds,l::ls,a,⟨⟨r,h1,h2,g,e⟩,f,c⟩=>by simp only[eE,not_or]at a;refine⟨⟨r,by rw[h.β];exact h1,by rw[h.fi r (.inr ⟨l,_,h1,by grind,by simp⟩)];exact h2,λo=>by rw[h.M];grind,e⟩,f,vZ.mono h a.2 c⟩
def ri:∀(ls:List Nat)(f:aR)(s:St)(σ:List aP),aE σ s->(∀B∈σ,B=.dead)->f.mode=.returning->vZ s f.defers ls ->
  (∀s',PR ls s s'->fE X S (G {f with defers:=[]} cs) s')->fE X S (G f cs) s
 |[],f,s,σ,u,m,E,n,k=>by
  have p:f.defers=[]:=by
   cases p:f.defers with
   |nil=>rfl
   |cons d ds=>rw[p]at n;exact n.elim
  have:=k s ((cp.refl u).unR _);have e:{f with defers:=[]}=f:=by cases f;simp_all
  grind
 |l::ls,f,s,σ,u,m,E,n,k=>by
  cases p:f.defers with
  |nil=>rw[p]at n;exact n.elim
  |cons d ds =>
   rw[p]at n;obtain⟨⟨r,y,I,Q,N⟩,O,J⟩:=n;subst N;refine .next rfl λi F=>?_;have c:=X.iv F;have a:=u.rely c;have A:i.β[l]?=aa ⟨.int .i64 r,[r]⟩:=by rw[c.β];exact y
   have C:i.w.heap[r]?=aa (.deferred (aa [])):=by rw[c.fi r (.inr ⟨_,bJ y,by simp⟩)];exact I
   have K:∀o,i.M r o=af:=λo=>by rw[c.M];grind
   let s2:St:={i with w:={i.w with heap:=i.w.heap.setIfInBounds r (.deferred af)}}
   have hk:∀b,b≠r->s2.w.heap[b]?=i.w.heap[b]?:=λb g=>by grind
   have j:∀b o v,i.M b o=aa v->s2.w.cell? ⟨b,o,af⟩=aa v:=by
    intro b o v D;have t:b≠r:=by grind
    rw[<-a.mem b o v D];simp only[aU];grind
   have q:aE σ s2:=by
    refine⟨j,a.len,λl' B L hB hL=>?_,a.eB,λL hL b g=>?_,λb g=>⟨?_,(a.own b g).2⟩⟩
    .rw[m B (bJ hB)];trivial
    .have:=a.lt L hL b g;grind
    .have:=(a.own b g).1;grind
   have x:∃L∈i.β,r∈L.bs:=⟨_,bJ A,by simp⟩
   have st:Step σ i σ s2:=by refine⟨by grind,λb _ g=>hk b ?_,λ_ _ _ h=>h,λ_ _ _ _=>rfl,λL hL b g=>.inr ⟨L,hL,g⟩,λ_ B L h H=>⟨B,L,h,H,.refl _ _⟩,rfl,rfl,rfl,rfl⟩;grind
   have un:PR [l] s s2:=by
    refine⟨c.β,c.M,c.own,im c.size (by grind),λb g=>?_,λb o v D=>j b o v (by rw[c.M];exact D),c.os,c.tape,c.output⟩;have t:b≠r:=by
     rintro rfl;rcases g with g|⟨l',L',z,p2,p3⟩
     .exact(u.own b g).2 _ (bJ y) (by simp)
     .exact p2 (by simp;exact u.eB l' l L' _ z y b p3 (by simp))
    rw[hk b t];exact c.fi b (g.imp id λ⟨l',L',z,_,p3⟩=>⟨L',bJ z,p3⟩)
   refine⟨_,s2,_,Nx E p C,⟨⟨σ,σ,a,q,st⟩,fb.seen (.two ?_ ?_)⟩,?_⟩
   .exact⟨rfl,.inr x⟩
   .exact⟨rfl,.inr x⟩
   refine ri ls {f with defers:=ds} s2 σ q m E (J.mono un O) λs' hu=>?_;exact k s' (un.cat hu)
end
section
open Go.Conc (G)
def cy(n:Nat)(f g:Nat->List C):Prop:=∀i,i<n->f i=g i
def Flat.Dw{M:Mem}{k n:Nat}{es es':Nat->List C}{vs:List ah}(h:Flat M k n es vs)(a:cy n es es'):Flat M k n es' vs :=
 ⟨h.len,λi hi=>by rw[<-a i hi];exact h.width i hi,λi hi j c hj=>h.rd i hi j c (by rw[a i hi];exact hj)⟩
def Yq:C->C->Option (List Prop)
 |.int k n,.int k' n'=>match Hv k k' with|true=>aa [n=n']|false=>af
 |.bool b,.bool b'=>aa [b=b']
 |.str s,.str s'=>aa [s=s']
 |.sl t k n es,.sl t' k' n' es'=>match aA k k' with
  |true=>match t,t' with
   |false,ab=>af
   |_,_=>aa [n=n',cy n es es']
  |false=>match t,t' with
   |true,_=>aa [n=0,n'=0]
   |_,_=>af
 |.val x,.val y=>aa [x=y]
 |x,y=>aa [x=y]
def RL{M:Mem}{v:ah}{x y:C}{ps:List Prop}(h:Yq x y=aa ps)(c:ay ps)(r:Rd M v x):Rd M v y:=by
 unfold Yq at h;split at h
 .rename_i k n k' n';cases hk:Hv k k'<;>simp[hk]at h
  subst h;cases z0 hk;cases(show n=n' from c);exact r
 .cases h;rename_i b d;cases(show b=d from c);exact r
 .cases h;rename_i b d;cases(show b=d from c);exact r
 .rename_i t k n es t' k' n' es';cases hk:aA k k' with
  |true =>
   simp only[hk]at h;have e:=bR hk;subst e;cases t<;>cases t'<;>simp at h
   all_goals (subst h;obtain⟨rfl,f⟩:=(show n=n'/\cy n es es' from c);first|exact r.Dw f|exact r.loose.Dw f)
  |false =>
   simp only[hk]at h;cases t<;>simp at h
   subst h;obtain⟨rfl,rfl⟩:=(show n=0/\n'=0 from c)
   obtain⟨a,cap,vs,rfl,_,_,g,_⟩:=r.flat;grind[Rd.jD]
 .cases h;rename_i x y;cases(show x=y from c);exact r
 .cases h;cases c;exact r
def UX:A->A->Option (List Prop)
 |.c x,.c y=>Yq x y
 |.vec _ k n es,.c (.sl ae k' n' es')=>match aA k k' with|true=>aa [n=n',cy n es es']|false=>af
 |.vec l k n es,.vec l' k' n' es'=>match aA l l' with
  |true=>match aA k k' with|true=>aa [n=n',cy n es es']|false=>af
  |false=>af
 |.ptr l o,.ptr l' o'=>match aA l l' with|true=>(match aA o o' with|true=>aa []|false=>af)|false=>af
 |.ref l,.ref l'=>match aA l l' with|true=>aa []|false=>af
 |.bp l w,.bp l' w'=>match aA l l' with|true=>aa [w=w']|false=>af
 |_,.any=>aa []
 |_,_=>af
def JY{σ:List aP}{s:St}{v:ah}{x y:A}{ps:List Prop}(h:UX x y=aa ps)(b:ay ps)(r:gu σ s v x):gu σ s v y:=by
 unfold UX at h;split at h
 .exact RL h b r
 .rename_i k n es k' n' es';cases hk:aA k k'<;>simp[hk]at h
  subst h;have e:=bR hk;subst e;obtain⟨rfl,c⟩:=(show n=n'/\cy n es es' from b)
  exact r.1.Dw c
 .rename_i l k n es l' k' n' es';cases a:aA l l'<;>simp[a]at h
  cases hk:aA k k'<;>simp[hk]at h
  subst h;have e:=bR hk;have d:=bR a;subst e d;obtain⟨rfl,c⟩:=(show n=n'/\cy n es es' from b)
  exact⟨r.1.Dw c,r.2.1,r.2.2⟩
 .grind [Nat.eq_of_beq_eq_true]
 .grind [Nat.eq_of_beq_eq_true]
 .rename_i l w l' w';cases a:aA l l'<;>simp[a]at h
  have d:=bR a;subst d;subst h;cases(show w=w' from b);exact r
 .exact gu.cell r
 grind
def kO:List Prop->List Prop->List Prop
 |[],q=>q
 |p::r,q=>p::kO r q
@[simp] theorem ay.cat{p q:List Prop}:ay (kO p q)↔ay p/\ay q:=by
 induction p with
 |nil=>simp[kO]
 |cons x r a=>simp only[kO,ay.cons,a,and_assoc]
def Qb:List A->List A->Option (List Prop)
 |[],[]=>aa []
 |a::al,b::bs=>match UX a b with
  |some p=>match Qb al bs with
   |some q=>aa (kO p q)
   |none=>af
  |none=>af
 |_,_=>af
def D6{σ:List aP}{s:St}:∀{vs:List ah}{xs ys:List A}{ps:List Prop},Qb xs ys=aa ps->ay ps->dW σ s vs xs->dW σ s vs ys
 |[],[],[],_,_,_,_=>trivial
 |_::_,[],_,_,_,_,h=>h.elim
 |[],_::_,_,_,_,_,h=>h.elim
 |[],[],_::_,_,h,_,_=>by simp[Qb]at h
 |_::_,_::_,[],_,h,_,_=>by simp[Qb]at h
 |v::vs,a::al,b::bs,ps,h,c,e=>by
  simp only[Qb]at h;cases f:UX a b with
  |none=>grind
  |some p =>
   cases d:Qb al bs with
   |none=>grind
   |some q =>
    simp[f,d]at h;subst h;rw[ay.cat]at c;exact⟨JY f c.1 e.1,D6 d c.2 e.2⟩
def UY:E1->E1->Option (List Prop)
 |.one a,.one b=>UX a b
 |.agg al,.agg bs=>Qb al bs
 |_,_=>af
def JZ{σ:List aP}{s:St}{v:ah}{x y:E1}{ps:List Prop}(h:UY x y=aa ps)(a:ay ps)(r:m8 σ s v x):m8 σ s v y:=by
 cases x<;>cases y<;>simp only[UY,reduceCtorEq]at h
 .exact JY h a r
 .obtain⟨vs,c,b⟩:=r;exact⟨vs,c,D6 h a b⟩
def D9:List E1->List E1->Option (List Prop)
 |[],[]=>aa []
 |a::al,b::bs=>match UY a b with
  |some p=>match D9 al bs with
   |some q=>aa (kO p q)
   |none=>af
  |none=>af
 |_,_=>af
def F5{σ:List aP}{s:St}:∀{vs:List ah}{xs ys:List E1}{ps:List Prop},D9 xs ys=aa ps->ay ps->g6 σ s vs xs->g6 σ s vs ys
 |[],[],[],_,_,_,_=>trivial
 |_::_,[],_,_,_,_,h=>h.elim
 |[],_::_,_,_,_,_,h=>h.elim
 |[],[],_::_,_,h,_,_=>by simp[D9]at h
 |_::_,_::_,[],_,h,_,_=>by simp[D9]at h
 |v::vs,a::al,b::bs,ps,h,c,e=>by
  simp only[D9]at h;cases f:UY a b with
  |none=>grind
  |some p =>
   cases d:D9 al bs with
   |none=>grind
   |some q =>
    simp[f,d]at h;subst h;rw[ay.cat]at c;exact⟨JZ f c.1 e.1,F5 d c.2 e.2⟩
def Dr:D->D->Option (List Prop)
 |.e x,.e y=>UY x y
 |.fa xs,.fa ys=>D9 xs ys
 |_,.any=>aa []
 |_,_=>af
theorem ou{σ:List aP}{s:St}{v:ah}{x y:D}{ps:List Prop}(h:Dr x y=aa ps)(a:ay ps)(r:dn σ s v x):dn σ s v y:=by
 cases x<;>cases y<;>simp only[Dr,reduceCtorEq]at h
 .exact JZ h a r
 .trivial
 .obtain⟨vs,c,b⟩:=r;exact⟨vs,c,F5 h a b⟩
 .trivial
 .trivial
def nA(φ:Fr):Fr->Option (List Prop)
 |[]=>aa []
 |(i,d)::r=>match Dr (look φ i) d with
  |some p=>match nA φ r with
   |some q=>aa (kO p q)
   |none=>af
  |none=>af
def cX{φ:Fr}:∀{φ':Fr}{ps:List Prop},nA φ φ'=aa ps->ay ps->oq φ φ'
 |[],_,_,_=>λ_ _ _ _ _=>trivial
 |(i,d)::r,ps,h,b=>by
  simp only[nA]at h;cases e:Dr (look φ i) d with
  |none=>grind
  |some p =>
   cases a:nA φ r with
   |none=>grind
   |some q =>
    simp[e,a]at h;subst h;rw[ay.cat]at b;intro σ s v t c;simp only[look];cases f:aA i t with
    |true =>
     grind[Nat.eq_of_beq_eq_true,ou]
    |false=>exact cX a b.2 σ s v t c
def kn(σ:List aP):Bool:=match cx σ with|true=>lB σ|false=>ae
def yq{σ:List aP}(h:kn σ=ab):cx σ=ab/\lB σ=ab:=by unfold kn at h;grind
def oS.BO{σ:List aP}{s:St}:∀{ds:List Deferred}{ls:List Nat},oS σ s ds ls->∀l∈ls,σ[l]?=aa .qX
 |[],[],_,l,hl=>by grind
 |[],_::_,r,_,_=>r.elim
 |_::_,[],r,_,_=>r.elim
 |d::ds,b::ls,⟨⟨h1,_⟩,_,a⟩,l,hl=>by
  rcases eE.1 hl with rfl|hl
  .exact h1
  .exact oS.BO a l hl
def cw(fn:Func)(a:Nat)(res:D)(σ':List aP):Post:=λe φ σ1 =>
 (e=.ret∨e=.normal)/\∃ks ds d ps,xV φ fn.results.toList=aa ds/\rW ds=aa d/\Dr d (hY ks res)=aa ps/\ay ps/\vP ks.length res=ab /\
  jH ks σ1=aa σ'/\kn σ'=ab/\dy ks=ab/\(∀j,j<a->ks[j]?=aa j)
def qZ(P:aq)(fn:Func)(a:Nat)(res:D)(σ':List aP):Post:=λe φ σ1 =>
 (e=.ret∨e=.normal)/\∃ks d ps,zD P fn φ d/\Dr d (hY ks res)=aa ps/\ay ps/\vP ks.length res=ab /\
  jH ks σ1=aa σ'/\kn σ'=ab/\dy ks=ab/\(∀j,j<a->ks[j]?=aa j)
def cw.toJ{P:aq}{fn:Func}{a:Nat}{res:D}{σ':List aP}{e:Exit}{φ:Fr}{σ1:List aP}(h:cw fn a res σ' e φ σ1):qZ P fn a res σ' e φ σ1:=by obtain⟨c,ks,ds,d,ps,h1,h2,b⟩:=h;exact⟨c,ks,d,ps,zD.of h1 h2,b⟩
def dZ.D2{P:aq}{ι:Type}{X:Cx P}{f:aH}{fn:Func}{c:Code}{args:List D}{σ:List aP}{σ':ι->List aP}{res:ι->D}(hf:P.funcs[f]?=aa fn)(C:(fn.name== "runtime.NumGoroutine")=ae)(m:fn.body=aa c)(W:args.length<=fn.ntmps)(h:∀s a,cq fn.ntmps σ s (iY 0 args) a->aE σ s->∀(b:aR) (k:List Item) (cs:List aR) (S:au->St->Prop),b.kind≠.early->b.roundOf=af ->
  (∀e φ' σ1 s' a',(∃j,qZ P fn σ.length (res j) (σ' j) e φ' σ1)->cq fn.ntmps σ1 s' φ' a'->aE σ1 s'->cU σ s σ1 s'->ends X S b k cs e a' s')->fE X S (G (b.aT a (.code c::k)) cs) s):dZ X f args σ res σ':=by
 refine⟨⟨fn,hf,C,by grind⟩,λs vs hr hh S cs hS=>?_⟩;obtain⟨hl,hg⟩:=ck.get hr;let b:aR:={fn:=f,tmps:=#[],todo:=[],defers:=[],mode:=.run,kind:=.normal,roundOf:=af}
 have r:Frame.enter P f vs.toArray .normal=b.aT {tmps:=vs.toArray++Array.replicate (fn.ntmps-vs.toArray.size) ai,defers:=[]} [.code c]:=by simp[Frame.enter,Frame.aT,hf,m,b]
 rw[r];refine h s {tmps:=vs.toArray++Array.replicate (fn.ntmps-vs.toArray.size) ai,defers:=[]} ⟨by grind,⟨[],aw⟩,λt=>?_⟩ hh b [] cs S (by simp[b]) rfl ?_
 .rw[ot];simp only[ll,cn,lF];have:=hg t;rcases cG t vs.length with vJ|QY
  .have e:(vs.toArray++Array.replicate (fn.ntmps-vs.toArray.size) ai).getD t ai=(vs[t]?).getD ai:=by simp only[dN];grind
   grind
  .rw[rH (by omega)];trivial
 .rintro e φ' σ1 s1 a1 ⟨O,T,ks,d,ps,h1,h3,h4,h5,Q,U,h8,h9⟩ f' N st;obtain⟨Y,R⟩:=yq U;have fin:∀(fr:aR) s2,cp s1 s2->fr.fn=f->fr.tmps=a1.tmps->fr.defers=a1.defers->fr.mode=.returning->fr.kind=.normal->fE X S (G fr cs) s2:=by
   intro fr s2 sX e1 e2 e3 e4 e5;have f2:=f'.rely sX N;have n:=N.rely sX;have g:=st.trans sX.stepW;obtain⟨v,r2,r1⟩:=h1 f2;obtain⟨i,z⟩:=vM (l':=s2.β) Q n.len;have r4:=(ou h3 h4 r2).sub Q z h5;obtain⟨c1,c2⟩:=iI Q;obtain⟨d1,d2⟩:=iI z;have H:∀L∈i,L∈s2.β:=zC z;have F:aE (σ' O) {s2 with β:=i}:=by obtain⟨I,_⟩:=n.sub Q z Y h8;refine⟨I.mem,I.len,λj B L hB hL=>?_,I.eB,I.lt,λb m=>⟨(n.own b m).1,λL hL=>(n.own b m).2 L (H L hL)⟩⟩;exact et.plain (σ:=σ' O) (s:={s2 with β:=i,own:=vR s2 i}) (s':={s2 with β:=i}) rfl rfl (kM Y B (bJ hB)) (I.box j B L hB hL)
   have V:cU σ s (σ' O) {s2 with β:=i}:=by refine⟨g.size,g.fi,g.mem,g.iU,λL hL b m=>g.vb _ (H L hL) b m,λl B L hB hL=>?_,g.os,g.tape,g.output,g.own⟩;have hl:l<σ.length:=(bZ.1 hB).1;obtain⟨B',L',p1,p2,p3⟩:=g.box l B L hB hL;grind
   obtain⟨ls,J⟩:=f2.defers;refine ri ls fr s2 _ n.lH (by simp) e4 (by rw[e3];exact J.taken n) λK p=>?_;have q:cp {s2 with β:=i} {K with β:=i}:=by
    refine⟨rfl,p.M,p.own,p.size,λb m=>p.fi b (m.imp id ?_),p.mem,p.os,p.tape,p.output⟩;rintro⟨L,hL,m⟩;obtain⟨j,hj,rfl⟩:=dL hL;have A:j<ks.length:=by grind
    obtain⟨y,Z,y2⟩:=d2 j _ (br A);obtain⟨x,x1,x2⟩:=c2 j _ (br A);rw[br hj]at Z;cases Z;refine⟨_,_,y2,λhc=>?_,m⟩;rw[J.BO _ hc]at x2;cases x2;exact nq R _ (bJ x1) rfl
   have hG:eu K {K with β:=i}:=⟨rfl,λ_ _ _ h=>h,λ_ _ _=>rfl,λb o v hv=>p.mem b o v (by rw[<-p.M];exact hv),λb m=>m.imp id λ⟨L,hL,m⟩=>⟨L,by rw[p.β];grind,m⟩⟩
   refine .ghost hG (hS O _ v _ ⟨e1,e4,rfl,e5,fn,by grind,λw hw=>?_⟩ (r4.mono q.stepW.ext F.len) (F.rely q) (V.trans q.stepW));show(results fn fr.tmps).run P w=_/\∀e∈(results fn fr.tmps).events P w #[],_;rw[e2];have E:∀b o u,s2.M b o=aa u->w.cell? ⟨b,o,af⟩=aa u:=λb o u h=>hw b o u (by show K.M b o=aa u;rw[p.M];exact h);refine⟨(r1 w E).1,λe T=>?_⟩;obtain⟨b,o,u,q1,q2⟩:=(r1 w E).2 e T;exact⟨b,o,u,q1,by show K.M b o=aa u;rw[p.M];exact q2⟩
  rcases T with rfl|rfl
  .intro pre;exact .ctl N rfl (λ_=>DC rfl) λs2 sX=>fin _ s2 sX rfl rfl (iQ _) rfl rfl
  .exact .ctl N rfl (λ_=>DD rfl) λs2 sX=>fin _ s2 sX rfl rfl (iQ _) rfl rfl
def dZ.Qa{P:aq}{ι:Type}{X:Cx P}{f:aH}{fn:Func}{c:Code}{args:List D}{σ:List aP}{σ':ι->List aP}{res:ι->D}(i:P.funcs[f]?=aa fn)(d:(fn.name== "runtime.NumGoroutine")=ae)(l:fn.body=aa c)(g:args.length<=fn.ntmps)(h:∀s a,cq fn.ntmps σ s (iY 0 args) a->aE σ s->∀(b:aR) (k:List Item) (cs:List aR) (S:au->St->Prop),b.kind≠.early->b.roundOf=af ->
  (∀e φ' σ1 s' a',(∃j,cw fn σ.length (res j) (σ' j) e φ' σ1)->cq fn.ntmps σ1 s' φ' a'->aE σ1 s'->cU σ s σ1 s'->ends X S b k cs e a' s')->fE X S (G (b.aT a (.code c::k)) cs) s):dZ X f args σ res σ' :=
 dZ.D2 i d l g λs a f hh b k cs S h1 h2 hQ=>h s a f hh b k cs S h1 h2 λe φ' σ1 s' a' ⟨j,q⟩=>hQ e φ' σ1 s' a' ⟨j,q.toJ⟩
def dZ.Jf{P:aq}{ι:Type}{X:Cx P}{f:aH}{fn:Func}{c:Code}{args:List D}{σ:List aP}{σ':ι->List aP}{res:ι->D}(m:P.funcs[f]?=aa fn)(d:(fn.name== "runtime.NumGoroutine")=ae)(l:fn.body=aa c)(g:args.length<=fn.ntmps)(h:AW X fn.ntmps c (λe φ σ1=>∃j,qZ P fn σ.length (res j) (σ' j) e φ σ1) (iY 0 args) σ):dZ X f args σ res σ' :=
 dZ.D2 m d l g λs a f hh b k cs S hk _ i=>h s a f hh b k cs S hk i
def dZ.intro{P:aq}{ι:Type}{X:Cx P}{f:aH}{fn:Func}{c:Code}{args:List D}{σ:List aP}{σ':ι->List aP}{res:ι->D}(m:P.funcs[f]?=aa fn)(d:(fn.name== "runtime.NumGoroutine")=ae)(l:fn.body=aa c)(g:args.length<=fn.ntmps)(h:AW X fn.ntmps c (λe φ σ1=>∃j,cw fn σ.length (res j) (σ' j) e φ σ1) (iY 0 args) σ):dZ X f args σ res σ' :=
 dZ.Qa m d l g λs a f hh b k cs S hk _ i=>h s a f hh b k cs S hk i
def Ev.intro{P:aq}{X:Cx P}{f:aH}{fn:Func}{c:Code}{args:List D}{σ σ':List aP}{res:D}(d:P.funcs[f]?=aa fn)(a:(fn.name== "runtime.NumGoroutine")=ae)(e:fn.body=aa c)(b:args.length<=fn.ntmps)(h:AW X fn.ntmps c (cw fn σ.length res σ') (iY 0 args) σ):Ev X f args σ res σ' :=
 (dZ.intro d a e b (AW.mono h λ_ _ _ q=>⟨(),q⟩)).DK
end
inductive It where
 |code (c:Code)
 |blk (id:Nat)
 |ops (all rest:List ar)
def AK{P:aq}(X:Cx P)(N:Nat)(Qf:Post):List It->Post
 |[],e,φ,σ=>Qf e φ σ
 |.code c::K,.normal,φ,σ=>AW X N c (AK X N Qf K) φ σ
 |.code _::K,e,φ,σ=>AK X N Qf K e φ σ
 |.blk id::K,.exit IV,φ,σ=>if IV=id then AK X N Qf K .normal φ σ else AK X N Qf K (.exit IV) φ σ
 |.blk _::K,e,φ,σ=>AK X N Qf K e φ σ
 |.ops all rest::K,.normal,φ,σ=>ia X N all rest (AK X N Qf K .normal) φ σ
 |.ops _ _::K,e,φ,σ=>AK X N Qf K e φ σ
section
variable {P:aq}{X:Cx P}{N:Nat}{Qf:Post}{K:List It}{φ:Fr}{σ:List aP}
def AK.of_code{c:Code}(h:AK X N Qf [.code c] .normal φ σ):AW X N c Qf φ σ:=h
theorem AK.skip(h:AK X N Qf K .normal φ σ):AK X N Qf (.code .skip::K) .normal φ σ:=AW.skip h
theorem AK.seq{x y:Code}(h:AK X N Qf (.code x::.code y::K) .normal φ σ):AK X N Qf (.code (.seq x y)::K) .normal φ σ:=by refine AW.seq (AW.mono h ?_);intro e φ' σ' q;cases e<;>exact q
theorem AK.block{id:Nat}{c:Code}(h:AK X N Qf (.code c::.blk id::K) .normal φ σ):AK X N Qf (.code (.block id c)::K) .normal φ σ:=by refine AW.block (AW.mono h ?_);intro e φ' σ' q;cases e<;>exact q
theorem AK.RY{id:Nat}(h:AK X N Qf K .normal φ σ):AK X N Qf (.blk id::K) .normal φ σ:=h
theorem AK.region{id:Nat}{ops:Array ar}(h:AK X N Qf (.ops ops.toList ops.toList::K) .normal φ σ):AK X N Qf (.code (.region id ops ae)::K) .normal φ σ:=AW.region h
theorem AK.Ki{all:List ar}(h:AK X N Qf K .normal φ σ):AK X N Qf (.ops all []::K) .normal φ σ:=ia.nil h
def AK.sq:∀{K:List It},Qf .ret φ σ->AK X N Qf K .ret φ σ
 |[],h=>h
 |.code _::K,h=>AK.sq (K:=K) h
 |.blk _::K,h=>AK.sq (K:=K) h
 |.ops _ _::K,h=>AK.sq (K:=K) h
def AK.ret(h:Qf .ret φ σ):AK X N Qf (.code .ret::K) .normal φ σ:=AW.ret (AK.sq h)
def jO(id:Nat):List It->Option (List It)
 |[]=>af
 |.blk i::K=>match aA id i with|true=>aa K|false=>jO id K
 |_::K=>jO id K
def AK.wH{id:Nat}:∀{K a:List It},jO id K=aa a->AK X N Qf a .normal φ σ->AK X N Qf K (.exit id) φ σ
 |[],_,h,_=>by cases h
 |.blk i::K,a,h,q=>by
  simp only[jO]at h;cases c:aA id i with
  |true =>
   simp[c]at h;subst h;have e:=bR c;simp only[AK,e,cn];exact q
  |false =>
   simp[c]at h;have b:id≠i:=λe=>by grind[Nat.beq_refl]
   simp only[AK,b,b9];exact AK.wH h q
 |.code _::K,a,h,q=>AK.wH (K:=K) h q
 |.ops _ _::K,a,h,q=>AK.wH (K:=K) h q
theorem AK.exit{id:Nat}{a:List It}(hk:jO id K=aa a)(h:AK X N Qf a .normal φ σ):AK X N Qf (.code (.exit id)::K) .normal φ σ:=AW.exit (AK.wH hk h)
theorem AK.cond{c:ak}{x y:Code}{b:Bool}{t:Nat}(d:c=.tmp t)(hl:look φ t=.e (.one (.c (.bool b))))(f:b=ab->AK X N Qf (.code x::K) .normal φ σ)(a:b=ae->AK X N Qf (.code y::K) .normal φ σ):AK X N Qf (.code (.cond c x y)::K) .normal φ σ:=AW.cond d hl f a
def AK.loop{S:Type}{c:Code}(I:S->Prop)(fr:S->Fr)(st:S->List aP)(b:S->Nat)(x:S)(g:I x)(a:oq φ (fr x))(d:st x=σ)(round:∀x,I x->AK X N (λe φ' σ'=>match e with
   |.normal=>∃y,I y/\b y<b x/\oq φ' (fr y)/\σ'=st y
   |e=>AK X N Qf K e φ' σ') [.code c] .normal (fr x) (st x)):AK X N Qf (.code (.loop c)::K) .normal φ σ:=by refine AW.loop I fr st b x g a d λy f=>AW.mono (round y f) ?_;intro e φ' σ' q;cases e<;>exact q
end
def dx{α a:Type}:List α->(List α->Option a)->Option a
 |[],k=>k []
 |x::r,k=>dx r λq=>k (x::q)
theorem c8{α a:Type}(l:List α)(k:List α->Option a):dx l k=k l:=by
 induction l generalizing k with
 |nil=>rfl
 |cons x r b=>simp[dx,b]
def zR(φ:Fr)(all:List ar)(j:Nat):Option (Option Bool) :=
 match dw j all with
 |some oj=>match oj.dst with
  |some d=>match look φ d with
   |.e (.one (.c (.bool ab)))=>aa (aa ab)
   |.e (.one (.c (.bool ae)))=>aa (aa ae)
   |.fa []=>aa af
   |_=>af
  |none=>af
 |none=>af
def ql{N:Nat}{φ:Fr}{all:List ar}{j:Nat}{r:Option Bool}(h:zR φ all j=aa r){σ:List aP}{s:St}{a:Act}(f:cq N σ s φ a):yielded all.toArray a.tmps j=r:=by
 unfold zR at h;rw[fp]at h;unfold yielded;cases k:all[j]? with
 |none=>grind
 |some oj =>
  simp only[k]at h;simp only[ij,k,n7];cases o:oj.dst with
  |none=>grind
  |some d =>
   simp only[o]at h;simp only[n7];have c:=f.slot d;have key:∀v,a.tmps.getD d ai=v->v≠ai->a.tmps[d]?=aa v:=by intro v e n;simp only[dN]at e;grind
   split at h
   .rename_i g;cases h;rw[g]at c;have b:=eY c;generalize e:a.tmps.getD d ai=v at b;cases b;rw[key _ e (by simp[ai])]
   .rename_i g;cases h;rw[g]at c;have b:=eY c;generalize e:a.tmps.getD d ai=v at b;cases b;rw[key _ e (by simp[ai])]
   .rename_i g;cases h;rw[g]at c;obtain⟨vs,m,l⟩:=c;have i:vs=[]:=by cases vs with
     |nil=>rfl
     |cons _ _=>exact l.elim
    subst i;simp only[dN]at m;grind
   grind
def W5(T:List (Nat×TI))(φ:Fr)(σ:List aP)(o:ar):Option (D×List aP×List Prop) :=
 match o.op with
 |.move x|.assign x=>aa (bP φ x,σ,[])
 |.pick c a b=>match bP φ c with
  |.e (.one (.c (.bool ab)))=>aa (bP φ a,σ,[])
  |.e (.one (.c (.bool ae)))=>aa (bP φ b,σ,[])
  |_=>af
 |.binOp op _ x y _=>match bP φ x,bP φ y with
  |.e (.one (.c a)),.e (.one (.c b))=>match NB op a b with
   |some (c,obs)=>aa (.e (.one (.c c)),σ,obs)
   |none=>af
  |_,_=>af
 |.unOp op _ x=>match bP φ x with
  |.e (.one (.c a))=>match W4 op a with
   |some c=>aa (.e (.one (.c c)),σ,[])
   |none=>af
  |_=>af
 |.extract x j=>match bP φ x with
  |.fa xs=>match dw j xs with
   |some e=>aa (.e e,σ,[])
   |none=>af
  |_=>af
 |.alloc E=>match bD T E with
  |some i=>dx (σ++[.cells E (i.zero.map A.c)]) λσ'=>aa (.e (.one (.ptr σ.length 0)),σ',[])
  |none=>af
 |.box E x=>match km (bP φ x)with
  |some cs=>dx (σ++[.cells E cs]) λσ'=>aa (.e (.one (.ptr σ.length 0)),σ',[])
  |none=>af
 |.load t x=>match bD T t with
  |some i=>match bP φ x with
   |.e (.one (.ptr l off))=>match dw l σ with
    |some (.cells _ cs)=>match kP i (fO off cs)with
     |some e=>aa (.e e,σ,[])
     |none=>af
    |_=>af
   |.e (.one (.c (.rp cs)))=>match kP i (cs.map A.c)with
    |some e=>aa (.e e,σ,[])
    |none=>af
   |_=>af
  |none=>af
 |.store t x y=>match bD T t with
  |some i=>match bP φ x with
   |.e (.one (.ptr l off))=>match dw l σ with
    |some (.cells E cs)=>match km (bP φ y)with
     |some new=>match aA new.length i.size with
      |true=>match fy off new cs with
       |some nb=>dx (dH.qD l (.cells E nb) σ) λσ'=>aa (.any,σ',[])
       |none=>af
      |false=>af
     |none=>af
    |_=>af
   |_=>af
  |none=>af
 |.fieldAddr t x f=>match jK T t f with
  |some (k,_)=>match bP φ x with
   |.e (.one (.ptr l off))=>aa (.e (.one (.ptr l (off+k))),σ,[])
   |.e (.one (.c (.rp cs)))=>aa (.e (.one (.c (.rp (fO k cs)))),σ,[])
   |_=>af
  |none=>af
 |.field t x f=>match jK T t f with
  |some (k,j)=>match bP φ x with
   |.e (.agg cs)=>match kP j (fO k cs)with
    |some e=>aa (.e e,σ,[])
    |none=>af
   |_=>af
  |none=>af
 |.nilCheck x=>match bP φ x with
  |.e (.one (.ptr l off))=>aa (.e (.one (.ptr l off)),σ,[])
  |.e (.one (.c (.rp cs)))=>aa (.e (.one (.c (.rp cs))),σ,[])
  |_=>af
 |.build t parts=>match zO T (bP φ) t parts.toList with
  |some cs=>aa (.e (.agg cs),σ,[])
  |none=>af
 |.buildSlice t n parts=>match NC T (bP φ) t n parts.toList with
  |some (k,es)=>aa (.e (.one (.c (.sl ab k n λi=>es.getD i []))),σ,[])
  |none=>af
 |_=>af
theorem DV{P:aq}{T:List (Nat×TI)}(hT:cT P T){φ:Fr}{σ σ':List aP}{o:ar}{x:D}{obs:List Prop}(h:W5 T φ σ o=aa (x,σ',obs))(m:ay obs):bG P o (bP φ) σ x σ':=by
 unfold W5 at h;split at h
 .grind [bG.move]
 .grind [bG.assign]
 .rename_i c a b d;split at h
  .rename_i e;cases h;exact bG.pick d e
  .rename_i e;cases h;exact bG.pick d e
  grind
 .grind [bG.binOp]
 .grind [bG.unOp]
 .grind [bG.extract,b5]
 .grind [c8,bG.alloc]
 .grind [c8,bG.box]
 .rename_i t y d;split at h
  .grind [bG.FU,b5,bG.JA]
  grind
 .rename_i t y z d;split at h
  .rename_i i hi;split at h
   .rename_i l off hx;split at h
    .grind [c8,jc,bG.store,b5,Nat.eq_of_beq_eq_true]
    grind
   grind
  grind
 .rename_i t y f d;split at h
  .rename_i k j g;split at h
   .rename_i l off hx;cases h;exact bG.se hT d hx g
   .grind [bG.uj]
   grind
  grind
 .grind [bG.field]
 .grind [bG.uk,bG.wy]
 .grind [bG.build]
 .grind [bG.buildSlice]
 grind
def fW(N:Nat):Option Nat->Bool
 |some d=>bw (d+1) N
 |none=>ab
def gC{N:Nat}{d:Option Nat}(h:fW N d=ab):∀t,d=aa t->t<N:=by intro t a;subst a;exact cZ h
theorem dC{all:List ar}{o:ar}(h:o.guard=af){a:Act}:bc o (yielded all.toArray a.tmps)=ab:=by simp[bc,h]
section
variable {P:aq}{T:List (Nat×TI)}{o:ar}{g:ak->D}{σ:List aP}
def rj(g:ak->D):Option ak->Option (Option Int)
 |none=>aa af
 |some x=>match g x with
  |.e (.one (.c (.int _ j)))=>aa (aa j)
  |_=>af
def gw{s:St}{a:ak->ah}(c:∀y,dn σ s (a y) (g y)){x:Option ak}{b:Option Int}(h:rj g x=aa b):(x.map a=af/\b=af)∨∃k j,x.map a=aa (.int k j)/\b=aa j:=by
 cases x with
 |none=>cases h;grind
 |some y =>
  right;simp only[rj]at h;split at h
  .rename_i k j d;cases h;have:=c y;rw[d]at this;have:=eY this;generalize e:a y=v at this;cases this;grind
  grind
def cO(d:Nat):Option Int->Nat
 |none=>d
 |some j=>j.toNat
def fR(n:Nat):Option Int->Option Int->List Prop
 |none,af=>[]
 |some l,af=>[0<=l,l<=n]
 |none,aa h=>[0<=h,h<=n]
 |some l,aa h=>[0<=l,l<=h,h<=n]
def lW{isS:Bool}{n cap:Nat}(q:n<=cap){lo hi:Option ah}{l h:Option Int}(m:(lo=af/\l=af)∨∃k j,lo=aa (.int k j)/\l=aa j)(i:(hi=af/\h=af)∨∃k j,hi=aa (.int k j)/\h=aa j)(c:ay (fR n l h))(w:az):(ba isS n cap lo hi af).run P w=.ok (cO 0 l,cO n h,cap) w/\cO 0 l<=cO n h/\cO n h<=n:=by
 rcases m with⟨rfl,rfl⟩|⟨f,l,rfl,rfl⟩<;>rcases i with⟨rfl,rfl⟩|⟨d,h,rfl,rfl⟩
 .exact⟨by simp[ba,cO],by simp[cO],by simp[cO]⟩
 .obtain⟨a,b⟩:0<=h/\h<=(n:Int):=c;refine⟨?_,by simp[cO],by simp only[cO];omega⟩;simp[ba,cO,run_sliceBound (P:=P) w d h cap _ a (by omega)]
 .obtain⟨a,b⟩:0<=l/\l<=(n:Int):=c;refine⟨?_,by simp only[cO];omega,by simp[cO]⟩;simp[ba,cO,run_sliceBound (P:=P) w f l n _ a b]
 .obtain⟨a,b,p⟩:0<=l/\l<=h/\h<=(n:Int):=c;have e:((h.toNat:Nat):Int)=h:=rJ (by omega);refine⟨?_,by simp only[cO];omega,by simp only[cO];omega⟩;simp[ba,cO,run_sliceBound (P:=P) w d h cap _ (by omega) (by omega),run_sliceBound (P:=P) w f l h.toNat _ a (by omega)]
def dF(w:az)(k:IntKind)(i:Int)(y:Nat)(code:BoundsCode)(b:0<=i)(a:i<=(y:Int))(es:Array Event):(Instr.sliceBound (.int k i) y code).events P w es=es:=by simp[Instr.sliceBound,asIntOf,b,a]
def nh{isS:Bool}{n cap:Nat}{lo hi:Option ah}{l h:Option Int}(s:n<=cap)(p:(lo=af/\l=af)∨∃k j,lo=aa (.int k j)/\l=aa j)(m:(hi=af/\h=af)∨∃k j,hi=aa (.int k j)/\h=aa j)(f:ay (fR n l h))(w:az)(es:Array Event):(ba isS n cap lo hi af).events P w es=es:=by
 have r:∀(isS:Bool) (v:Option ah) (d:Nat) (w:az) (es:Array Event),v=af->(ba isS n cap af af af).events P w es=es:=λisS v d w es _=>by simp[ba]
 rcases p with⟨rfl,rfl⟩|⟨i,l,rfl,rfl⟩<;>rcases m with⟨rfl,rfl⟩|⟨c,h,rfl,rfl⟩
 .simp[ba]
 .obtain⟨a,b⟩:0<=h/\h<=(n:Int):=f;simp[ba,dF (P:=P) w c h cap _ a (by omega)]
 .obtain⟨a,b⟩:0<=l/\l<=(n:Int):=f;simp[ba,dF (P:=P) w i l n _ a b]
 .obtain⟨a,b,q⟩:0<=l/\l<=h/\h<=(n:Int):=f;have e:((h.toNat:Nat):Int)=h:=rJ (by omega);simp[ba,run_sliceBound (P:=P) w c h cap _ (by omega) (by omega),dF (P:=P) w c h cap _ (by omega) (by omega),dF (P:=P) w i l h.toNat _ a (by omega)]
def r9(s:List UInt8):Option Int->Option Int->List UInt8
 |none,af=>s
 |some l,af=>s.drop l.toNat
 |none,aa h=>s.take h.toNat
 |some l,aa h=>(s.take h.toNat).drop l.toNat
theorem bG.Jx(hT:cT P T){t:aj}{x:ak}{lo hi:Option ak}(h:o.op=.slice t x lo hi af){i:TI}(m:bD T t=aa i)(y:i.desc=.string){s:List UInt8}{l u:Option Int}(z:g x=.e (.one (.c (.str s))))(hl:rj g lo=aa l)(q:rj g hi=aa u)(A:ay (fR s.length l u)):bG P o g σ (.e (.one (.c (.str (r9 s l u))))) σ:=by
 refine .quiet λst ρ hh hr=>?_;have h1:=hr x;rw[z]at h1;replace h1:=eY h1;generalize b:ρ x=vx at h1;cases h1 with
 |@str sb _ p r =>
 have f:sb.size=s.length:=by rw[<-p];exact jh.symm
 obtain⟨v,j,d⟩:=lW (P:=P) (isS:=ae) (n:=sb.size) (cap:=sb.size) (bg _) (gw hr hl) (gw hr q) (by grind) st.w;have a:=(hT t i m).run_underlying (w:=st.w);rw[y]at a;have k:=nh (P:=P) (isS:=ae) (n:=sb.size) (cap:=sb.size) (bg _) (gw hr hl) (gw hr q) (by grind) st.w;refine⟨.string (sb.extract (cO 0 l) (cO sb.size u)),?_,Rd.str ?_ ?_,by simp[av,h,b,Instr.sliceAt,a,Instr.slice,k]⟩
 .simp[av,h,b,Instr.sliceAt,a,Instr.slice,v]
 .rw[Lib.extract_data,p,f];rw[f]at j d;cases l<;>cases u<;>simp only[r9,cO]at j d⊢
  .simp
  .simp
  .grind [List.take_of_length_le]
  .rw[List.drop_take]
 .cases l<;>cases u<;>simp only[r9,pW,List.length_take]<;>omega
def jJ(l:Nat)(f:Nat->List C):Nat->List C:=λi=>f (l+i)
def Rj(tt:Bool):Option Int->Bool
 |none=>tt
 |some _=>ae
theorem bG.NL(hT:cT P T){t:aj}{x:ak}{lo hi:Option ak}(h:o.op=.slice t x lo hi af){i p:TI}{E:aj}(q:bD T t=aa i)(I:i.desc=.slice E)(J:bD T E=aa p){tt:Bool}{n:Nat}{es:Nat->List C}{l u:Option Int}(K:∀s v,dn σ s v (g x)->Rd s.M v (.sl tt p.size n es))(hl:rj g lo=aa l)(z:rj g hi=aa u)(y:ay (fR n l u)):
  bG P o g σ (.e (.one (.c (.sl (Rj tt u) p.size (cO n u-cO 0 l) (jJ (cO 0 l) es))))) σ:=by
 refine .quiet λst ρ hh hr=>?_;have h1:=K st _ (hr x);obtain⟨a,cap,vs,r,k,G,H,N,O⟩:=h1.flat;rw[r]at h1;obtain⟨B,F,L⟩:=lW (P:=P) (isS:=ab) k (gw hr hl) (gw hr z) y st.w;have d:=(hT t i q).run_underlying (w:=st.w);rw[I]at d;refine⟨.slice (if cap=cO 0 l then a else a.map (·.add (cO 0 l*p.size))) (cO n u-cO 0 l) (cap-cO 0 l),?_,?_,by simp[av,h,r,Instr.sliceAt,d,Instr.slice,B,nh (P:=P) (isS:=ab) k (gw hr hl) (gw hr z) y st.w]⟩
 .simp[av,h,r,Instr.sliceAt,d,Instr.slice,B,(hT E p J).run_sizeOf]
 .cases h1 with
  |sl b off f _ _ _ hk ha hm' MY =>
   refine Rd.sl b (off+cO 0 l*p.size) (λi j=>f (cO 0 l+i) j) (by omega) (by omega) ?_ (λi hi=>hk _ (by omega)) (λA=>?_) (λi hi j c hj=>?_) (λi hi j c hj=>MY _ (by omega) j c hj)
   .intro m;cases u with
    |none=>simp only[Rj]at m;have:=H m;simp only[cO];omega
    |some u=>cases m
   .rw[aY (by omega),ha (by omega)];simp[dq]
   .have:=hm' (cO 0 l+i) (by omega) j c hj;grind
def bG.NJ(hT:cT P T){a dst:aj}{x:ak}(h:o.op=.convert a dst x){i i2:TI}{k k':IntKind}{j:Int}(hi:bD T a=aa i)(l:bD T dst=aa i2)(n:i2.desc=.int k')(p:g x=.e (.one (.c (.int k j))))(m:bA k' j):
  bG P o g σ (.e (.one (.c (.int k' j)))) σ:=by refine .quiet λst ρ hh hr=>?_;have h1:=hr x;rw[p]at h1;replace h1:=eY h1;generalize d:ρ x=vx at h1;cases h1;have f:=(hT a i hi).run_underlying (w:=st.w);have b:=(hT dst i2 l).run_underlying (w:=st.w);rw[n]at b;exact⟨.int k' j,by simp[av,h,d,convert,f,b,Conv.intToInt,mq m],Rd.int m,by simp[av,h,d,convert,f,b,Conv.intToInt]⟩
theorem bG.NK(hT:cT P T){a dst:aj}{x:ak}(h:o.op=.convert a dst x){i i2:TI}{s:List UInt8}(hi:bD T a=aa i)(k:bD T dst=aa i2)(l:i2.desc=.string)(m:g x=.e (.one (.c (.str s)))):
  bG P o g σ (.e (.one (.c (.str s)))) σ:=by refine .quiet λst ρ hh hr=>?_;have h1:=hr x;rw[m]at h1;have j:=eY h1;generalize d:ρ x=vx at j;cases j;have f:=(hT a i hi).run_underlying (w:=st.w);have b:=(hT dst i2 k).run_underlying (w:=st.w);rw[l]at b;exact⟨_,by simp[av,h,d,convert,f,b];rfl,by grind,by simp[av,h,d,convert,f,b]⟩
def wq(f:Nat->List C):Nat->Nat->Option (List UInt8)
 |_,0=>aa []
 |i,n+1=>match f i with
  |[.int .u8 v]=>match wq f (i+1) n with
   |some r=>aa (UInt8.ofNat v.toNat::r)
   |none=>af
  |_=>af
def yx{M:Mem}{f:Nat->List C}:∀{n i:Nat}{r:List UInt8}{vs:List ah},wq f i n=aa r->vs.length=n->(∀j,j<n->∀c,(f (i+j))[0]?=aa c->∃v,vs[j]?=aa v/\Rd M v c) ->
  ∃xs:List Int,vs=xs.map (Value.int .u8)/\r=xs.map (λx=>UInt8.ofNat x.toNat)
 |0,i,r,vs,h,b,_=>by cases h;exact⟨[],by grind,rfl⟩
 |n+1,i,r,[],h,b,_=>by grind
 |n+1,i,r,v::vs,h,b,a=>by
  simp only[wq]at h;split at h
  .rename_i x t;split at h
   .rename_i q k;cases h;obtain⟨u,d,e⟩:=a 0 (by omega) (.int .u8 x) (by grind)
    simp at d;subst d;cases e;obtain⟨xs,l,s⟩:=yx (vs:=vs) k (by grind) (λj m c p=>by
     have:=a (j+1) (by omega) c (by grind)
     simpa using this)
    exact⟨x::xs,by grind,by grind⟩
   grind
  grind
def oM{P:aq}(w:az){F:ah->ByteArray->Sem (ForInStep ByteArray)}(a:∀x s,F (.int .u8 x) s=pure (.yield (s.push (UInt8.ofNat x.toNat)))):∀(xs:List Int)(s:ByteArray),
  (forIn (m:=Sem) (xs.map (Value.int .u8)) s F).run P w=.ok ⟨s.data++(xs.map λx=>UInt8.ofNat x.toNat).toArray⟩ w
 |[],s=>by simp
 |x::xs,s=>by simp only[p9,List.forIn_cons,a,bO,dt,bX];rw[oM w a xs];congr 2;apply Array.ext';simp[ByteArray.push]
end
def Kd(P:aq):List TypeDesc->List Field->Nat->Prop
 |[],[],_=>True
 |d::ds,f::fs,i=>f.name≠ "_"/\f.offset=i/\P.underlying f.type=aa d/\(match d with|.int _|.string|.bool=>True|_=>False)/\Kd P ds fs (i+1)
 |_,_,_=>False
def U2(d:Nat)(xs ys:Array ah)(f:Field)(_:Option Bool×Unit):Sem (ForInStep (Option Bool×Unit)) :=
 if f.name= "_" then pure (ForInStep.yield (af,()))
 else do
  let a<-part f.type xs f.offset;let b<-part f.type ys f.offset;let r<-aX d f.type a b
  if r=ae then pure (ForInStep.done (aa ae,()))else pure (ForInStep.yield (af,()))
def su{P:aq}(w:az)(d:Nat)(xs ys:Array ah):∀{ds:List TypeDesc}{fs:List Field}{i:Nat}{vs ws:List ah}{b:Bool},Kd P ds fs i->jP ds vs ws=aa b->(∀j v,vs[j]?=aa v->xs[i+j]?=aa v)->(∀j v,ws[j]?=aa v->ys[i+j]?=aa v) ->
  (Op.eqFields (d+1) xs ys fs).run P w=.ok b w/\∀es,(forIn fs (af,()) (U2 (d+1) xs ys)).events P w es=es
 |[],[],i,[],[],b,_,h,_,_=>by cases h;simp[Op.eqFields]
 |[],[],i,_::_,_,b,_,h,_,_=>by cases h
 |[],[],i,[],_::_,b,_,h,_,_=>by cases h
 |[],_::_,i,_,_,b,x,_,_,_=>x.elim
 |_::_,[],i,_,_,b,x,_,_,_=>x.elim
 |t::ds,f::fs,i,[],_,b,_,h,_,_=>by cases h
 |t::ds,f::fs,i,_::_,[],b,_,h,_,_=>by cases h
 |t::ds,f::fs,i,v::vs,u::us,b,⟨A,E,q,I,J⟩,h,G,C=>by
  simp only[jP]at h;cases n:ru t v u with
  |none=>grind
  |some a =>
   cases F:jP ds vs us with
   |none=>grind
   |some b' =>
    simp[n,F]at h;subst h;obtain⟨K,r⟩:=su w d xs ys J F (λj v H=>by have:=G (j+1) v (by grind);grind) (λj v H=>by have:=C (j+1) v (by grind);grind);have c:xs[i]?=aa v:=by simpa using G 0 v rfl
    have e:ys[i]?=aa u:=by simpa using C 0 u rfl
    have l:(isAgg f.type).run P w=.ok ae w:=by unfold isAgg underlying;cases t<;>simp at I<;>simp[q]
    have p:∀(k:Array ah) (z:ah),k[i]?=aa z->(part f.type k f.offset).run P w=.ok z w:=by intro k z y;unfold part;simp[l,E,y]
    have m:∀(k:Array ah) (z:ah),k[i]?=aa z->∀es,(part f.type k f.offset).events P w es=es:=by intro k z y es;unfold part;simp[l,E,y]
    have s:∀es,(aX (d+1) f.type v u).events P w es=es:=by
     intro es;unfold ru at n;split at n<;>first
      |(cases n;done)
      |(unfold aX;simp[underlying,q];done)
      |(unfold aX;simp[underlying,q];split<;>rfl)
    have B:(aX (d+1) f.type v u).run P w=.ok a w:=by unfold ru at n;grind[run_equalIn_int,run_equalIn_string,run_equalIn_bool]
    refine⟨?_,λes=>?_⟩
    .rw[Op.eqFields.eq_2,bl A];simp only[bO,p xs v c,p ys u e,B,bX];cases a
     .simp
     grind
    .rw[List.forIn_cons];simp only[U2,A,b9,aK,bO,p xs v c,p ys u e,B,bX,aO,m xs v c,m ys u e,s];cases a
     .simp
     .simpa using r es
def kW{P:aq}{t:aj}{fs:List Field}{ds:List TypeDesc}(d:P.underlying t=aa (.struct fs.toArray))(c:P.stoodInHeld t=ae)(i:P.eqGuardType P.depth t=ae)(k:Kd P ds fs 0):
  P.eqGuardType P.depth t=ae/\∀(w:az) (vs ws:List ah) (b:Bool),jP ds vs ws=aa b->(Op.equal t (.agg vs.toArray) (.agg ws.toArray)).run P w=.ok b w/\∀es,(Op.equal t (.agg vs.toArray) (.agg ws.toArray)).events P w es=es:=by
 refine⟨i,λw vs ws b h=>?_⟩;have f:P.fieldsOf t=fs.toArray:=by unfold Program.fieldsOf;rw[d]
 have key:=su w 9998 vs.toArray ws.toArray k h (λj v l=>by grind) (λj v l=>by grind);refine⟨?_,λes=>?_⟩
 rotate_left
 .show (aX (9999+1) t _ _).events P w es=es;have e:=key.2 es;unfold aX;simp[underlying,d,c];show Result.evThen ((forIn fs (af,()) (U2 9999 vs.toArray ws.toArray)).run P w) ((forIn fs (af,()) (U2 (9998+1) vs.toArray ws.toArray)).events P w es) _=es;rw[e];cases(forIn fs (af,()) (U2 9999 vs.toArray ws.toArray)).run P w with
  |ok a w'=>obtain⟨o,_⟩:=a;cases o<;>rfl
  |halt x w'=>rfl
 show(aX (9999+1) t _ _).run P w=_;grind[run_equalIn_agg]
def PX:List TypeDesc->List A->List A->Option Bool
 |[],[],[]=>aa ab
 |.int _::ds,.c (.int k a)::cs,.c (.int k' b)::es=>match Hv k k' with
  |true=>match PX ds cs es with
   |some r=>aa ((a==b)&&r)
   |none=>af
  |false=>af
 |.string::ds,.c (.str a)::cs,.c (.str b)::es=>match PX ds cs es with
  |some r=>aa ((a==b)&&r)
  |none=>af
 |.bool::ds,.c (.bool a)::cs,.c (.bool b)::es=>match PX ds cs es with
  |some r=>aa ((a==b)&&r)
  |none=>af
 |_,_,_=>af
def Ed{σ:List aP}{s:St}:∀{ds:List TypeDesc}{cs es:List A}{b:Bool}{vs ws:List ah},PX ds cs es=aa b->dW σ s vs cs->dW σ s ws es->jP ds vs ws=aa b:=by
 intro ds;induction ds with
 |nil =>
  intro cs es b vs ws h c e;cases cs<;>cases es<;>simp only[PX,reduceCtorEq]at h
  cases vs<;>cases ws<;>first|exact c.elim|exact e.elim|(simpa[jP]using h)
 |cons d ds ih =>
  intro cs es b vs ws h c e;unfold PX at h;split at h
  .grind
  .rename_i m f k a l k' b' es' heq;cases heq;split at h
   .rename_i hk;cases z0 hk;split at h
    .rename_i r j;cases h;cases vs with
     |nil=>exact c.elim
     |cons v vs=>cases ws with
      |nil=>exact e.elim
      |cons w ws =>
       obtain⟨v1,i⟩:=c;obtain⟨w1,w2⟩:=e;cases(show Rd s.M v (.int k a)from v1);cases(show Rd s.M w (.int k b')from w1);simp[jP,ru,ih j i w2]
    grind
   grind
  .rename_i f a l b' es' heq;cases heq;split at h
   .rename_i r j;cases h;cases vs with
    |nil=>exact c.elim
    |cons v vs=>cases ws with
     |nil=>exact e.elim
     |cons w ws =>
      obtain⟨v1,i⟩:=c;obtain⟨w1,w2⟩:=e;cases(show Rd s.M v (.str a)from v1)with
      |str hx _ =>
      cases(show Rd s.M w (.str b')from w1)with
      |str hy _ =>
      simp only[jP,ru,ih j i w2];grind[ByteArray.toList_eq]
   grind
  .rename_i f a l b' es' heq;cases heq;split at h
   .rename_i r j;cases h;cases vs with
    |nil=>exact c.elim
    |cons v vs=>cases ws with
     |nil=>exact e.elim
     |cons w ws =>
      obtain⟨v1,i⟩:=c;obtain⟨w1,w2⟩:=e;cases(show Rd s.M v (.bool a)from v1);cases(show Rd s.M w (.bool b')from w1);simp[jP,ru,ih j i w2]
   grind
  grind
section
variable {P:aq}{T:List (Nat×TI)}{o:ar}{g:ak->D}{σ:List aP}
def ja:BinOp->Bool->Option Bool
 |.eql,b=>aa b
 |.neq,b=>aa (!b)
 |_,_=>af
def ur{op:BinOp}{t:aj}{x y:ah}{w:az}{b c:Bool}(d:match x,y with|.agg _,.agg _=>True|.bool _,.bool _=>True|_,_=>False)(a:(Op.equal t x y).run P w=.ok b w)(h:ja op b=aa c):
  (binOp op t x y).run P w=.ok (.bool c) w:=by
 cases op<;>simp only[ja,reduceCtorEq,dr]at h
 .subst h;cases x<;>cases y<;>simp only at d<;>simp[binOp,a]
 .subst h;cases x<;>cases y<;>simp only at d<;>simp[binOp,a]
def pz{op:BinOp}{t:aj}{x y:ah}{w:az}{b c:Bool}(d:match x,y with|.agg _,.agg _=>True|.bool _,.bool _=>True|_,_=>False)(e:(Op.equal t x y).run P w=.ok b w)(a:∀es,(Op.equal t x y).events P w es=es)(h:ja op b=aa c)(es:Array Event):
  (binOp op t x y).events P w es=es:=by cases op<;>simp only[ja,reduceCtorEq,dr]at h<;>(cases x<;>cases y<;>simp only at d<;>simp[binOp,a])
def wR(op:BinOp)(t:aj)(x y:ak)(xs ys:Array ah)(w:az)(a:P.eqGuardType P.depth t=ae)(es:Array Event):(eqGuard op t x y (.agg xs) (.agg ys)).events P w es=es:=by cases op<;>simp[eqGuard,a]
theorem bG.structEq(hT:cT P T){op:BinOp}{t ty:aj}{x y:ak}(h:o.op=.binOp op t x y ty){i:TI}(hi:bD T t=aa i)(n:i.eq≠[]){cs es:List A}{b c:Bool}(v:g x=.e (.agg cs))(u:g y=.e (.agg es))(l:PX i.eq cs es=aa b)(q:ja op b=aa c):bG P o g σ (.e (.one (.c (.bool c)))) σ:=by refine .quiet λs z hh hr=>?_;have h1:=hr x;have h2:=hr y;rw[v]at h1;rw[u]at h2;obtain⟨vs,p,d⟩:=h1;obtain⟨k,r,j⟩:=h2;obtain⟨m,heq⟩:=(hT t i hi).eqs n;have a:=ur (x:=.agg vs.toArray) (y:=.agg k.toArray) aw (heq s.w vs k b (Ed l d j)).1 q;have f:=pz (x:=.agg vs.toArray) (y:=.agg k.toArray) aw (heq s.w vs k b (Ed l d j)).1 (heq s.w vs k b (Ed l d j)).2 q;refine⟨.bool c,?_,Rd.bool,by simp only[av,h,p,r,aK,run_eqGuard_agg s.w op t x y _ _ m,wR op t x y _ _ s.w m,aO,bO,bX,a,f,Sem.events_pure]⟩;simp only[av,h,p,r,bO,run_eqGuard_agg s.w op t x y _ _ m,bX,a,dt]
theorem bG.Rp(hT:cT P T){op:BinOp}{t ty:aj}{x y:ak}(h:o.op=.binOp op t x y ty){i:TI}(hi:bD T t=aa i)(r:i.desc=.bool){a b c:Bool}(u:g x=.e (.one (.c (.bool a))))(q:g y=.e (.one (.c (.bool b))))(p:ja op (a==b)=aa c):bG P o g σ (.e (.one (.c (.bool c)))) σ:=by
 refine .quiet λs n hh hr=>?_;have h1:=hr x;have h2:=hr y;rw[u]at h1;rw[q]at h2;replace h1:=eY h1;replace h2:=eY h2;generalize j:n x=vx at h1;generalize k:n y=vy at h2;cases h1;cases h2;have m:P.underlying t=aa .bool:=by rw[(hT t i hi).TM,r]
 have d:=ur (P:=P) (w:=s.w) (x:=.bool a) (y:=.bool b) aw (run_equal_bool s.w t a b m) p;have l:∀es,(Op.equal t (.bool a) (.bool b)).events P s.w es=es:=λes=>by show(aX (9999+1) t _ _).events P s.w es=es;unfold aX;simp[underlying,m]
 have f:=pz (P:=P) (w:=s.w) (x:=.bool a) (y:=.bool b) aw (run_equal_bool s.w t a b m) l p;refine⟨.bool c,?_,Rd.bool,by simp only[av,h,j,k,aK,eqGuard_at_bool,Sem.events_pure,dt,aO,bO,bX,d,f]⟩;simp only[av,h,j,k,bO,eqGuard_at_bool,dt,bX,d]
def bG.UC{t ty:aj}{x y:ak}(h:o.op=.binOp .xor t x y ty){a b:Int}(q:g x=.e (.one (.c (.int .i64 a))))(n:g y=.e (.one (.c (.int .i64 b))))(r:0<=a)(h1:0<=b):
  bG P o g σ (.e (.one (.c (.int .i64 ((a.toNat ^^^ b.toNat:Nat):Int))))) σ:=by
 refine .quiet λs m hh hr=>?_;have e1:=hr x;have e2:=hr y;rw[q]at e1;rw[n]at e2;replace e1:=eY e1;replace e2:=eY e2;generalize f:m x=vx at e1;generalize i:m y=vy at e2;cases e1 with|int ha =>
 cases e2 with|int hb =>
 have p:a.toNat ^^^ b.toNat<2 ^ 63:=by apply Nat.xor_lt_two_pow<;>simp only[bA]at ha hb<;>omega
 have k:bA .i64 ((a.toNat ^^^ b.toNat:Nat):Int):=by simp only[bA];omega
 refine⟨.int .i64 ((a.toNat ^^^ b.toNat:Nat):Int),?_,.int k,?_⟩
 rotate_left
 .simp only[av,h,f,i,aK,gN,jE,aO,Go.binOp,du,fh,b9,Op.intBits,bO,bX,dt,Sem.events_pure]
 have d:((BitVec.ofInt 64 a) ^^^ (BitVec.ofInt 64 b)).toNat=a.toNat ^^^ b.toNat:=by rw[BitVec.toNat_xor,BitVec.toNat_ofInt,BitVec.toNat_ofInt];simp only[bA]at ha hb;congr 1<;>omega
 have j:(BitVec.ofInt IntKind.i64.bits a ^^^ BitVec.ofInt IntKind.i64.bits b).toNat=a.toNat ^^^ b.toNat:=d;have l:(Go.binOp .xor t (.int .i64 a) (.int .i64 b)).run P s.w=.ok (.int .i64 ((a.toNat ^^^ b.toNat:Nat):Int)) s.w:=by simp only[Go.binOp,du,fh,b9,Op.intBits,dt];grind[mq]
 simp only[av,h,f,i,bO,gN,bX,l,dt]
def bG.Hi(hT:cT P T){k dst:aj}{x:ak}(h:o.op=.convert k dst x){i i2 ie:TI}{E:aj}(hi:bD T k=aa i)(F:bD T dst=aa i2)(Q:i.desc=.slice E)(B:i2.desc=.string)(R:bD T E=aa ie)(H:ie.desc=.int .u8){tt:Bool}{n:Nat}{es:Nat->List C}{r:List UInt8}(U:∀s v,dn σ s v (g x)->Rd s.M v (.sl tt 1 n es))(S:wq es 0 n=aa r):bG P o g σ (.e (.one (.c (.str r)))) σ:=by
 refine .om λs X hh hr=>?_;have h1:=U s _ (hr x);obtain⟨vs,K,b⟩:=dX (P:=P) hh h1;obtain⟨a,cap,N,u,L,O,_⟩:=h1.flat;have J:n<=9223372036854775807:=by omega
 have I:vs.length=n:=by rw[K.len];omega
 obtain⟨xs,e1,e2⟩:=yx (M:=s.M) (vs:=vs) S I (λj hj c V=>by
  obtain⟨v,W,p2⟩:=K.rd j hj 0 c (by grind)
  grind)
 have A:=(hT k i hi).run_underlying (w:=s.w);have l:=(hT dst i2 F).run_underlying (w:=s.w);have m:=(hT E ie R).run_underlying (w:=s.w);rw[Q]at A;rw[B]at l;rw[H]at m;have G:r.length<=9223372036854775807:=by grind
 have f:∃y:ByteArray,(Conv.bytesToString (.slice a n cap)).run P s.w=.ok (.string y) s.w/\y.data.toList=r:=by
  cases a with
  |none =>
   have q:r=[]:=by
    have:vs=[]:=by rw[u]at b;have h2:=b.1;simp[Builtin.firstCells]at h2;grind
    grind
   exact⟨ByteArray.empty,by simp[Conv.bytesToString],by rw[q];rfl⟩
  |some ad =>
   rw[u]at b;have h2:=b.1;simp only[Builtin.firstCells,Nat.mul_one]at h2;refine⟨⟨#[]++(xs.map λx=>UInt8.ofNat x.toNat).toArray⟩,?_,by grind⟩;simp only[Conv.bytesToString,bO,h2,bX,e1];rw[List.forIn_toArray,oM (P:=P) s.w (λ_ _=>rfl) xs ByteArray.empty];rfl
 obtain⟨y,t,z⟩:=f;refine⟨.string y,?_,Rd.str z G,?_⟩
 rotate_left
 .intro e d;simp only[av,h,u,aK,convert,A,l,aO,bX,m,t,bO,events_underlying,Sem.events_pure]at d;cases a with
  |none=>simp[Conv.bytesToString]at d
  |some ad =>
   have p:=g8 (P:=P) hh (h1.Dw (λ_ _=>rfl)) (w:=s.w) rfl;rw[u]at b p;have h2:=b.1;simp only[Builtin.firstCells,Nat.mul_one]at h2 p;unfold Conv.bytesToString at d;simp only at d;rw[aK,h2,aO,c9.bind (P:=P) ?_ λ_=>.pure]at d
   .grind [s9]
   .rw[List.forIn_toArray];refine c9.Js (λx s=>?_) _ _;split
    .exact .pure
    .exact .bind .stuck λ_=>.pure
 simp only[av,h,u,bO,convert,A,l,bX,m,t,dt]
end
def wu(g:ak->D):List ak->Option (List C)
 |[]=>aa []
 |x::r=>match g x with
  |.e (.one (.c c))=>match wu g r with
   |some q=>aa (c::q)
   |none=>af
  |_=>af
def wS{σ:List aP}{s:St}{a:ak->ah}{g:ak->D}(d:∀y,dn σ s (a y) (g y)):∀{xs:List ak}{cs:List C},wu g xs=aa cs->xs.length=cs.length/\∀(j:Nat)(c:C),cs[j]?=aa c->∃v,(xs.map a)[j]?=aa v/\Rd s.M v c
 |[],cs,h=>by cases h;grind
 |x::r,cs,h=>by
  simp only[wu]at h;split at h
  .rename_i c f;split at h
   .rename_i q e;cases h;obtain⟨l,i⟩:=wS d e;refine⟨by grind,λj k b=>?_⟩;cases j with
    |zero =>
     simp at b;subst b;have:=d x;rw[f]at this;exact⟨a x,by simp,eY this⟩
    |succ j=>grind
   grind
  grind
section
variable {P:aq}{T:List (Nat×TI)}{o:ar}{g:ak->D}{σ:List aP}
theorem bG.makeFunc{fn:Fn}{a b:Array ak}(h:o.op=.makeFunc fn a b){i f:List C}(k:wu g a.toList=aa i)(l:wu g b.toList=aa f):bG P o g σ (.e (.one (.c (.fn fn i f)))) σ:=by
 refine .quiet λs d hh hr=>?_;obtain⟨a1,a2⟩:=wS hr k;obtain⟨p,q⟩:=wS hr l;have n:a.map d=(a.toList.map d).toArray:=by grind
 have m:b.map d=(b.toList.map d).toArray:=by grind
 refine⟨.func fn (a.toList.map d).toArray (b.toList.map d).toArray,?_,?_,by simp only[av,h,Instr.makeFunc];rfl⟩
 .simp only[av,h,Instr.makeFunc,n,m];rfl
 .refine Rd.fn _ _ (by grind) (by grind) (λj=>((a.toList.map d)[j]?).getD ai) (λj=>((b.toList.map d)[j]?).getD ai) ?_ ?_ ?_ ?_
  .grind
  .grind
  .grind
  grind
def pn:TypeDesc->Bool
 |.interface _=>ab
 |_=>ae
def vl(t:aj):D->Option C
 |.e (.one (.c c))=>aa (.ifs t c)
 |.e (.agg cs)=>match gE cs with
  |some q=>aa (.FN t q)
  |none=>af
 |_=>af
def Ee{s:St}{v:ah}{t:aj}{d:D}{c:C}(h:vl t d=aa c)(r:dn σ s v d):Rd s.M (.iface t v) c:=by
 unfold vl at h;split at h
 .cases h;exact Rd.ifs (eY r) (eY r).cell
 .split at h
  .rename_i q f;cases h;obtain⟨vs,rfl,i⟩:=r;have b:=lP f i;refine Rd.FN (by have:=b.length;grind) (λj=>(vs[j]?).getD ai) (λj l=>by grind) λj c l=>?_;obtain⟨v,k,e⟩:=b.get (j:=j) (a:=.c c) (by grind);rw[k];exact e
  grind
 grind
theorem bG.makeInterface(hT:cT P T){t:aj}{x:ak}(h:o.op=.makeInterface t x){i:TI}(hi:bD T t=aa i)(b:pn i.desc=ae){c:C}(j:vl t (g x)=aa c):bG P o g σ (.e (.one (.c c))) σ:=by
 refine .quiet λs f hh hr=>?_;have d:=(hT t i hi).run_underlying (w:=s.w);refine⟨.iface t (f x),?_,Ee j (hr x),?_⟩
 rotate_left
 .simp only[av,h,Instr.makeInterface,aK,bO,d,aO,bX,events_underlying];cases a:i.desc<;>rw[a]at b<;>first|(cases b;done)|simp
 simp only[av,h,Instr.makeInterface,bO,d,bX];cases a:i.desc<;>rw[a]at b<;>first|(cases b;done)|simp
def yy(i:TI):Option E1:=match i.agg with
 |true=>aa (.agg (i.zero.map A.c))
 |false=>af
def Ke{i:TI}{t:aj}(h:bE P t i){s:St}{e:E1}(b:yy i=aa e):∃z,(zeroValue t).run P s.w=.ok z s.w/\m8 σ s z e:=by
 obtain⟨z,l,a⟩:=h.BW σ s;refine⟨z,l,?_⟩;obtain⟨j,f,m,p,q,n,u,⟨cs,c⟩,r⟩:=h.info;have d:f=z:=by
  have:(zeroValue t).run P s.w=.ok f s.w:=by simp[zeroValue,typeInfo,m,n]
  grind
 subst d;unfold yy at b;cases k:i.agg with
 |true =>
  rw[k]at b c;simp only[cn]at c;cases b;rw[c]at a⊢;exact⟨cs.toList,by simp,by simpa[Value.cells]using a⟩
 |false=>grind
def qk(t:aj)(i:TI):C->Option (E1×Bool)
 |.ifs t' c=>match aA t' t with
  |true=>aa (.one (.c c),ab)
  |false=>match yy i with
   |some e=>aa (e,ae)
   |none=>af
 |.FN t' cs=>match aA t' t with
  |true=>aa (.agg (cs.map A.c),ab)
  |false=>match yy i with
   |some e=>aa (e,ae)
   |none=>af
 |.iw=>match yy i with
  |some e=>aa (e,ae)
  |none=>af
 |_=>af
theorem bG.typeAssert(hT:cT P T){x:ak}{y t:aj}(h:o.op=.typeAssert x y t ab){i:TI}(hi:bD T t=aa i)(J:pn i.desc=ae){c:C}(L:g x=.e (.one (.c c))){e:E1}{b:Bool}(k:qk t i c=aa (e,b)):
  bG P o g σ (.fa [e,.one (.c (.bool b))]) σ:=by
 refine .quiet λs B hh hr=>?_;have h1:=hr x;rw[L]at h1;replace h1:=eY h1;generalize E:B x=vx at h1;have q:=(hT t i hi).run_underlying (w:=s.w);have key:∀(v:ah) (b:Bool),(Instr.typeAssert vx y t ab).run P s.w=.ok (.tuple #[v,.bool b]) s.w->m8 σ s v e->(Instr.typeAssert vx y t ab).events P s.w #[]=#[]->∃v,(av B o).run P s.w=.ok (.value v) s.w/\dn σ s v (.fa [e,.one (.c (.bool b))])/\(av B o).events P s.w #[]=#[]:=by intro v b h1 h2 h3;refine⟨.tuple #[v,.bool b],?_,⟨[v,.bool b],rfl,h2,Rd.bool,aw⟩,by simp only[av,h,E,aK,h1,h3,aO,Sem.events_pure]⟩;simp only[av,h,E,bO,h1,bX,dt]
 have fail:∀r,yy i=aa r->(∀z,(zeroValue t).run P s.w=.ok z s.w->(Instr.typeAssert vx y t ab).run P s.w=.ok (.tuple #[z,.bool ae]) s.w/\(Instr.typeAssert vx y t ab).events P s.w #[]=#[])->e=r->b=ae->∃v,(av B o).run P s.w=.ok (.value v) s.w/\dn σ s v (.fa [e,.one (.c (.bool b))])/\(av B o).events P s.w #[]=#[]:=by intro r p H G l;subst G l;obtain⟨z,h3,O⟩:=Ke (σ:=σ) (hT t i hi) (s:=s) p;grind
 have d:∀m,i.desc≠.interface m:=by intro m e;rw[e]at J;cases J
 cases h1 with
 |@ifs t' v c h2 hc =>
  simp only[qk]at k;cases l:aA t' t with
  |true =>
   rw[l]at k;cases k;have F:=bR l;subst F;refine key v ab ?_ h2 ?_<;>
   .unfold Instr.typeAssert;simp only[bO,q,bX,aK,aO,events_underlying];cases a:i.desc<;>first|(exact absurd a (d _))|simp
  |false =>
   rw[l]at k;have n:t'≠t:=λe=>by grind[Nat.beq_refl]
   simp only at k;split at k
   .rename_i r p;cases k;refine fail _ p (λz h3=>⟨?_,?_⟩) rfl rfl<;>
    .unfold Instr.typeAssert;simp only[bO,q,bX,aK,aO,events_underlying];cases a:i.desc<;>first|(exact absurd a (d _))|simp[n,h3]
   grind
 |@FN t' vs cs hl f N K =>
  simp only[qk]at k;cases l:aA t' t with
  |true =>
   rw[l]at k;cases k;have F:=bR l;subst F;refine key (.agg vs.toArray) ab ?_ ⟨vs,rfl,?_⟩ ?_
   rotate_left 2
   .unfold Instr.typeAssert;simp only[q,aK,aO,events_underlying];cases a:i.desc<;>first|(exact absurd a (d _))|simp
   .unfold Instr.typeAssert;simp only[bO,q,bX];cases a:i.desc<;>first|(exact absurd a (d _))|simp
   .have go:∀(vs:List ah) (cs:List C),vs.length=cs.length->(∀(j:Nat) (c:C),cs[j]?=aa c->∃v,vs[j]?=aa v/\Rd s.M v c)->dW σ s vs (cs.map A.c):=by
     intro vs;induction vs with
     |nil=>intro cs hl _;cases cs with|nil=>trivial|cons _ _=>grind
     |cons v vs ih =>
      intro cs hl hg;cases cs with
      |nil=>grind
      |cons c cs =>
       obtain⟨u,I,p2⟩:=hg 0 c rfl;simp at I;subst I;exact⟨p2,ih cs (by grind) (λj c hj=>by simpa using hg (j+1) c (by grind))⟩
    grind
  |false =>
   rw[l]at k;have n:t'≠t:=λe=>by grind[Nat.beq_refl]
   simp only at k;split at k
   .rename_i r p;cases k;refine fail _ p (λz h3=>⟨?_,?_⟩) rfl rfl<;>
    .unfold Instr.typeAssert;simp only[bO,q,bX,aK,aO,events_underlying];cases a:i.desc<;>first|(exact absurd a (d _))|simp[n,h3]
   grind
 |iw =>
  simp only[qk]at k;split at k
  .rename_i r p;cases k;refine fail _ p (λz h3=>⟨?_,?_⟩) rfl rfl<;>
   .unfold Instr.typeAssert;simp only[bO,q,bX,aK,aO,events_underlying];cases a:i.desc<;>first|(exact absurd a (d _))|simp[h3]
  grind
 |_=>simp[qk]at k
end
section
open Go.Conc (G)
def OA{P:aq}(X:Cx P)(N:Nat)(all:List ar)(o:ar)(φ:Fr)(σ:List aP)(x:D)(σ':List aP):Prop :=
 ∀s a,cq N σ s φ a->aE σ s->∀(b:aR) (k:List Item) (cs:List aR) (S:au->St->Prop) (i:Nat) (rest:List Nat),b.kind≠.early->all.toArray[i]?=aa o ->
  (∀v s',dn σ' s' v x->aE σ' s'->cU σ s σ' s'->fE X S (G (b.aT (a.put o.dst v) (.inRegion all.toArray rest::k)) cs) s')->fE X S (G (b.aT a (.inRegion all.toArray (i::rest)::k)) cs) s
section
variable {P:aq}{X:Cx P}{N:Nat}{all rest:List ar}{φ φ':Fr}{σ σ':List aP}{o:ar}{x:D}
theorem OA.kS(q:∀σ s a,cq N σ s φ a->bc o (yielded all.toArray a.tmps)=ab)(h:bG P o (bP φ) σ x σ'):OA X N all o φ σ x σ':=by
 intro s a f hh b k cs S i rest p hi hK;refine rl p hi (q _ _ _ f) λg d=>?_;have c:=hh.rely d;obtain⟨n,s',h1,h2,e,l,r⟩:=h g a.eval c (c7 (f.rely d hh));have j:=d.stepW.trans (l.na c);have m:qW g s' ((av a.eval o).events P g.w #[]):=⟨⟨σ,σ',c,e,l⟩,r⟩;cases n with
 |value v=>exact⟨_,s',v,h1,.inl rfl,m,hK v s' h2 e j⟩
 |skip=>simp only[RM]at h2;subst h2;exact⟨_,s',ai,h1,.inr ⟨rfl,rfl⟩,m,hK ai s' aw e j⟩
 |_=>exact h2.elim
def OA.pass(e:∀σ s a,cq N σ s φ a->bc o (yielded all.toArray a.tmps)=ae):OA X N all o φ σ (.fa []) σ:=by intro s a f hh b k cs S i rest g hi hK;exact .ctl hh rfl (λ_=>Ni hi (e _ _ _ f)) λd c=>hK ai d ⟨[],rfl,aw⟩ (hh.rely c) c.stepW
def ia.zZ{Q:Fr->List aP->Prop}(h:OA X N all o φ σ x σ')(g:∀t,o.dst=aa t->t<N)(k:ia X N all rest Q (kl o.dst x φ) σ'):ia X N all (o::rest) Q φ σ:=by
 intro s a f hh b kk cs S idx hb jk hQ;cases idx with
 |nil=>exact jk.elim
 |cons i idx =>
 refine h s a f hh b kk cs S i idx hb jk.1 λv s' hv iX st=>k s' _ ?_ iX b kk cs S idx hb jk.2 λc σ2 s2 a2 q d h2 nV=>hQ c σ2 s2 a2 q d h2 (st.trans nV);cases e:o.dst with
 |none=>exact f.mono st hh.len
 |some t=>exact(f.mono st hh.len).put (g t e) hv
end
abbrev dv:=List D->List aP->Option (D×List aP×List Prop)
def yr:List (Nat×dv)->Nat->Option dv
 |[],_=>af
 |(i,g)::r,f=>cond (aA i f) (aa g) (yr r f)
def eb{P:aq}(X:Cx P)(f:aH)(g:dv):Prop:=∀args σ res σ' obs,g args σ=aa (res,σ',obs)->ay obs->Ev X f args σ res σ'
def bF{P:aq}(X:Cx P)(CT:List (Nat×dv)):Prop:=∀f g,yr CT f=aa g->eb X f g
def bF.nil{P:aq}{X:Cx P}:bF X []:=λ_ _ h=>by cases h
def bF.cons{P:aq}{X:Cx P}{f:aH}{g:dv}{CT:List (Nat×dv)}(h:eb X f g)(r:bF X CT):bF X ((f,g)::CT):=by
 intro a b h2;simp only[yr]at h2;cases c:aA f a with
 |true=>grind[Nat.eq_of_beq_eq_true]
 |false=>rw[c]at h2;exact r a b h2
def bxA:A->List Nat->List Nat
 |.ptr l _,ks=>cond (hZ l ks) ks (ks++[l])
 |.vec l _ _ _,ks=>cond (hZ l ks) ks (ks++[l])
 |.ref l,ks=>cond (hZ l ks) ks (ks++[l])
 |.bp l _,ks=>cond (hZ l ks) ks (ks++[l])
 |_,ks=>ks
def bxL:List A->List Nat->List Nat
 |[],ks=>ks
 |a::r,ks=>bxL r (bxA a ks)
def bxD:D->List Nat->List Nat
 |.e (.one a),ks=>bxA a ks
 |.e (.agg cs),ks=>bxL cs ks
 |_,ks=>ks
def U0:List D->List Nat->List Nat
 |[],ks=>ks
 |a::r,ks=>U0 r (bxD a ks)
def BD(l:Nat):List Nat->Nat->Option Nat
 |[],_=>af
 |k::r,i=>match aA k l with|true=>aa i|false=>BD l r (i+1)
def ss{l:Nat}:∀{ks:List Nat}{i j:Nat},BD l ks i=aa j->i<=j/\ks[j-i]?=aa l
 |[],_,_,h=>by cases h
 |k::r,i,j,h=>by
  simp only[BD]at h;cases a:aA k l with
  |true=>rw[a]at h;cases h;exact⟨bg _,by grind[Nat.eq_of_beq_eq_true]⟩
  |false =>
   rw[a]at h;obtain⟨c,b⟩:=ss h;grind
def TS(ks:List Nat):A->Option A
 |.ptr l o=>match BD l ks 0 with|some i=>aa (.ptr i o)|none=>af
 |.ref l=>match BD l ks 0 with|some i=>aa (.ref i)|none=>af
 |.bp l w=>match BD l ks 0 with|some i=>aa (.bp i w)|none=>af
 |.vec _ _ _ _=>af
 |.c x=>aa (.c x)
 |.any=>aa .any
def Xf(ks:List Nat):List A->Option (List A)
 |[]=>aa []
 |a::r=>match TS ks a with
  |some b=>match Xf ks r with
   |some q=>aa (b::q)
   |none=>af
  |none=>af
def Yw(ks:List Nat):D->Option D
 |.e (.one a)=>match TS ks a with|some b=>aa (.e (.one b))|none=>af
 |.e (.agg cs)=>match Xf ks cs with|some b=>aa (.e (.agg b))|none=>af
 |.fa _=>af
 |.any=>aa .any
def Hw(ks:List Nat):List D->Option (List D)
 |[]=>aa []
 |a::r=>match Yw ks a with
  |some b=>match Hw ks r with
   |some q=>aa (b::q)
   |none=>af
  |none=>af
def J3{ks:List Nat}{a b:A}(h:TS ks a=aa b):oQ ks b=a/\He ks.length b=ab:=by
 cases a with
 |ptr l o =>
  simp only[TS]at h;split at h
  .rename_i i hi;cases h;obtain⟨_,d⟩:=ss hi;simp only[lF]at d;have e:i<ks.length:=(bZ.1 d).1;exact⟨by simp[oQ,fp,d],rG e⟩
  grind
 |ref l =>
  simp only[TS]at h;split at h
  .rename_i i hi;cases h;obtain⟨_,d⟩:=ss hi;simp only[lF]at d;have e:i<ks.length:=(bZ.1 d).1;exact⟨by simp[oQ,fp,d],rG e⟩
  grind
 |bp l w =>
  simp only[TS]at h;split at h
  .rename_i i hi;cases h;obtain⟨_,d⟩:=ss hi;simp only[lF]at d;have e:i<ks.length:=(bZ.1 d).1;exact⟨by simp[oQ,fp,d],rG e⟩
  grind
 |vec l k n es=>cases h
 |c x=>cases h;exact⟨rfl,rfl⟩
 |any=>cases h;exact⟨rfl,rfl⟩
def J4{ks:List Nat}:∀{a b:List A},Xf ks a=aa b->Br ks b=a/\FJ ks.length b=ab
 |[],b,h=>by cases h;exact⟨rfl,rfl⟩
 |a::r,b,h=>by
  simp only[Xf]at h;split at h
  .rename_i x i;split at h
   .rename_i q e;cases h;obtain⟨f,c⟩:=J3 i;obtain⟨d,g⟩:=J4 e;exact⟨by simp[Br,f,d],by simp[FJ,c,g]⟩
   grind
  grind
def RN{ks:List Nat}{a b:D}(h:Yw ks a=aa b):hY ks b=a/\vP ks.length b=ab:=by
 unfold Yw at h;split at h
 .rename_i a;split at h
  .rename_i x e;cases h;obtain⟨d,c⟩:=J3 e;exact⟨by simp[hY,zz,d],by simp[vP,Hf,c]⟩
  grind
 .rename_i cs;split at h
  .rename_i x e;cases h;obtain⟨d,c⟩:=J4 e;exact⟨by simp[hY,zz,d],by simp[vP,Hf,c]⟩
  grind
 .cases h
 .cases h;exact⟨rfl,rfl⟩
def F8{ks:List Nat}:∀{a b:List D},Hw ks a=aa b->fM ks b=a/\ln ks.length b=ab
 |[],b,h=>by cases h;exact⟨rfl,rfl⟩
 |a::r,b,h=>by
  simp only[Hw]at h;split at h
  .rename_i x i;split at h
   .rename_i q e;cases h;obtain⟨f,c⟩:=RN i;obtain⟨d,g⟩:=F8 e;exact⟨by simp[fM,f,d],by simp[ln,c,g]⟩
   grind
  grind
def Jv(CT:List (Nat×dv))(φ:Fr)(σ:List aP)(a:ak)(xs:List ak):Option (D×List aP×List Prop) :=
 match eG (bP φ a)with
 |none=>af
 |some (f,cap)=>match yr CT f with
  |none=>af
  |some g =>
   let args:=mr (xs.map (bP φ)++fN cap);let ks:=U0 args []
   match Hw ks args with
   |none=>af
   |some J5=>match jH ks σ with
    |none=>af
    |some σs=>match g J5 σs with
     |none=>af
     |some (res,σ1,obs)=>match cx σs,cx σ1,dy ks,bw ks.length σ1.length with
      |true,ab,ab,ab=>aa (hY (ks++kN σ.length (σ1.length-ks.length)) res,dH ks σ1 σ,obs)
      |_,_,_,_=>af
theorem OA.Qd{P:aq}{X:Cx P}{N:Nat}{all:List ar}{φ:Fr}{σ:List aP}{o:ar}{CT:List (Nat×dv)}(hC:bF X CT){A:ak}{xs:Array ak}{K:Array aj}(Q:∀σ s a,cq N σ s φ a->bc o (yielded all.toArray a.tmps)=ab)(L:o.op=.call {callee:=.value A,args:=xs,argTypes:=K}){f:aH}{cap:List C}(z:eG (bP φ A)=aa (f,cap)){g:dv}(I:yr CT f=aa g){ks:List Nat}{d:List D}{l σ1:List aP}{res:D}{obs:List Prop}(H:Hw ks (mr (xs.toList.map (bP φ)++fN cap))=aa d)(B:jH ks σ=aa l)(u:g d l=aa (res,σ1,obs))(R:cx l=ab)(G:cx σ1=ab)(O:dy ks=ab)(F:ks.length<=σ1.length)(v:ay obs):OA X N all o φ σ (hY (ks++kN σ.length (σ1.length-ks.length)) res) (dH ks σ1 σ):=by
 obtain⟨m,J⟩:=F8 H;intro s a p hh b kk cs S i rest T hi hK;have r:=hC f g I _ _ _ _ _ u v;have t:=c7 p A;unfold eG at z;split at z
 case h_2=>cases z
 case h_1 f' Nh he =>
  cases z;rw[he]at t;have h:=eY t;generalize M:a.eval A=fv at h;cases h with
  |fn fs nb hl Dp f1 f2 h1 h2 r1 r2 =>
   have E:fs=[]:=jf hl;subst E;have n:ck σ s nb (fN cap):=nk (λj c hj=>⟨f2 j,h2 j (by grind),r2 j c hj⟩) Dp;have q:ck σ s (xs.toList.map a.eval++nb) (fM ks d):=by rw[m];exact pe ((lI (c7 p) xs.toList).append n)
   obtain⟨fn,y,k,e⟩:=r.1;exact Jd T hi (Q _ _ _ p) hh (λw=>(jr L y k e M w).1) (λw=>(jr L y k e M w).2) r q J B R G O F hK
theorem OA.call{P:aq}{X:Cx P}{N:Nat}{all:List ar}{φ:Fr}{σ σ':List aP}{o:ar}{CT:List (Nat×dv)}(hC:bF X CT){e:ak}{xs:Array ak}{c:Array aj}{x:D}{obs:List Prop}(j:∀σ s a,cq N σ s φ a->bc o (yielded all.toArray a.tmps)=ab)(i:o.op=.call {callee:=.value e,args:=xs,argTypes:=c})(b:Jv CT φ σ e xs.toList=aa (x,σ',obs))(d:ay obs):OA X N all o φ σ x σ':=by
 unfold Jv at b;split at b
 .cases b
 rename_i f cap hf;split at b
 .cases b
 rename_i g h;simp only at b;split at b
 .cases b
 grind[OA.Qd,Nat.le_of_ble_eq_true]
def BR{d:D}(h:vP 0 d=ab):hY [] d=d:=by
 have g:∀{a:A},He 0 a=ab->oQ [] a=a:=by intro a b;cases a<;>simp only[He]at b<;>first|rfl|(simp at b)
 have j:∀{l:List A},FJ 0 l=ab->Br [] l=l:=by
  intro l;induction l with
  |nil=>intro _;rfl
  |cons a r c =>
   intro h;simp only[FJ]at h;cases b:He 0 a with
   |false=>grind
   |true=>simp only[b]at h;simp[Br,g b,c h]
 have i:∀{a:E1},Hf 0 a=ab->zz [] a=a:=by
  intro a b;cases a with
  |one a=>simp[zz,g b]
  |agg cs=>simp[zz,j b]
 have f:∀{l:List E1},xU 0 l=ab->yl [] l=l:=by
  intro l;induction l with
  |nil=>intro _;rfl
  |cons a r c =>
   intro h;simp only[xU]at h;cases b:Hf 0 a with
   |false=>grind
   |true=>simp only[b]at h;simp[yl,i b,c h]
 cases d with
 |e x=>simp[hY,i h]
 |fa xs=>simp[hY,f h]
 |any=>rfl
def BA(CT:List (Nat×dv))(φ:Fr)(a:ak)(xs:List ak):Option (D×List Prop) :=
 match eG (bP φ a)with
 |none=>af
 |some (f,cap)=>match yr CT f with
  |none=>af
  |some g=>match Hw [] (mr (xs.map (bP φ)++fN cap))with
   |none=>af
   |some J5=>match g J5 []with
    |some (res,[],obs)=>match vP 0 res with
     |true=>aa (res,obs)
     |false=>af
    |_=>af
theorem OA.BA{P:aq}{X:Cx P}{N:Nat}{all:List ar}{φ:Fr}{σ:List aP}{o:ar}{CT:List (Nat×dv)}(hC:bF X CT){k:ak}{xs:Array ak}{d:Array aj}{x:D}{obs:List Prop}(m:∀σ s a,cq N σ s φ a->bc o (yielded all.toArray a.tmps)=ab)(l:o.op=.call {callee:=.value k,args:=xs,argTypes:=d})(b:AM.BA CT φ k xs.toList=aa (x,obs))(c:ay obs):OA X N all o φ σ x σ:=by
 unfold AM.BA at b;split at b
 .cases b
 rename_i f cap hf;split at b
 .cases b
 rename_i g h;split at b
 .cases b
 rename_i j e;split at b
 case h_2=>cases b
 rename_i res ac1 Yx;split at b
 case h_2=>cases b
 rename_i i;cases b;have:=OA.Qd (σ:=σ) hC m l hf h e rfl Yx rfl rfl rfl (bg _) c;simpa[kN,BR i,dH]using this
def po(i:Nat)(ci:List C)(es:Nat->List C):Nat->List C:=λj=>if j=i then ci else es j
def tg(lo hi:Nat)(z:List C)(es:Nat->List C):Nat->List C:=λj=>if lo<=j/\j<hi then z else es j
section
variable {P:aq}{T:List (Nat×TI)}{o:ar}{B:ak->D}{σ:List aP}{s:St}{l g:Nat}{E:aj}{k n:Nat}{es:Nat->List C}
def Kp(t:aE σ s)(e:σ[l]?=aa (.buf E k n es)){k' i f:Nat}{v:ah}(r:gu σ s v (.bp l (.el g k' i f)))(u:g=n):
  ∃b c vs zs,s.β[l]?=aa ⟨.slice (aa ⟨b,0,af⟩) 0 c,[b]⟩/\v=.pointer (aa ⟨b,i*k'+f,af⟩)/\s.w.heap[b]?=aa (.cells (vs++zs).toArray E (0,0))/\(vs++zs).length=c*k/\n<=c/\c<=9223372036854775807/\Flat s.M k n es vs/\∀o,s.M b o=af:=by
 obtain⟨F,⟨b,c,d,j⟩,_,z⟩:=r;obtain⟨L,h,a⟩:=(z _ _ _ _ e).2 u;rw[d]at a;rcases t.box l _ L e h with⟨_,rfl⟩|⟨G,c1,vs,zs,rfl,m,x,A,p,q,y⟩
 .cases a
 .cases a;exact⟨b,c,vs,zs,h,j,m,x,A,p,q,y⟩
def Eg{g:Nat->ah}:∀{ds:List C}{m:Nat},(∀j c,ds[j]?=aa c->Rd s.M (g (m+j)) c)->dW σ s ((bd ds.length).map λj=>g (m+j)) (ds.map A.c)
 |[],m,_=>trivial
 |d::ds,m,h=>by rw[er,uY];refine⟨h 0 d rfl,?_⟩;have:=Eg (ds:=ds) (m:=m+1) (λj c a=>by have:=h (j+1) c (by grind);rwa [show m+1+j=m+(j+1) by omega]);grind[Function.comp_def]
theorem bG.XW(hT:cT P T){t:aj}{x y:ak}(h:o.op=.indexAddr t x y){i p:TI}{E:aj}(hi:bD T t=aa i)(O:i.desc=.slice E)(Q:bD T E=aa p){q m:Nat}{j:Int}{kk:IntKind}(S:B x=.e (.one (.bp l (.sl g p.size q m))))(K:B y=.e (.one (.c (.int kk j))))(U:0<=j)(h1:j<m):bG P o B σ (.e (.one (.bp l (.el g p.size (q+j.toNat) 0)))) σ:=by
 refine .quiet λs I hh hr=>?_;have f:=hr x;rw[S]at f;have h2:=hr y;rw[K]at h2;replace h2:=eY h2;generalize z:I y=vy at h2;cases h2;have d:=f;change gu σ s (I x) (.bp l _)at d;obtain⟨lv,⟨a,a0,cap,R,N,M,J,L,F,G⟩,u,v⟩:=d;obtain⟨b,rfl,rfl⟩:=G (by omega);have H:=(hT t i hi).run_underlying (w:=s.w);rw[O]at H;obtain⟨r,rfl⟩:∃r:Nat,j=r:=⟨j.toNat,by omega⟩
 have A:r<m:=by omega
 refine⟨.pointer (aa ⟨b,(q+r)*p.size,af⟩),?_,⟨lv,⟨b,R,F,by simp⟩,u,v⟩,?_⟩<;>
 simp[av,h,N,z,Instr.indexAt,asIntOf,H,(hT E p Q).run_sizeOf,dq,A,ir]
def bG.Rr(hT:cT P T){t:aj}{x:ak}{f:Nat}(h:o.op=.fieldAddr t x f){p i q off:Nat}{j:TI}(y:B x=.e (.one (.bp l (.el g p i q))))(u:jK T t f=aa (off,j)):bG P o B σ (.e (.one (.bp l (.el g p i (q+off))))) σ:=by refine .quiet λs v hh hr=>?_;have h1:=hr x;rw[y]at h1;have a:=h1;change gu σ s (v x) (.bp l _)at a;obtain⟨lv,⟨b,w,c,r⟩,m,d⟩:=a;exact⟨.pointer (aa ⟨b,i*p+q+off,af⟩),by simp[av,h,r,mE hT u],⟨lv,⟨b,w,c,by grind⟩,m,d⟩,by simp[av,h,r,oz hT u]⟩
theorem bG.XX{x:ak}(h:o.op=.nilCheck x){j i q:Nat}(t:B x=.e (.one (.bp l (.el g j i q)))):bG P o B σ (.e (.one (.bp l (.el g j i q)))) σ:=by refine .quiet λs d hh hr=>?_;have h1:=hr x;rw[t]at h1;have c:=h1;have a:=h1;change gu σ s (d x) (.bp l _)at a;obtain⟨lv,⟨b,u,m,f⟩,r,p⟩:=a;exact⟨d x,by simp[av,h,f],c,by simp[av,h,f]⟩
theorem bG.XY(hT:cT P T){x:ak}{b:Array aj}{t:aj}(h:o.op=.call {callee:=.builtin .len,args:=#[x],argTypes:=b})(r:b[0]?=aa t){i:TI}{E:aj}(hi:bD T t=aa i)(I:i.desc=.slice E){H q m:Nat}(J:B x=.e (.one (.bp l (.sl g H q m)))):bG P o B σ (.e (.one (.c (.int .i64 m)))) σ:=by
 refine .quiet λs y hh hr=>?_;have h1:=hr x;rw[J]at h1;have d:=h1;change gu σ s (y x) (.bp l _)at d;obtain⟨lv,⟨a,a0,cap,K,z,u,p,G,j,A⟩,F,v⟩:=d;have f:=(hT t i hi).run_underlying (w:=s.w);rw[I]at f;refine⟨.int .i64 m,?_,Rd.int (by simp only[bA];omega),?_⟩<;>
 simp[av,h,resolve,invoke,builtin,Builtin.len_,z,f,goInt,r]
theorem bG.sliceB(hT:cT P T){t:aj}{x:ak}{lo hi:Option ak}(h:o.op=.slice t x lo hi af){i p:TI}{E:aj}(z:bD T t=aa i)(N:i.desc=.slice E)(O:bD T E=aa p){q m:Nat}{d u:Option Int}(R:B x=.e (.one (.bp l (.sl g p.size q m))))(hl:rj B lo=aa d)(H:rj B hi=aa u)(G:ay (fR m d u)):bG P o B σ (.e (.one (.bp l (.sl g p.size (q+cO 0 d) (cO m u-cO 0 d))))) σ:=by
 refine .quiet λst ρ hh hr=>?_;have h1:=hr x;rw[R]at h1;have j:=h1;change gu σ st (ρ x) (.bp l _)at j;obtain⟨lv,⟨a,a0,cap,Q,I,f,L,y,A,F⟩,r,v⟩:=j;obtain⟨K,M,S⟩:=lW (P:=P) (isS:=ab) f (gw hr hl) (gw hr H) G st.w;have c:=(hT t i z).run_underlying (w:=st.w);rw[N]at c;refine⟨.slice (if cap=cO 0 d then a else a.map (·.add (cO 0 d*p.size))) (cO m u-cO 0 d) (cap-cO 0 d),?_,⟨lv,⟨_,a0,_,Q,rfl,by omega,by omega,y,A,λJ=>?_⟩,r,v⟩,by simp[av,h,I,Instr.sliceAt,c,Instr.slice,K,nh (P:=P) (isS:=ab) f (gw hr hl) (gw hr H) G st.w]⟩
 .simp[av,h,I,Instr.sliceAt,c,Instr.slice,K,(hT E p O).run_sizeOf]
 .obtain⟨b,rfl,rfl⟩:=F (by omega);refine⟨b,rfl,?_⟩;rw[aY (by omega)];simp[dq,ir]
def bG.UD(hT:cT P T){t:aj}{x:ak}(h:o.op=.load t x){i f:Nat}{F:TI}{e:E1}(U:B x=.e (.one (.bp l (.el g k i f))))(z:g=n)(hl:σ[l]?=aa (.buf E k n es))(hi:bD T t=aa F)(I:kP F ((fO f (es i)).map A.c)=aa e)(y:i<n):bG P o B σ (.e e) σ:=by
 refine .om λs Q hh hr=>?_;have h1:=hr x;rw[U]at h1;obtain⟨b,Z,vs,Y,N,L,d,R,S,O,K,X⟩:=Kp hh hl h1 z;have V:=K.width i y;let g:Nat->ah:=λj=>vs.getD (i*k+j) ai;have z:∀j c,(fO f (es i))[j]?=aa c->vs[i*k+(f+j)]?=aa (g (f+j))/\Rd s.M (g (f+j)) c:=by intro j c hj;rw[l3,n3]at hj;obtain⟨v,v1,W⟩:=K.rd i y (f+j) c hj;grind
 have G:=Eg (σ:=σ) (s:=s) (g:=g) (ds:=fO f (es i)) (m:=f) (λj c hj=>(z j c hj).2);have a:∀(j:Nat) (v:ah),((bd (fO f (es i)).length).map λj=>g (f+j))[j]?=aa v->s.w.cell? ⟨b,i*k+f+j,af⟩=aa v:=by
  intro j v hj;simp only[mV]at hj;by_cases p:j<(fO f (es i)).length
  .simp[p]at hj;subst hj;have h2:=(z j _ (br p)).1;simp only[aU,d];grind
  grind
 obtain⟨v,q,H⟩:=iA (s:=s) (σ:=σ) (P:=P) (hT t F hi) (b:=b) (off:=i*k+f) (e:=e) a G I;refine⟨v,by simp[av,h,L,Instr.loadAt,bn,q],H,λJ u=>?_⟩;have r:J∈(loadVar t ⟨b,i*k+f,af⟩).events P s.w #[]:=by
  have e:av Q o=(do pure (.value (<-loadVar t ⟨b,i*k+f,af⟩))):=by simp[av,h,L,Instr.loadAt,bn]
  rw[e]at u;simpa[q]using u
 obtain⟨j,hj,rfl⟩:=gf (hT t F hi) (n:=(fO f (es i)).length) (λj hj=>⟨_,a j (g (f+j)) (by grind)⟩) (by have:=kQ I;grind) J r;exact jF (bJ N) (by simp)
def Flat.put{M:Mem}{vs oP:List ah}{i f:Nat}{cc ci:List C}(h:Flat M k n es vs)(hi:i<n)(t:fy f cc (es i)=aa ci)(hl:oP.length=cc.length)(x:∀(j:Nat)(c:C),cc[j]?=aa c->∃v,oP[j]?=aa v/\Rd M v c):
  i*k+f+oP.length<=vs.length/\Flat M k n (po i ci es) (vs.take (i*k+f)++oP++vs.drop (i*k+f+oP.length)):=by
 obtain⟨h1,h2⟩:=qq t;have F:=h.width i hi;have z:i*k+k<=n*k:=by have:=eC k (show i+1<=n by omega);grind
 have r:=h.len;have m:i*k+f+oP.length<=vs.length:=by omega
 have d:∀p,(vs.take (i*k+f)++oP++vs.drop (i*k+f+oP.length))[p]?=if p<i*k+f then vs[p]? else if p<i*k+f+oP.length then oP[p-(i*k+f)]? else vs[p]?:=by
  intro p;have A:(vs.take (i*k+f)).length=i*k+f:=by grind
  by_cases c1:p<i*k+f
  .grind
  .rw[aY c1];by_cases c2:p<i*k+f+oP.length
   .grind
   .rw[aY c2,gz (by grind),n3];grind
 refine⟨m,⟨by grind,λb a=>?_,λb a j c hj=>?_⟩⟩
 .simp only[po];split
  .grind
  .exact h.width b a
 .simp only[po]at hj;rw[d];split at hj
  .rename_i e;subst e;rw[h2]at hj;by_cases c1:j<f
   .rw[lR,jw (by grind),iN,bl c1]at hj;rw[bl (by omega)];exact h.rd b hi j c hj
   .by_cases c2:j<f+cc.length
    .rw[lR,gz (by grind),jw (by grind)]at hj;obtain⟨v,v1,u⟩:=x _ c hj;refine⟨v,?_,u⟩;rw[aY (by omega),bl (by omega),<-v1];congr 1;grind
    .rw[gz (by grind),n3]at hj;rw[aY (by omega),aY (by omega)];refine h.rd b hi j c ?_;grind
  .rename_i e;have y:j<k:=by have:=(bZ.1 hj).1;have:=h.width b a;omega
   rcases cG b i with q|w
   .have:(b+1)*k<=i*k:=eC k q;rw[ir,Nat.one_mul]at this;rw[bl (by omega)];exact h.rd b a j c hj
   .have:(i+1)*k<=b*k:=eC k (by omega);rw[ir,Nat.one_mul]at this;rw[aY (by omega),aY (by omega)];exact h.rd b a j c hj
def aE.dH(hh:aE σ s)(hl:σ[l]?=aa (.buf E k n es)){b:Nat}{vs zs zB:List ah}{e:Nat}(r:s.β[l]?=aa ⟨.slice (aa ⟨b,0,af⟩) 0 e,[b]⟩)(A:(vs++zs).length=e*k)(m:n<=e)(j:e<=9223372036854775807){es':Nat->List C}(d:s.w.heap[b]?=aa (.cells (vs++zs).toArray E (0,0)))(t:Flat s.M k n es' zB)(y:zB.length=vs.length)(z:∀o,s.M b o=af):
  aE (σ.set l (.buf E k n es')) {s with w:=s.w.setRow b (zB++zs).toArray}/\Step σ s (σ.set l (.buf E k n es')) {s with w:=s.w.setRow b (zB++zs).toArray}:=by
 have f:(s.w.setRow b (zB++zs).toArray).heap[b]?=aa (.cells (zB++zs).toArray E (0,0)):=setRow_heap s.w b _ _ E _ d;have i:∀a,a≠b->(s.w.setRow b (zB++zs).toArray).heap[a]?=s.w.heap[a]?:=λa c=>setRow_other s.w b a _ c;have p:s.β.set l ⟨.slice (aa ⟨b,0,af⟩) 0 e,[b]⟩=s.β:=by apply iO;grind
 obtain⟨H,G⟩:=hh.gB (M':=s.M) (w':=s.w.setRow b (zB++zs).toArray) (B':=.buf E k n es') (L':=⟨.slice (aa ⟨b,0,af⟩) 0 e,[b]⟩) hl r ⟨λ_=>rfl,bg _⟩ (by simp[World.setRow])
  (λa c F=>i a (by grind)) (λ_ _ _ _=>rfl) (λ_ _ _ h=>h) (λa x v u=>by
   have q:a≠b:=by grind
   have:=hh.mem a x v u;rw[<-this];simp only[aU]
   grind) (λa c=>⟨.inl c,by grind⟩) rfl rfl rfl
  (.inr ⟨b,e,zB,zs,rfl,f,by grind,m,j,t,z⟩)
 grind
def sh{α:Type}:∀{new l:List α},new.length=l.length->fy 0 new l=aa new
 |[],[],_=>rfl
 |[],_::_,h=>by grind
 |_::_,[],h=>by grind
 |n::ns,c::cs,h=>by simp only[fy,sh (new:=ns) (l:=cs) (by grind)]
def bG.Jz(hT:cT P T){t:aj}{x y:ak}(h:o.op=.store t x y){i f:Nat}{F:TI}{new:List A}{cc ci:List C}(hx:B x=.e (.one (.bp l (.el g k i f))))(Y:g=n)(hl:σ[l]?=aa (.buf E k n es))(hi:bD T t=aa F)(Z:km (B y)=aa new)(X:new.length=F.size)(O:gE new=aa cc)(K:(es i).length=k->fy f cc (es i)=aa ci)(G:i<n):
  bG P o B σ .any (σ.set l (.buf E k n (po i ci es))):=by
 intro s c hh hr;have h1:=hr x;rw[hx]at h1;obtain⟨b,c0,vs,J,S,V,a,N,Q,L,U,W⟩:=Kp hh hl h1 Y;have m:=lN Z (hr y);have u:=lP O m;have M:=dW.closed u;have p:(c y).cells.toList.length=cc.length:=by have:=u.length;grind
 replace K:=K (U.width i G);obtain⟨q1,q2⟩:=U.put G K p M;have H:(c y).cells.size=F.size:=by rw[<-X,<-m.length,jh]
 obtain⟨t1,t2⟩:=hh.dH hl S N Q L a q2 (by grind) W;have I:=run_storeCells_at P b (i*k+f) E (c y).cells.toList 0 (vs++J).toArray s.w a (by grind) m.cell;have z:((vs++J).toArray.toList.take (i*k+f+0)++(c y).cells.toList++(vs++J).toArray.toList.drop (i*k+f+0+(c y).cells.toList.length))=vs.take (i*k+f)++(c y).cells.toList++vs.drop (i*k+f+(c y).cells.toList.length)++J:=by grind
 rw[z]at I;refine⟨.skip,_,?_,rfl,t1,t2,?_⟩
 .simp[av,h,V,Instr.storeAt,bn,storeVar,(hT t F hi).run_sizeOf,H,I]
 .intro R d;have e:av c o=(do storeVar t ⟨b,i*k+f,af⟩ (c y);pure .skip):=by simp[av,h,V,Instr.storeAt,bn]
  rw[e]at d;have q:R∈(storeCells ⟨b,i*k+f,af⟩ (c y).cells.toList).events P s.w #[]:=by
   simp only[storeVar,aK,(hT t F hi).run_sizeOf,H,aO,events_sizeOf,du,fh,b9,bO,bX,Sem.events_pure]at d;generalize(storeCells ⟨b,i*k+f,af⟩ (c y).cells.toList).run P s.w=r at d;cases r with
   |ok v w'=>simpa using d
   |halt x w'=>simpa using d
  rcases dE (c y).cells.toList 0 (vs++J).toArray s.w #[] a (by grind) m.cell R q with I7|⟨j,_,_,rfl⟩
  .grind
  .exact jC (bJ S) (by simp) (W _)
end
section
variable {σ:List aP}
def aE.zr{s:St}(hh:aE σ s){b:Nat}{vs:List ah}(g:∀o,s.M b o=af)(h:∀o v,vs[o]?=aa v->s.w.cell? ⟨b,o,af⟩=aa v):
  aE (σ.map λ_=>.dead) {s with M:=λa o=>if a=b then vs[o]? else s.M a o}/\∀a o v,s.M a o=aa v->(if a=b then vs[o]? else s.M a o)=aa v:=by
 have c:=hh.lH;refine⟨⟨λa o v f=>?_,c.len,λl B L hB hL=>?_,c.eB,c.lt,c.own⟩,λa o v f=>?_⟩
 .by_cases e:a=b
  .grind
  .simp only[e,b9]at f;exact c.mem a o v f
 .have:=bJ hB;simp at this;rw[<-this.2];trivial
 grind
def fb.vG{s:St}{M':Mem}{b:Nat}{es:Array Event}(h:fb {s with M:=M'} es){L:Loc}(m:L∈s.β)(l:b∈L.bs)(j:∀c o v,s.M c o=aa v->M' c o=aa v)(i:∀c o v,M' c o=aa v->c=b∨s.M c o=aa v):fb s es:=by
 intro e f;have h1:=h e f;unfold oh at h1⊢;split at h1
 .obtain⟨a1,a2,a3⟩:=h1;refine⟨a1,a2,?_⟩;rcases a3 with a3|⟨a3,a4⟩|⟨a3,v,a4⟩
  .grind
  .refine .inr (.inl ⟨a3,λg=>?_⟩);have:=a4 g;rename_i a _;cases k:s.M a.block a.off with
   |none=>rfl
   |some v=>grind
  grind
 all_goals exact h1
end
def IM(k:Nat)(f:Nat->Nat->ah):Nat->List C:=λi=>(bd k).map λj=>.val (f i j)
theorem qa{k:Nat}{f:Nat->Nat->ah}{i j:Nat}{c:C}(h:(IM k f i)[j]?=aa c):j<k/\c=.val (f i j):=by
 have a:j<k:=by have:=(bZ.1 h).1;simpa[IM]using this
 simp[IM,a]at h;grind
def Dx{k:Nat}{f:Nat->Nat->ah}{i j:Nat}(h:j<k):(IM k f i)[j]?=aa (.val (f i j)):=by simp[IM,h]
def Rd.exact{M:Mem}{v:ah}{t:Bool}{k n:Nat}{es:Nat->List C}(h:Rd M v (.sl t k n es)):
  ∃f:Nat->Nat->ah,Rd M v (.sl t k n (IM k f))/\(∀i,i<n->(es i).length=k)/\∀i,i<n->∀j c,(es i)[j]?=aa c->Rd M (f i j) c:=by
 cases h with
 |sl b off f a l g hk ha hm hr =>
  have e:∀i,i<n->∀j,j<k->∃c,(es i)[j]?=aa c:=λi hi j hj=>⟨_,br (by grind)⟩
  refine⟨f,.sl b off f a l g (λi _=>by simp[IM]) ha (λi hi j c hj=>?_) (λi hi j c hj=>?_),hk,hr⟩
  .grind [qa]
  .obtain⟨h1,rfl⟩:=qa hj;obtain⟨m,h2⟩:=e i hi j h1;exact .val (hr i hi j m h2).cell
def Ag{σ:List aP}{s:St}{l:Nat}{E:aj}{k n:Nat}{es:Nat->List C}{L:Loc}{a c:Option Addr}{cap:Nat}(hB:σ[l]?=aa (.buf E k n es))(i:s.β[l]?=aa L)(e:L.v=.slice c 0 cap)(f:n<=cap)(g:cap<=9223372036854775807)(j:0<cap->∃b,c=aa ⟨b,0,af⟩/\a=aa ⟨b,0,af⟩):gu σ s (.slice a n cap) (.bp l (.sl n k 0 n)) :=
 ⟨L.v,⟨a,c,cap,cap,rfl,f,by omega,g,e,λh=>by grind⟩,(bZ.1 hB).1,λm k' n' es' he=>by rw[hB]at he;cases he;exact⟨bg _,λ_=>⟨L,i,rfl⟩⟩⟩
def rP{P:aq}{o:ar}{σ:List aP}{x y:ak}{E:aj}{g:TI}(h:lA P o x y E g){l n p:Nat}{tx:Bool}{es es':Nat->List C}{s:St}{ρ:ak->ah}(r:aE σ s)(h1:gu σ s (ρ x) (.bp l (.sl n g.size 0 n)))(hl:σ[l]?=aa (.buf E g.size n es))(W:Rd s.M (ρ y) (.sl tx g.size p es'))(K:(n+p)*g.bytes<=140737488355328):
  ∃nx s',(av ρ o).run P s.w=.ok nx s'.w/\RM (σ.set l (.buf E g.size (n+p) (cE n es es'))) s' nx (.e (.one (.bp l (.sl (n+p) g.size 0 (n+p)))))/\aE (σ.set l (.buf E g.size (n+p) (cE n es es'))) s'/\Step σ s (σ.set l (.buf E g.size (n+p) (cE n es es'))) s'/\fb s ((av ρ o).events P s.w #[]):=by
 obtain⟨t,t2,i,i2,ho,hi,hd,A,B⟩:=h.op;have I:l<σ.length:=(bZ.1 hl).1;obtain⟨lv,⟨a,a0,cap,u,hv,N,TE,Q,G9,Xr⟩,_,WN⟩:=h1;obtain⟨L,hL,Xh⟩:=(WN _ _ _ _ hl).2 rfl;rw[G9]at Xh;have PL:u=cap:=by omega
 subst PL;have S:0<u->∃b,a0=aa ⟨b,0,af⟩/\a=aa ⟨b,0,af⟩:=λh=>by grind
 have R:l<s.β.length:=(bZ.1 hL).1;have Ua:=bJ hL;have V:=r.box l _ L hl hL;rw[dj ho,hv];have row:0<u->∃b vs zs,a=aa ⟨b,0,af⟩/\L=⟨.slice (aa ⟨b,0,af⟩) 0 u,[b]⟩/\s.w.heap[b]?=aa (.cells (vs++zs).toArray E (0,0))/\(vs++zs).length=u*g.size/\Flat s.M g.size n es vs/\∀o,s.M b o=af:=by
  intro G;obtain⟨b,e1,e2⟩:=S G;rcases V with⟨_,rfl⟩|⟨q,c1,vs,zs,rfl,h3,h4,h5,h6,h7,h8⟩
  .grind
  grind
 by_cases h0:p=0
 .subst h0;have m:=jb (P:=P) (ty:=o.type) hi hd A B h.elem r (a:=a) N W;simp only[iq];have ha:cy n es (cE n es es'):=λi hi=>by simp[cE,hi]
  have WT:et (σ.set l (.buf E g.size n (cE n es es'))) ⟨s.β.set l L,s.M,s.w,s.own⟩ (.buf E g.size n (cE n es es')) L:=by
   rcases V with h3|⟨q,c1,vs,zs,W,h3,h4,h5,h6,h7,h8⟩
   .exact .inl h3
   .exact .inr ⟨q,c1,vs,zs,W,h3,h4,h5,h6,h7.Dw ha,h8⟩
  have FZ:=r.gB (M':=s.M) (w':=s.w) (B':=.buf E g.size n (cE n es es')) (L':=L) hl hL ⟨λ_=>rfl,bg _⟩ (bg _) (λ_ _ _=>rfl) (λ_ _ _ _=>rfl) (λ_ _ _ h=>h) r.mem
   (λb K=>⟨.inl K,r.lt L Ua b K⟩) rfl rfl rfl WT
  refine⟨.value (.slice a n u),_,?_,?_,FZ.1,FZ.2,eJ (jB hi hd A B h.elem r N W)⟩
  .simp[m]
  .exact Ag (E:=E) (by rw[fZ I]) (by grind) Xh N Q S
 .by_cases k:n+p<=u
  .obtain⟨b,vs,zs,rfl,rfl,hw,J,hF,hM⟩:=row (by omega);obtain⟨f,MV,m⟩:=kg (P:=P) (ty:=o.type) hi hd A B h.elem r hw J W k;have PN:vs.length=n*g.size:=hF.len;have TG:f.length=p*g.size:=MV.len;have ZQ:n*g.size+p*g.size<=u*g.size:=by rw[<-ir];exact eC _ k
   have Vf:((vs++zs).take (n*g.size)++f++(vs++zs).drop (n*g.size+f.length))=(vs++f)++zs.drop f.length:=by rw[<-PN];simp[List.drop_append]
   rw[Vf]at m;have Nn:=setRow_heap s.w b _ ((vs++f)++zs.drop f.length).toArray E _ hw;have DI:∀q,q≠b->(s.w.setRow b ((vs++f)++zs.drop f.length).toArray).heap[q]?=s.w.heap[q]?:=λq O=>setRow_other s.w b q _ O;obtain⟨t1,Z⟩:=r.gB (M':=s.M) (w':=s.w.setRow b ((vs++f)++zs.drop f.length).toArray) (B':=.buf E g.size (n+p) (cE n es es')) (L':=⟨.slice (aa ⟨b,0,af⟩) 0 u,[b]⟩) hl hL ⟨λ_=>rfl,by omega⟩ (by simp[World.setRow])
    (λq O hn=>DI q (by grind)) (λ_ _ _ _=>rfl) (λ_ _ _ h=>h) (λq o' v hmv=>by
     have Bi:q≠b:=by grind
     have:=r.mem q o' v hmv;rw[<-this];simp only[aU]
     grind) (λq O=>⟨.inl O,by grind⟩) rfl rfl rfl
    (.inr ⟨b,u,vs++f,zs.drop f.length,rfl,Nn,by grind,k,Q,hF.append MV,hM⟩)
   refine⟨.value (.slice (aa ⟨b,0,af⟩) (n+p) u),_,?_,?_,t1,Z,eJ (lT hi hd A B h.elem r hw J W k Ua (by simp) (λo _=>hM o))⟩
   .simp[m]
   .exact Ag (E:=E) (by rw[fZ I]) (by simp only;rw[fZ R]) rfl k Q λ_=>⟨b,rfl,rfl⟩
  .have hg:u<n+p:=by omega
   obtain⟨f2,h2x,Yh,sX⟩:=W.exact;have gq:∃(M':Mem) (f0:Nat->Nat->ah),aE (σ.map λ_=>.dead) {s with M:=M'}/\(∀q o v,s.M q o=aa v->M' q o=aa v)/\Rd M' (.slice a n u) (.sl ae g.size n (IM g.size f0))/\(∀{es},fb {s with M:=M'} es->fb s es) /\
     (∀i,i<n->(es i).length=g.size)/\∀i,i<n->∀j c,(es i)[j]?=aa c->Rd s.M (f0 i j) c:=by
    by_cases G:0<u
    .obtain⟨b,vs,zs,rfl,rfl,hw,J,hF,hM⟩:=row G;obtain⟨c1,c2⟩:=r.zr (b:=b) (vs:=vs) hM (λo v ho=>by
      simp only[aU,hw]
      grind)
     have U:∀i,i<n->∀j c,(es i)[j]?=aa c->vs[i*g.size+j]?=aa (vs.getD (i*g.size+j) ai)/\Rd s.M (vs.getD (i*g.size+j) ai) c:=by intro i hi j c F;obtain⟨v,v1,v2⟩:=hF.rd i hi j c F;grind
     have TJ:∀i,i<n->∀j,j<g.size->∃c,(es i)[j]?=aa c:=λi hi j F=>⟨_,br (by rw[hF.width i hi];exact F)⟩
     refine⟨_,λi j=>vs.getD (i*g.size+j) ai,c1,c2,.sl b 0 (λi j=>vs.getD (i*g.size+j) ai) N Q (by simp) (λi _=>by simp[IM]) (λ_=>rfl) (λi hi j c F=>?_) (λi hi j c F=>?_),λhe=>?_,hF.width,λi hi j c F=>(U i hi j c F).2⟩
     .obtain⟨e1,_⟩:=qa F;grind
     .obtain⟨e1,rfl⟩:=qa F;obtain⟨c',e2⟩:=TJ i hi j e1;exact .val (U i hi j c' e2).2.cell
     .exact he.vG (b:=b) Ua (by simp) c2 λq o v hv=>by grind
    .have e1:u=0:=by omega
     have e2:n=0:=by omega
     subst e1 e2;have z:=r.lH;exact⟨s.M,λ_ _=>ai,⟨z.mem,z.len,z.box,z.eB,z.lt,z.own⟩,λ_ _ _ h=>h,Rd.jD,λh=>h,λi hi=>by omega,λi hi=>by omega⟩
   obtain⟨M',f0,c1,c2,hR,WW,hw0,hr0⟩:=gq;have XD:Rd ({s with M:=M'}:St).M (ρ y) (.sl tx g.size p (IM g.size f2)):=h2x.mono c2;obtain⟨Y,zs,H,X,TH,WU,hlen,m⟩:=iu (P:=P) (s:={s with M:=M'}) (ty:=o.type) hi hd A B h.elem c1 hR XD hg K h.bytes;have Ha:=iV (P:=P) (s:={s with M:=M'}) (ty:=o.type) hi hd A B h.elem c1 hR XD hg K h.bytes;have hFs:Flat s.M g.size (n+p) (cE n es es') Y:=by
    refine⟨X.len,λi hi=>?_,λi hi j c F=>?_⟩
    .by_cases e:i<n
     .simp only[cE,e,cn];grind
     .simp only[cE,e,b9];grind
    .by_cases e:i<n
     .simp only[cE,e,cn]at F;have Ub:j<g.size:=by grind
      obtain⟨v,v1,v2⟩:=X.rd i hi j (.val (f0 i j)) (by simp only[cE,e,cn];exact Dx Ub);grind[Rd.dY]
     .simp only[cE,e,b9]at F;have Ub:j<g.size:=by grind
      obtain⟨v,v1,v2⟩:=X.rd i hi j (.val (f2 (i-n) j)) (by simp only[cE,e,b9];exact Dx Ub);grind[Rd.dY]
   have nM:∀o,s.M s.w.heap.size o=af:=λo=>by
    cases hm:s.M s.w.heap.size o with
    |none=>rfl
    |some v=>have:=r.block hm;omega
   obtain⟨t1,Z⟩:=r.gB (M':=s.M) (w':=s.w.drew.alloc (.cells (Y++zs).toArray E)) (B':=.buf E g.size (n+p) (cE n es es')) (L':=⟨.slice (aa ⟨s.w.heap.size,0,af⟩) 0 H,[s.w.heap.size]⟩) hl hL
    ⟨λe=>absurd e (by omega),by omega⟩ (by simp) (λb K _=>cM s.w.drew _ K) (λ_ _ _ _=>rfl) (λ_ _ _ h=>h) (λb o v hm=>by
     have vJ:=r.block hm;rw[<-r.mem b o v hm];simp only[aU];rw[cM s.w.drew _ vJ];rfl) (λb K=>by simp at K;subst K;exact⟨.inr (bg _),by simp⟩) rfl rfl rfl (.inr ⟨s.w.heap.size,H,Y,zs,rfl,dG s.w.drew _,hlen,TH,WU,hFs,nM⟩)
   refine⟨.value (.slice (aa ⟨s.w.heap.size,0,af⟩) (n+p) H),_,?_,?_,t1,Z,eJ (WW Ha)⟩
   .simp only at m;simp[m]
   .exact Ag (E:=E) (by rw[fZ I]) (by simp only;rw[fZ R]) rfl TH WU λ_=>⟨_,rfl,rfl⟩
def bG.NH{P:aq}{o:ar}{d:ak->D}{σ:List aP}{x y:ak}{E:aj}{a:TI}(h:lA P o x y E a){l n b:Nat}{tx:Bool}{es es':Nat->List C}(g:d x=.e (.one (.bp l (.sl n a.size 0 n))))(hl:σ[l]?=aa (.buf E a.size n es))(f:∀s v,dn σ s v (d y)->Rd s.M v (.sl tx a.size b es'))(c:(n+b)*a.bytes<=140737488355328):
  bG P o d σ (.e (.one (.bp l (.sl (n+b) a.size 0 (n+b))))) (σ.set l (.buf E a.size (n+b) (cE n es es'))) :=
 λs i hh hr=>rP h hh (by have:=hr x;rw[g]at this;exact this) hl (f s _ (hr y)) c
section
variable {P:aq}{T:List (Nat×TI)}{o:ar}{d:ak->D}{σ:List aP}
def bG.XZ(hT:cT P T){x:ak}{b:Array aj}{t:aj}(h:o.op=.call {callee:=.builtin .len,args:=#[x],argTypes:=b})(g:b[0]?=aa t){i:TI}{E:aj}(hi:bD T t=aa i)(k:i.desc=.slice E){a:Option Addr}{n cap:Nat}(l:d x=.e (.one (.c (.val (.slice a n cap)))))(p:n<=9223372036854775807):bG P o d σ (.e (.one (.c (.int .i64 n)))) σ:=by
 refine .quiet λs m hh hr=>?_;have h1:=hr x;rw[l]at h1;have j:=Rd.dY (eY h1);have f:=(hT t i hi).run_underlying (w:=s.w);rw[k]at f;refine⟨.int .i64 n,?_,Rd.int (by simp only[bA];omega),?_⟩<;>
 simp[av,h,resolve,invoke,builtin,Builtin.len_,j,f,goInt,g]
theorem bG.BD(hT:cT P T){t:aj}{x y:ak}(h:o.op=.indexAddr t x y){i g:TI}{E:aj}(hi:bD T t=aa i)(v:i.desc=.slice E)(p:bD T E=aa g){b off n cap:Nat}{j:Int}{kk:IntKind}(z:d x=.e (.one (.c (.val (.slice (aa ⟨b,off,af⟩) n cap)))))(u:d y=.e (.one (.c (.int kk j))))(A:0<=j)(h1:j<n):bG P o d σ (.e (.one (.c (.val (.pointer (aa ⟨b,off+j.toNat*g.size,af⟩)))))) σ:=by
 refine .quiet λs q hh hr=>?_;have a:=hr x;rw[z]at a;have r:=Rd.dY (eY a);have h2:=hr y;rw[u]at h2;replace h2:=eY h2;generalize k:q y=vy at h2;cases h2;have m:=(hT t i hi).run_underlying (w:=s.w);rw[v]at m;obtain⟨f,rfl⟩:∃f:Nat,j=f:=⟨j.toNat,by omega⟩
 have l:f<n:=by omega
 refine⟨.pointer (aa ⟨b,off+f*g.size,af⟩),?_,Rd.val rfl,?_⟩<;>
 simp[av,h,r,k,Instr.indexAt,asIntOf,m,(hT E g p).run_sizeOf,dq,l]
def bG.Rs(hT:cT P T){t:aj}{x:ak}{f:Nat}(h:o.op=.fieldAddr t x f){b off k:Nat}{j:TI}(i:d x=.e (.one (.c (.val (.pointer (aa ⟨b,off,af⟩))))))(a:jK T t f=aa (k,j)):bG P o d σ (.e (.one (.c (.val (.pointer (aa ⟨b,off+k,af⟩)))))) σ:=by refine .quiet λs l hh hr=>?_;have h1:=hr x;rw[i]at h1;have g:=Rd.dY (eY h1);exact⟨.pointer (aa ⟨b,off+k,af⟩),by simp[av,h,g,mE hT a],Rd.val rfl,by simp[av,h,g,oz hT a]⟩
def bG.slice3(hT:cT P T){t:aj}{x y z:ak}(h:o.op=.slice t x af (aa y) (aa z)){i L:TI}{E:aj}(G:bD T t=aa i)(R:i.desc=.slice E)(S:bD T E=aa L){tt:Bool}{k n:Nat}{es:Nat->List C}{r u:IntKind}{j m:Int}(V:∀s v,dn σ s v (d x)->Rd s.M v (.sl tt k n es))(Q:d y=.e (.one (.c (.int r j))))(U:d z=.e (.one (.c (.int u m))))(F:0<=j)(h1:j<=m)(h2:m<=n):bG P o d σ (.e (.one (.c (.sl ae k j.toNat es)))) σ:=by
 refine .quiet λst ρ hh hr=>?_;have q:=V st _ (hr x);have l:=hr y;rw[Q]at l;replace l:=eY l;generalize B:ρ y=vy at l;cases l;have p:=hr z;rw[U]at p;replace p:=eY p;generalize A:ρ z=vz at p;cases p;obtain⟨a,cap,vs,H,I,O,X,W,Y⟩:=q.flat;rw[H]at q;have g:=(hT t i G).run_underlying (w:=st.w);rw[R]at g;have em:((m.toNat:Nat):Int)=m:=rJ (by omega);have K:(ba ab n cap af (aa (.int r j)) (aa (.int u m))).run P st.w=.ok (0,j.toNat,m.toNat) st.w:=by simp[ba,run_sliceBound (P:=P) st.w u m cap _ (by omega) (by omega),run_sliceBound (P:=P) st.w r j m.toNat _ F (by omega)]
 have N:(ba ab n cap af (aa (.int r j)) (aa (.int u m))).events P st.w #[]=#[]:=by simp[ba,run_sliceBound (P:=P) st.w u m cap _ (by omega) (by omega),run_sliceBound (P:=P) st.w r j m.toNat _ F (by omega),dF (P:=P) st.w u m cap _ (by omega) (by omega),dF (P:=P) st.w r j m.toNat _ F (by omega)]
 refine⟨.slice a j.toNat m.toNat,?_,?_,by simp[av,h,H,B,A,Instr.sliceAt,g,Instr.slice,K,N]⟩
 .simp[av,h,H,B,A,Instr.sliceAt,g,Instr.slice,K,(hT E L S).run_sizeOf];intro _;rcases a with _|⟨b,off,sp⟩<;>simp[Addr.add]
 .cases q with
  |sl b off f _ _ _ hk ha hm' MY =>
   exact Rd.sl b off f (by omega) (by omega) (by simp) (λi hi=>hk i (by omega)) (λJ=>ha (by omega)) (λi hi j c hj=>hm' i (by omega) j c hj) (λi hi j c hj=>MY i (by omega) j c hj)
end
structure IN(N:Nat)(σ:List aP)(s:St)(V:Nat->D)(a:Act):Prop where
 size:a.tmps.size=N
 defers:∃ls,oS σ s a.defers ls
 slot:∀t,dn σ s (a.tmps.getD t ai) (V t)
def IN.Jj{N:Nat}{σ:List aP}{s:St}{V:Nat->D}{φ:Fr}{a:Act}(f:IN N σ s V a)(h:∀t σ s v,dn σ s v (V t)->dn σ s v (look φ t)):cq N σ s φ a :=
 ⟨f.size,f.defers,λt=>h t _ _ _ (f.slot t)⟩
def dm(e:Edge):Bool:=Region.binds .any e
structure wa{P:aq}(X:Cx P)(N:Nat)(ops:Array ar)(φ:Fr)(S:Nat->List aP)(x:Nat->D)(m:Nat->Fr)(free c:Nat->Bool)(p:Nat->Nat->Prop)(idx:Nat->Option Nat)(φ':Fr):Prop where
 iZ:P.follows Departure.mixedOrders=ab
 back:∀i o,ops[i]?=aa o->∀e∈o.after,dm e=ab->e.on<i
 Jk:∀i o d,ops[i]?=aa o->o.dst=aa d->idx d=aa i/\d<N
 xX:∀d i,idx d=aa i->∃o,ops[i]?=aa o/\o.dst=aa d
 quiet:∀i,c i=ae->S (i+1)=S i
 one:∀i o,ops[i]?=aa o->free i=ae->OA X N ops.toList o (m i) (S i) (x i) (S (i+1))
 all:∀i o,ops[i]?=aa o->free i=ab->c i=ae/\∀k,OA X N ops.toList o (m i) (S k) (x i) (S k)
 cl:∀L:Nat->Prop,(∀i o,ops[i]?=aa o->L i->∀e∈o.after,dm e=ab->L e.on)->∀i j,p i j->(L i->L j)/\∃o,ops[i]?=aa o/\((∀e∈o.after,dm e=ab->L e.on)->L j)
 comp:∀i f,i<ops.size->f<ops.size->c f=ab->i≠f->free i=ae->(f<i/\p i f)∨(i<f/\p f i)
 TN:∀i o,ops[i]?=aa o->∀t σ s v,dn σ s v (match idx t with|some j=>(if ∃e∈o.after,dm e=ab/\e.on=j then x j else if ∃oj,ops[j]?=aa oj/\∃e∈oj.after,dm e=ab/\e.on=i then look φ t else .any)|none=>look φ t)->dn σ s v (look (m i) t)
 fin:∀t σ s v,dn σ s v (match idx t with|some j=>x j|none=>look φ t)->dn σ s v (look φ' t)
open Classical in
noncomputable def gp(φ:Fr)(x:Nat->D)(idx:Nat->Option Nat)(L:Array Bool)(t:Nat):D :=
 match idx t with
 |some j=>if L.getD j ae=ab then x j else look φ t
 |none=>look φ t
theorem mem_ready{ops:Array ar}{L:Array Bool}{i:Nat}:i∈a9 .any ops L↔∃o,ops[i]?=aa o/\L.getD i ab=ae/\∀e∈o.after,dm e=ab->L.getD e.on ae=ab:=by
 unfold a9;simp only[lg,oe,bS,j7];constructor
 .rintro⟨b,d,a⟩;rw[fY b]at a;simp only[n8,ik,Array.all_eq_true',jA,j7]at a;refine⟨ops[i],fY b,d,λe f g=>?_⟩;rcases a e f with h|h
  .unfold dm at g;grind
  grind
 .rintro⟨o,b,d,a⟩;have j:i<ops.size:=(ig.1 b).1;refine⟨j,d,?_⟩;rw[b];simp only[n8,ik,Array.all_eq_true',jA,j7];intro e f;cases g:Region.binds .any e with
  |false=>grind
  |true=>exact .inr (a e f g)
section
variable {P:aq}{X:Cx P}{N:Nat}{ops:Array ar}{φ φ':Fr}{S:Nat->List aP}{x:Nat->D}{m:Nat->Fr}{free c:Nat->Bool}{p:Nat->Nat->Prop}{idx:Nat->Option Nat}
def wa.chain(h:wa X N ops φ S x m free c p idx φ'){i:Nat}:∀{k:Nat},i<=k->(∀g,i<=g->g<k->c g=ae)->S k=S i
 |0,hk,_=>by grind
 |k+1,hk,a=>by
  rcases cG k i with hl|hl
  .grind
  .rw[h.quiet k (a k hl (by omega)),h.chain (k:=k) hl (λg h1 h2=>a g h1 (by omega))]
def wa.last(h:wa X N ops φ S x m free c p idx φ'){L:Array Bool}(e:∀i,i<ops.size->L.getD i ae=ab){k:Nat}{s0 s:St}{a:Act}(hk:k<=ops.size)(n:∀f,f<ops.size->c f=ab->(L.getD f ae=ab↔f<k))(b:IN N (S k) s (gp φ x idx L) a)(hh:aE (S k) s)(st:cU (S 0) s0 (S k) s):
  cq N (S ops.size) s φ' a/\aE (S ops.size) s/\cU (S 0) s0 (S ops.size) s:=by
 have d:S ops.size=S k:=h.chain hk (λg h1 h2=>by grind)
 rw[<-d]at b hh st;refine⟨b.Jj λt σ s v l=>h.fin t σ s v ?_,hh,st⟩;unfold gp at l;cases hi:idx t with
 |none=>grind
 |some j =>
  simp only[hi]at l⊢;obtain⟨o,q,_⟩:=h.xX _ _ hi;grind
theorem eK{L:Array Bool}{i j:Nat}(hi:i<L.size):(L.setIfInBounds i ab).getD j ae=ab↔j=i∨L.getD j ae=ab:=by simp only[dN];grind
theorem count_set:∀{l:List Bool}{i:Nat},l[i]?=aa ae->((l.set i ab).filter (λb=>!b)).length+1=(l.filter (λb=>!b)).length
 |[],_,h=>by grind
 |b::r,0,h=>by grind
 |b::r,i+1,h=>by simp at h;have:=count_set (l:=r) h;cases b<;>simp[List.set_cons_succ]<;>omega
theorem wc(t:Nat)(L:Array Bool):Region.linearise.go .any ops 0 t L []=[]:=by simp[Region.linearise.go]
theorem pg(n t:Nat)(L:Array Bool):Region.linearise.go .any ops (n+1) t L []=match(a9 .any ops L)[t % (a9 .any ops L).length]? with
  |some i=>i::Region.linearise.go .any ops n (t / (a9 .any ops L).length) (L.setIfInBounds i ab) []
  |none=>[]:=by
 simp only[Region.linearise.go]
 change (match(a9 .any ops L)[t % (a9 .any ops L).length]? with
   |some i=>Region.linearise.go .any ops n (t / (a9 .any ops L).length) (L.setIfInBounds i ab) [i]
   |none=>[].reverse)=_
 grind[linearise_go_acc]
def wa.arr(h:wa X N ops φ S x m free c p idx φ'){V:au->St->Prop}{b:aR}{kk:List Item}{cs:List aR}(hb:b.kind≠.early){s0:St}(hQ:∀s a,cq N (S ops.size) s φ' a->aE (S ops.size) s->cU (S 0) s0 (S ops.size) s->fE X V (G (b.aT a kk) cs) s):
  ∀(l:Nat) (L:Array Bool),L.size=ops.size->(L.toList.filter (λb=>!b)).length<=l ->
   (∀i o,ops[i]?=aa o->L.getD i ae=ab->∀e∈o.after,dm e=ab->L.getD e.on ae=ab) ->
   ∀(k:Nat) (s:St) (a:Act),k<=ops.size->(∀f,f<ops.size->c f=ab->(L.getD f ae=ab↔f<k))->IN N (S k) s (gp φ x idx L) a->aE (S k) s->cU (S 0) s0 (S k) s ->
   ∀t,fE X V (G (b.aT a (.inRegion ops (Region.linearise.go .any ops l t L [])::kk)) cs) s:=by
 have fin:∀(s:St) (a:Act),cq N (S ops.size) s φ' a->aE (S ops.size) s->cU (S 0) s0 (S ops.size) s->fE X V (G (b.aT a (.inRegion ops []::kk)) cs) s :=
  λs a a1 a2 a3=>.ctl a2 rfl (λ_=>iW) λs1 O=>hQ s1 a (a1.rely O a2) (a2.rely O) (a3.trans O.stepW)
 intro l;induction l with
 |zero =>
  intro L hs hf Dz k s a hk W0 Ds hh st;have z:∀i,i<ops.size->L.getD i ae=ab:=by
   intro i hi;have hm:L[i]'(by omega)∈L.toList:=by simp
   cases hb:L[i]'(by omega)with
   |true=>simp[dN,fY (by omega:i<L.size),hb]
   |false =>
    have:L[i]'(by omega)∈L.toList.filter (λb=>!b):=lg.2 ⟨hm,by grind⟩;grind
  intro t;rw[wc];obtain⟨a1,a2,a3⟩:=h.last z hk W0 Ds hh st;grind
 |succ l ih =>
  intro L hs hf Dz k s a hk W0 Ds hh st;intro t;rw[pg];cases Y:(a9 .any ops L)[t % (a9 .any ops L).length]? with
  |none =>
   have hr:a9 .any ops L=[]:=by
    cases hr:a9 .any ops L with
    |nil=>rfl
    |cons y ys =>
     grind[Nat.mod_lt]
   have z:∀i,i<ops.size->L.getD i ae=ab:=by
    intro i;induction i using Nat.strongRecOn with
    |_ i ihi =>
     intro hi;cases hb:L.getD i ae with
     |true=>rfl
     |false =>
      have hm:i∈a9 .any ops L:=mem_ready.2 ⟨ops[i],fY hi,by
       grind,λe Q hbe=>by
       have:=h.back i _ (fY hi) e Q hbe
       grind⟩
      grind
   obtain⟨a1,a2,a3⟩:=h.last z hk W0 Ds hh st;grind
  |some i =>
   have hi:=bJ Y;obtain⟨o,T,XF,Re⟩:=mem_ready.1 hi;have J:i<ops.size:=(ig.1 T).1;have H:¬L.getD i ae=ab:=by grind
   have Z:=h.cl (λj=>L.getD j ae=ab) Dz;have ZU:∀g,p g i->¬L.getD g ae=ab:=λg hg hL=>H ((Z g i hg).1 hL);have hup:∀g,p i g->L.getD g ae=ab:=λg hg=>by grind
   have B:(L.setIfInBounds i ab).size=ops.size:=by grind
   have C:((L.setIfInBounds i ab).toList.filter (λb=>!b)).length<=l:=by
    have h1:L.toList[i]?=aa ae:=by rw[zm,fY (by omega:i<L.size)];simpa[dN,fY (by omega:i<L.size)]using H
    grind[count_set]
   have XG:∀j o',ops[j]?=aa o'->(L.setIfInBounds i ab).getD j ae=ab->∀e∈o'.after,dm e=ab->(L.setIfInBounds i ab).getD e.on ae=ab:=by grind[eK]
   have hfi:cq N (S k) s (m i) a:=Ds.Jj λt σ s v R=>h.TN i o T t σ s v (by
    unfold gp at R;cases q:idx t with
    |none=>grind
    |some j =>
     simp only[q]at R⊢;split
     .grind
     .split
      .grind
      .trivial)
   have K:∀(σ':List aP) (s':St) (v:ah),cU (S k) s σ' s'->dn σ' s' v (x i)->IN N σ' s' (gp φ x idx (L.setIfInBounds i ab)) (a.put o.dst v):=by
    intro σ' s' v r R;cases hd:o.dst with
    |none =>
     refine⟨Ds.size,Ds.defers.imp λ_ h1=>h1.mono r.ext,λt=>?_⟩;have w:=(Ds.slot t).mono r.ext hh.len;simp only[Act.put];unfold gp at w⊢;cases q:idx t with
     |none=>grind
     |some j =>
      simp only[q]at w⊢;obtain⟨oj,XH,XI⟩:=h.xX _ _ q;grind[eK]
    |some d =>
     obtain⟨hid,hdN⟩:=h.Jk i o d T hd;refine⟨by simp[Act.put,Ds.size],Ds.defers.imp λ_ h1=>h1.mono r.ext,λt=>?_⟩;simp only[Act.put];by_cases e:d=t
     .subst e;have hs2:d<a.tmps.size:=by rw[Ds.size];exact hdN
      simp only[dN,vD hs2,ik];unfold gp;simp only[hid];rw[bl ((eK (by omega)).2 (.inl rfl))];exact R
     .have w:=(Ds.slot t).mono r.ext hh.len;simp only[dN]at w⊢;rw[vF e];unfold gp at w⊢;cases q:idx t with
      |none=>grind
      |some j =>
       simp only[q]at w⊢;obtain⟨oj,XH,XI⟩:=h.xX _ _ q;grind[eK]
   have A:∀(k':Nat),k'<=ops.size->OA X N ops.toList o (m i) (S k) (x i) (S k')->(∀f,f<ops.size->c f=ab->((L.setIfInBounds i ab).getD f ae=ab↔f<k')) ->
     fE X V (G (b.aT a (.inRegion ops (i::Region.linearise.go .any ops l (t / (a9 .any ops L).length) (L.setIfInBounds i ab) [])::kk)) cs) s:=by intro k' Uq hoa XJ;have:=hoa s a hfi hh b kk cs V i (Region.linearise.go .any ops l (t / (a9 .any ops L).length) (L.setIfInBounds i ab) []) hb (by grind);simp only[oZ]at this;exact this λv s' R iX r=>ih _ B C XG k' s' _ Uq XJ (K _ _ _ r R) iX (st.trans r) _
   have same:c i=ae->∀f,f<ops.size->c f=ab->((L.setIfInBounds i ab).getD f ae=ab↔f<k):=by grind[eK]
   cases n:free i with
   |true =>
    obtain⟨hq,W⟩:=h.all i o T n;exact A k hk (W k) (same hq)
   |false =>
    have u:=h.one i o T n;have F:S i=S k:=by
     rcases Nat.le_total k i with M|M
     .refine h.chain M λg h1 h2=>?_;cases Q:c g with
      |false=>rfl
      |true =>
       exfalso;rcases h.comp i g J (by omega) Q (by omega) n with⟨_,U⟩|⟨U,_⟩
       .grind
       .omega
     .refine(h.chain M λg h1 h2=>?_).symm;cases Q:c g with
      |false=>rfl
      |true =>
       exfalso;have hLg:=(W0 g (by omega) Q).2 h2;by_cases Rf:g=i
       .grind
       .rcases h.comp i g J (by omega) Q (λe=>Rf e.symm) n with⟨U,_⟩|⟨_,U⟩
        .omega
        grind
    rw[F]at u;cases E:c i with
    |false =>
     rw[h.quiet i E,F]at u;exact A k hk u (same E)
    |true =>
     refine A (i+1) (by omega) u λf TO W1=>?_;rw[eK (by omega)];by_cases I:f=i
     .grind
     .simp only[I,false_or];rcases h.comp i f J TO W1 (λe=>I e.symm) n with⟨h1,U⟩|⟨h1,U⟩
      .grind
      grind
end
end
def Bj(op:BinOp)(k:IntKind)(a:Int)(k':IntKind)(b:Int):Option (Int×List Prop) :=
 match k with
 |.u64=>match op with
  |.shl=>aa (((a.toNat*2 ^ b.toNat % 18446744073709551616:Nat):Int),[0<=b,b<=64])
  |.shr=>aa (((a.toNat / 2 ^ b.toNat:Nat):Int),[0<=b,b<=64])
  |.and=>match k' with|.u64=>aa (((a.toNat &&& b.toNat:Nat):Int),[])|_=>af
  |.xor=>match k' with|.u64=>aa (((a.toNat ^^^ b.toNat:Nat):Int),[])|_=>af
  |_=>af
 |_=>af
section
variable {P:aq}{T:List (Nat×TI)}{o:ar}{d:ak->D}{σ:List aP}
theorem bits_nat{a:Int}(h:bA .u64 a):(BitVec.ofInt IntKind.u64.bits a).toNat=a.toNat:=by rw[BitVec.toNat_ofInt];simp only[bA]at h;simp only[IntKind.bits];omega
def Hc{op:BinOp}{k k':IntKind}{a b c:Int}{obs:List Prop}(t:aj)(g:Bj op k a k' b=aa (c,obs))(j:ay obs)(h:bA k a)(q:bA k' b)(w:az):
  bA k c/\(Go.binOp op t (.int k a) (.int k' b)).run P w=.ok (.int k c) w/\(Go.binOp op t (.int k a) (.int k' b)).events P w #[]=#[]:=by
 unfold Bj at g;split at g
 .split at g
  .cases g;obtain⟨r,l⟩:0<=b/\b<=64:=j;have s:a.toNat*2 ^ b.toNat % 18446744073709551616<18446744073709551616:=j9 _ (by decide);simp only[bA]at h;refine⟨by simp only[bA];omega,?_⟩;have i:IntKind.wrap .u64 (a*2 ^ (min b.toNat IntKind.u64.bits))=((a.toNat*2 ^ b.toNat % 18446744073709551616:Nat):Int):=by
    have m:min b.toNat IntKind.u64.bits=b.toNat:=by rw[show IntKind.u64.bits=64 from rfl];omega
    have p:a=(a.toNat:Int):=by omega
    rw[m,p];simp only[IntKind.wrap,IntKind.bits,IntKind.signed,cd];grind
   simp only[Go.binOp,Op.shift,aY (show¬b<0 by omega),i];exact⟨rfl,rfl⟩
  .cases g;obtain⟨r,l⟩:0<=b/\b<=64:=j;simp only[bA]at h;have n:a.toNat / 2 ^ b.toNat<=a.toNat:=Nat.div_le_self _ _;refine⟨by simp only[bA];grind,?_⟩;have i:a.fdiv (2 ^ (min b.toNat IntKind.u64.bits))=((a.toNat / 2 ^ b.toNat:Nat):Int):=by
    have m:min b.toNat IntKind.u64.bits=b.toNat:=by rw[show IntKind.u64.bits=64 from rfl];omega
    grind
   simp only[Go.binOp,Op.shift,aY (show¬b<0 by omega),i];exact⟨rfl,rfl⟩
  .split at g
   .cases g;have l:a.toNat &&& b.toNat<=a.toNat:=Nat.and_le_left;have f:bA .u64 ((a.toNat &&& b.toNat:Nat):Int):=by simp only[bA]at h⊢;omega
    refine⟨f,?_⟩;have e:(BitVec.ofInt IntKind.u64.bits a &&& BitVec.ofInt IntKind.u64.bits b).toNat=a.toNat &&& b.toNat:=by grind[bits_nat]
    simp only[Go.binOp,du,fh,b9,Op.intBits,e,mq f];exact⟨rfl,rfl⟩
   grind
  .split at g
   .cases g;have f:bA .u64 ((a.toNat ^^^ b.toNat:Nat):Int):=by simp only[bA]at h q⊢;have:a.toNat ^^^ b.toNat<2 ^ 64:=Nat.xor_lt_two_pow (by omega) (by omega);omega
    refine⟨f,?_⟩;have e:(BitVec.ofInt IntKind.u64.bits a ^^^ BitVec.ofInt IntKind.u64.bits b).toNat=a.toNat ^^^ b.toNat:=by grind[bits_nat]
    simp only[Go.binOp,du,fh,b9,Op.intBits,e,mq f];exact⟨rfl,rfl⟩
   grind
  grind
 grind
theorem bG.bits{op:BinOp}{t ty:aj}{x y:ak}{k k':IntKind}{a b c:Int}{obs:List Prop}(h:o.op=.binOp op t x y ty)(r:d x=.e (.one (.c (.int k a))))(p:d y=.e (.one (.c (.int k' b))))(l:Bj op k a k' b=aa (c,obs))(n:ay obs):
  bG P o d σ (.e (.one (.c (.int k c)))) σ:=by
 refine .quiet λs i hh hr=>?_;have h1:=hr x;have h2:=hr y;rw[r]at h1;rw[p]at h2;replace h1:=eY h1;replace h2:=eY h2;generalize f:i x=vx at h1;generalize g:i y=vy at h2;cases h1 with|int ha =>
 cases h2 with|int hb =>
 obtain⟨m,j,q⟩:=Hc (P:=P) t l n ha hb s.w;exact⟨.int k c,by simp only[av,h,bO,f,g,gN,bX,j,dt],.int m,by simp[av,h,f,g,gN,jE,j,q]⟩
end
section
open Go.Conc (G)
def Flat.T8{M:Mem}{k n q m:Nat}{es zq:Nat->List C}{vs oP:List ah}(h:Flat M k n es vs)(b:Flat M k m zq oP)(g:q+m<=n):
  Flat M k n (λi=>if q<=i/\i<q+m then zq (i-q)else es i) (vs.take (q*k)++oP++vs.drop (q*k+oP.length)):=by
 have hl:=h.len;have l:=b.len;have s:q*k+m*k<=n*k:=by rw[<-ir];exact eC k g
 have t:(vs.take (q*k)).length=q*k:=by grind
 have a:∀p,(vs.take (q*k)++oP++vs.drop (q*k+oP.length))[p]?=if p<q*k then vs[p]? else if p<q*k+m*k then oP[p-q*k]? else vs[p]?:=by
  intro p;by_cases c1:p<q*k
  .grind
  .rw[aY c1];by_cases c2:p<q*k+m*k
   .grind
   .rw[aY c2,gz (by grind),n3];grind
 refine⟨by grind,λi hi=>?_,λi hi j c hj=>?_⟩
 .by_cases e:q<=i/\i<q+m
  .rw[bl e];exact b.width _ (by omega)
  .rw[aY e];exact h.width i hi
 .rw[a];by_cases e:q<=i/\i<q+m
  .rw[bl e]at hj;have f:j<k:=by have:=(bZ.1 hj).1;rw[b.width _ (by omega)]at this;exact this
   have e1:q*k<=i*k:=eC k e.1;have e2:i*k+k<=q*k+m*k:=by rw[<-ir,<-lk];exact eC k e.2
   rw[aY (by omega),bl (by omega)];obtain⟨v,v1,r⟩:=b.rd (i-q) (by omega) j c hj;grind[Nat.sub_mul]
  .rw[aY e]at hj;have f:j<k:=by have:=(bZ.1 hj).1;rw[h.width i hi]at this;exact this
   have:i*k+j<q*k∨q*k+m*k<=i*k+j:=by
    by_cases c1:i<q
    .left;have:i*k+k<=q*k:=by rw[<-lk];exact eC k c1
     omega
    .right;have:(q+m)*k<=i*k:=eC k (by omega);grind
   rcases this with c1|c1
   .rw[bl c1];exact h.rd i hi j _ hj
   .rw[aY (by omega),aY (by omega)];exact h.rd i hi j _ hj
def va{s:St}{E k k':Nat}{es WM:Nat->List C}{v:ah}{σ':List aP}{β:List Loc}{l:Nat}(f:Rd s.M v (.sl ab k' 0 WM))(e:σ'[l]?=aa (.buf E k 0 es))(c:β[l]?=aa ⟨.slice af 0 0,[]⟩):gu σ' {s with β:=β} v (.bp l (.sl 0 k 0 0)):=by obtain⟨a,cap,vs,g,_,_,b,_,_⟩:=f.flat;have:=b rfl;subst this;refine⟨.slice af 0 0,⟨a,af,0,0,g,by omega,rfl,by omega,rfl,λh=>absurd h (by omega)⟩,(bZ.1 e).1,λE2 k2 n2 zq h=>?_⟩;rw[e]at h;cases h;exact⟨bg _,λ_=>⟨_,c,rfl⟩⟩
def fb.T9{s:St}{β:List Loc}{v:ah}{es:Array Event}(h:fb {s with β:=β++[⟨v,[]⟩]} es)(c:s.β=β):fb s es:=by
 intro e a;have h1:=h e a;have key:∀b,(∃L∈β++[(⟨v,[]⟩:Loc)],b∈L.bs)->∃L∈s.β,b∈L.bs:=λb ⟨L,f,g⟩=>by grind
 unfold oh at h1⊢;grind
def bG.G7{P:aq}{o:ar}{d:ak->D}{σ:List aP}{x y:ak}{E:aj}{a:TI}(h:lA P o x y E a){k m:Nat}{tx:Bool}{es es':Nat->List C}(A:d x=.e (.one (.c (.sl ab k 0 es))))(w:∀s v,dn σ s v (d y)->Rd s.M v (.sl tx a.size m es'))(t:(0+m)*a.bytes<=140737488355328):
  bG P o d σ (.e (.one (.bp σ.length (.sl (0+m) a.size 0 (0+m))))) (σ++[.buf E a.size (0+m) (cE 0 es es')]):=by
 intro s q hh hr;have h1:=hr x;rw[A]at h1;have h2:=w s _ (hr y);obtain⟨z,r⟩:=hh.hO (B:=.buf E a.size 0 es) (L:=⟨.slice af 0 0,[]⟩) (.refl _ _) rfl hh (.inl ⟨rfl,rfl⟩) (by simp);have f:gu (σ++[.buf E a.size 0 es]) {s with β:=s.β++[⟨.slice af 0 0,[]⟩]} (q x) (.bp σ.length (.sl 0 a.size 0 0)):=va (E:=E) (es:=es) (eY h1) (by simp) (by simp[<-hh.len]);obtain⟨n,s',p,g,i,j,u⟩:=rP (P:=P) (σ:=σ++[.buf E a.size 0 es]) (s:={s with β:=s.β++[⟨.slice af 0 0,[]⟩]}) (l:=σ.length) (es:=es) h z f (by simp) h2 t;have b:(σ++[aP.buf E a.size 0 es]).set σ.length (.buf E a.size (0+m) (cE 0 es es'))=σ++[.buf E a.size (0+m) (cE 0 es es')]:=by simp
 rw[b]at g i j;exact⟨n,s',p,g,i,r.trans j,u.T9 rfl⟩
def G8(i j m:Nat)(es:Nat->List C):Nat->List C:=λq=>if i<=q/\q<i+m then es (j+(q-i))else es q
def bG.I1{P:aq}{o:ar}{d:ak->D}{σ:List aP}{x y:ak}{E:aj}{f:TI}(h:lA P o x y E f){l n i j m:Nat}{es:Nat->List C}(hx:d x=.e (.one (.bp l (.sl n f.size 0 i))))(hy:d y=.e (.one (.bp l (.sl n f.size j m))))(hl:σ[l]?=aa (.buf E f.size n es))(ZN:i+m<=n)(hjm:j+m<=n):
  bG P o d σ (.e (.one (.bp l (.sl n f.size 0 (i+m))))) (σ.set l (.buf E f.size n (G8 i j m es))):=by
 intro s ρ hh hr;obtain⟨t,t2,ti,ti2,ho,hi,hd,X,Xp⟩:=h.op;have h1:=hr x;rw[hx]at h1;change gu σ s (ρ x) (.bp l _)at h1;have h2:=hr y;rw[hy]at h2;change gu σ s (ρ y) (.bp l _)at h2;obtain⟨lv,⟨a,a0,cap,I,hv,R,TE,Xq,G9,Xr⟩,_,WN⟩:=h1;obtain⟨L,hL,Y⟩:=(WN _ _ _ _ hl).2 rfl;rw[G9]at Y;obtain⟨lv',⟨a',a0',k,c0',WO,Xs,abc,abd,Xt,abe⟩,_,Xu⟩:=h2;obtain⟨L',fj,J⟩:=(Xu _ _ _ _ hl).2 rfl;rw[hL]at fj;cases fj;rw[Xt,Y]at J;cases J;have Ua:=bJ hL;have hu:=hi.run_underlying (w:=s.w);have V:=X.run_underlying (w:=s.w);rw[hd]at hu;rw[Xp]at V;rw[dj ho,hv,WO];by_cases hn0:n=0
 .have e1:i=0:=by omega
  have e2:m=0:=by omega
  subst hn0 e1 e2;have QW:σ.set l (.buf E f.size 0 (G8 0 j 0 es))=σ:=by
   have:G8 0 j 0 es=es:=by funext q;simp only[G8];grind
   rw[this];apply iO;grind
  have hz:Rd s.M (.slice a' 0 k) (.sl ae f.size 0 λ_=>[]):=.sl 0 0 (λ_ _=>ai) (by omega) (by omega) (by simp) (λi hi=>by omega) (λh=>by omega) (λi hi=>by omega) (λi hi=>by omega);have K:=jb (P:=P) (ty:=o.type) hi hd X Xp h.elem hh (a:=a) R hz;rw[QW];refine⟨.value (.slice a 0 cap),s,?_,?_,hh,.refl _ _,eJ (jB hi hd X Xp h.elem hh R hz)⟩
  .simp[K]
  .exact⟨lv,⟨a,a0,cap,I,rfl,R,TE,Xq,G9,Xr⟩,(bZ.1 hl).1,WN⟩
 rcases hh.box l _ L hl hL with⟨e,_⟩|⟨b,c1,vs,S,rfl,r,hz1,hz2,hz3,W,hM⟩
 .grind
 cases Y;have Q:0<cap:=by omega
 obtain⟨b1,e1,rfl⟩:=Xr Q;cases e1;have PL:I=cap:=by omega
 subst PL;rw[show b=b from rfl];have PN:vs.length=n*f.size:=W.len;have u:i+m<=I:=by omega
 have hik:i*f.size+m*f.size<=n*f.size:=by rw[<-ir];exact eC _ ZN
 have Ub:j*f.size+m*f.size<=n*f.size:=by rw[<-ir];exact eC _ hjm
 obtain⟨c1,c2⟩:=hh.zr (b:=b) (vs:=vs) hM (λq v O=>by
  simp only[aU,r]
  grind)
 let g:=(vs.drop (j*f.size)).take (m*f.size);have TG:g.length=m*f.size:=by grind
 have hng:∀p,p<m*f.size->g[p]?=vs[j*f.size+p]?:=λp G=>by grind
 have MV:Flat s.M f.size m (λq=>es (j+q)) g:=by
  refine⟨TG,λq O=>W.width _ (by omega),λq O p c G=>?_⟩;have hpk:p<f.size:=by have:=(bZ.1 G).1;rw[W.width _ (by omega)]at this;exact this
  obtain⟨v,v1,v2⟩:=W.rd (j+q) (by omega) p c G;refine⟨v,?_,v2⟩;have hq2:q*f.size+f.size<=m*f.size:=by rw[<-lk];exact eC _ O
  grind
 have z:∀v∈g,v.oneCell'=ab:=MV.cell;have WQ:Rd (λA q=>if A=b then vs[q]? else s.M A q) (.slice a' m k) (.sl ae f.size m (IM f.size λq p=>vs.getD ((j+q)*f.size+p) ai)):=by
  refine .sl b (j*f.size) (λq p=>vs.getD ((j+q)*f.size+p) ai) Xs (by omega) (by simp) (λq _=>by simp[IM]) (λG=>?_) (λq O p c G=>?_) (λq O p c G=>?_)
  .grind
  .obtain⟨p1,_⟩:=qa G;have hq2:q*f.size+f.size<=m*f.size:=by rw[<-lk];exact eC _ O
   grind
  .obtain⟨p1,rfl⟩:=qa G;obtain⟨c',Xv⟩:∃c',(es (j+q))[p]?=aa c':=⟨_,br (by rw[W.width _ (by omega)];exact p1)⟩
   obtain⟨v,v1,v2⟩:=W.rd (j+q) (by omega) p c' Xv;have e:vs.getD ((j+q)*f.size+p) ai=v:=by grind
   rw[e];exact .val v2.cell
 obtain⟨B,Uc,hf,N⟩:=dX (P:=P) (s:={s with M:=λA q=>if A=b then vs[q]? else s.M A q}) c1 WQ;have hnn:B=g:=by
  apply iO;intro p;have Dp:B.length=m*f.size:=Uc.len;by_cases G:p<m*f.size
  .have hk:0<f.size:=by grind
   have O:p / f.size<m:=pQ (by grind);have Xw:p / f.size*f.size+p % f.size=p:=pV p f.size;obtain⟨v,v1,v2⟩:=Uc.rd _ O (p % f.size) _ (Dx (j9 _ hk));rw[Xw]at v1;rw[v1,hng p G,Rd.dY v2];rw[ir,Nat.add_assoc,Xw,an,br (by omega)];rfl
  grind
 subst hnn;have Ha:=g8 (P:=P) (s:={s with M:=λA q=>if A=b then vs[q]? else s.M A q}) c1 WQ (w:=s.w) rfl;replace hf:(Builtin.firstCells f.size m (.slice a' m k)).run P s.w=.ok g.toArray s.w:=hf;have Xx:i*f.size+g.length<=(vs++S).length:=by grind
 have H:=run_storeCells_at P b (i*f.size) E g 0 (vs++S).toArray s.w r (by grind) z;simp only[iq]at H;have QX:((vs++S).toArray.toList.take (i*f.size)++g++(vs++S).toArray.toList.drop (i*f.size+g.length))=vs.take (i*f.size)++g++vs.drop (i*f.size+g.length)++S:=by grind
 rw[QX]at H;have q2:=W.T8 MV ZN;have he:(λq=>if i<=q/\q<i+m then(λq=>es (j+q)) (q-i)else es q)=G8 i j m es:=rfl;rw[he]at q2;obtain⟨t1,t2'⟩:=hh.dH hl hL hz1 hz2 hz3 r q2 (by grind) hM;have F:(Builtin.lenOf (.slice a' m k)).run P s.w=.ok m s.w:=by rw[N];rfl
 have Z:(Builtin.lenOf (.slice a' m k)).events P s.w #[]=#[]:=by rw[N];rfl
 refine⟨.value (.slice (aa ⟨b,0*f.size,af⟩) (i+m) I),_,?_,?_,t1,t2',eJ ?_⟩
 .have K:(Builtin.append_ #[t,t2] o.type #[.slice (aa ⟨b,0*f.size,af⟩) i I,.slice a' m k]).run P s.w=.ok (.slice (aa ⟨b,0*f.size,af⟩) (i+m) I) (s.w.setRow b (vs.take (i*f.size)++g++vs.drop (i*f.size+g.length)++S).toArray):=by unfold Builtin.append_;simp only[ij,lb,nY,bO,hu,V,bX,h.elem.run_sizeOf,dt,jy,b9,F,u,cn,og,hf,dq,Nat.zero_mul,bC,H]
  grind[Go.Sem.run_bind,Go.Result.andThen_ok,Go.Sem.run_pure]
 .exact⟨.slice (aa ⟨b,0,af⟩) 0 I,⟨_,_,I,I,rfl,u,by omega,Xq,rfl,λ_=>⟨b,rfl,rfl⟩⟩,by grind,λE2 k2 n2 zq WR=>by rw[fZ (bZ.1 hl).1]at WR;cases WR;exact⟨bg _,λ_=>⟨_,hL,rfl⟩⟩⟩
 .intro e U;unfold Builtin.append_ at U;simp only[ij,lb,nY,aK,bO,hu,V,aO,h.elem.run_sizeOf,dt,jy,b9,F,Z,u,cn,og,hf,dq,Nat.zero_mul,bC,H,
   rO,Sem.events_ite,events_underlying,events_sizeOf,Sem.events_pure]at U
  rcases dE g 0 (vs++S).toArray s.w _ r (by grind) z e U with h3|⟨p,_,_,rfl⟩
  .have h4:fb {s with M:=λA q=>if A=b then vs[q]? else s.M A q} #[e]:=fb.one (s9 (Ha e h3))
   exact h4.vG (b:=b) Ua (by simp) c2 (λA q v hv=>by grind) e (by simp)
  grind[jC]
section
variable {P:aq}{T:List (Nat×TI)}{o:ar}{d:ak->D}{σ:List aP}
theorem bG.slice3B(hT:cT P T){t:aj}{x w y z:ak}(h:o.op=.slice t x (aa w) (aa y) (aa z)){G I:TI}{E:aj}(H:bD T t=aa G)(S:G.desc=.slice E)(V:bD T E=aa I){l g k q n:Nat}{A u v:IntKind}{i j m:Int}(Y:d x=.e (.one (.bp l (.sl g k q n))))(R:d w=.e (.one (.c (.int A i))))(N:d y=.e (.one (.c (.int u j))))(X:d z=.e (.one (.c (.int v m))))(h0:0<=i)(h1:i<=j)(h2:j<=m)(Z:m<=n):bG P o d σ (.e (.one .any)) σ:=by
 refine .quiet λst ρ hh hr=>?_;have s:=hr x;rw[Y]at s;change gu σ st (ρ x) (.bp l _)at s;obtain⟨lv,⟨a,a0,cap,c0,J,Q,L,O,U,W⟩,_,_⟩:=s;have f:=hr w;rw[R]at f;replace f:=eY f;generalize F:ρ w=vw at f;cases f;have p:=hr y;rw[N]at p;replace p:=eY p;generalize B:ρ y=vy at p;cases p;have r:=hr z;rw[X]at r;replace r:=eY r;generalize C:ρ z=vz at r;cases r;have b:=(hT t G H).run_underlying (w:=st.w);rw[S]at b;have K:(ba ab n cap (aa (.int A i)) (aa (.int u j)) (aa (.int v m))).run P st.w=.ok (i.toNat,j.toNat,m.toNat) st.w:=by simp[ba,run_sliceBound (P:=P) st.w v m cap _ (by omega) (by omega),run_sliceBound (P:=P) st.w u j m.toNat _ (by omega) (by omega),run_sliceBound (P:=P) st.w A i j.toNat _ (by omega) (by omega)]
 have M:(ba ab n cap (aa (.int A i)) (aa (.int u j)) (aa (.int v m))).events P st.w #[]=#[]:=by
  simp[ba,run_sliceBound (P:=P) st.w v m cap _ (by omega) (by omega),run_sliceBound (P:=P) st.w u j m.toNat _ (by omega) (by omega),run_sliceBound (P:=P) st.w A i j.toNat _ (by omega) (by omega),
   dF (P:=P) st.w v m cap _ (by omega) (by omega),dF (P:=P) st.w u j m.toNat _ (by omega) (by omega),dF (P:=P) st.w A i j.toNat _ (by omega) (by omega)]
 refine⟨.slice (if m.toNat=i.toNat then a else a.map (·.add (i.toNat*I.size))) (j.toNat-i.toNat) (m.toNat-i.toNat),?_,rfl,by simp[av,h,J,F,B,C,Instr.sliceAt,b,Instr.slice,K,M]⟩;simp[av,h,J,F,B,C,Instr.sliceAt,b,Instr.slice,K,(hT E I V).run_sizeOf]
end
section drop
variable {σ1 rest:List aP}{s:St}
def St.cut(s:St)(n:Nat):St:={s with β:=s.β.take n}
def gu.drop{v:ah}{a:A}(r:gu (σ1++rest) s v a)(d:He σ1.length a=ab):gu σ1 (s.cut σ1.length) v a:=by
 have lt:∀{l:Nat},bw (l+1) σ1.length=ab->l<σ1.length:=λh=>cZ h;cases a with
 |c x=>exact r
 |any=>exact r
 |ptr l o =>
  have hl:=lt d;obtain⟨f,L,b,p,g⟩:=r;refine⟨λB j=>f B (by grind),L,b,?_,g⟩;simp only[St.cut,iN,hl,cn];exact p
 |ref l =>
  have hl:=lt d;obtain⟨f,L,p,g⟩:=r;refine⟨λB j=>f B (by grind),L,?_,g⟩;simp only[St.cut,iN,hl,cn];exact p
 |bp l w =>
  have hl:=lt d;obtain⟨lv,f,_,g⟩:=r;refine⟨lv,f,hl,λE k' n' es' j=>?_⟩;obtain⟨h1,h2⟩:=g E k' n' es' (by grind);refine⟨h1,λe=>?_⟩;obtain⟨L,i,m⟩:=h2 e;refine⟨L,?_,m⟩;simp only[St.cut,iN,hl,cn];exact i
 |vec l k n es =>
  have hl:=lt d;obtain⟨f,_,g⟩:=r;refine⟨f,hl,λE k' n' es' j=>?_⟩;obtain⟨h1,h2⟩:=g E k' n' es' (by grind);refine⟨h1,λe=>?_⟩;obtain⟨L,i,m⟩:=h2 e;refine⟨L,?_,m⟩;simp only[St.cut,iN,hl,cn];exact i
def dW.tm:∀{vs:List ah}{cs:List A},dW (σ1++rest) s vs cs->FJ σ1.length cs=ab->dW σ1 (s.cut σ1.length) vs cs
 |[],[],_,_=>trivial
 |[],_::_,r,_=>r.elim
 |_::_,[],r,_=>r.elim
 |v::vs,c::cs,r,h=>by
  simp only[FJ]at h;cases a:He σ1.length c with
  |false=>grind
  |true=>simp only[a]at h;exact⟨r.1.drop a,dW.tm r.2 h⟩
def m8.tm{v:ah}{e:E1}(r:m8 (σ1++rest) s v e)(h:Hf σ1.length e=ab):m8 σ1 (s.cut σ1.length) v e:=by
 cases e with
 |one a=>exact gu.drop r h
 |agg cs=>obtain⟨vs,h1,h2⟩:=r;exact⟨vs,h1,dW.tm h2 h⟩
def g6.tm:∀{vs:List ah}{cs:List E1},g6 (σ1++rest) s vs cs->xU σ1.length cs=ab->g6 σ1 (s.cut σ1.length) vs cs
 |[],[],_,_=>trivial
 |[],_::_,r,_=>r.elim
 |_::_,[],r,_=>r.elim
 |v::vs,c::cs,r,h=>by
  simp only[xU]at h;cases a:Hf σ1.length c with
  |false=>grind
  |true=>simp only[a]at h;exact⟨m8.tm r.1 a,g6.tm r.2 h⟩
def dn.drop{v:ah}{d:D}(r:dn (σ1++rest) s v d)(h:vP σ1.length d=ab):dn σ1 (s.cut σ1.length) v d:=by
 cases d with
 |e x=>exact m8.tm r h
 |fa xs=>obtain⟨vs,h1,h2⟩:=r;exact⟨vs,h1,g6.tm h2 h⟩
 |any=>trivial
def cU.drop{σ0:List aP}{s0:St}(st:cU σ0 s0 (σ1++rest) s)(c:σ0.length<=σ1.length):cU σ0 s0 σ1 (s.cut σ1.length):=by refine⟨st.size,st.fi,st.mem,st.iU,λL a b e=>st.vb L (fP a) b e,?_,st.os,st.tape,st.output,st.own⟩;intro l B L hB a;obtain⟨B',L',h1,h2,d⟩:=st.box l B L hB a;have hl:l<σ1.length:=cW (bZ.1 hB).1 c;rw[jw hl]at h1;exact⟨B',L',h1,by simp only[St.cut,iN,hl,cn];exact h2,d⟩
def gu.r8{σ:List aP}{v:ah}{a:A}(hl:s.β.length=σ.length)(r:gu σ s v a):He σ.length a=ab:=by
 have ok:∀{l:Nat},l<σ.length->bw (l+1) σ.length=ab:=λh=>rG h;have lt:∀{l:Nat} {L:Loc},s.β[l]?=aa L->l<σ.length:=λh=>by grind
 cases a with
 |c x=>rfl
 |any=>rfl
 |ptr l o=>obtain⟨_,L,b,d,_⟩:=r;exact ok (lt d)
 |ref l=>obtain⟨_,L,d,_⟩:=r;exact ok (lt d)
 |bp l w=>obtain⟨lv,_,h,_⟩:=r;exact ok h
 |vec l k n es=>exact ok r.2.1
def dW.r8{σ:List aP}(hl:s.β.length=σ.length):∀{vs:List ah}{cs:List A},dW σ s vs cs->FJ σ.length cs=ab
 |[],[],_=>rfl
 |[],_::_,r=>r.elim
 |_::_,[],r=>r.elim
 |v::vs,c::cs,r=>by simp only[FJ,r.1.r8 hl];exact dW.r8 hl r.2
def m8.r8{σ:List aP}(hl:s.β.length=σ.length){v:ah}{e:E1}(r:m8 σ s v e):Hf σ.length e=ab:=by
 cases e with
 |one a=>exact gu.r8 hl r
 |agg cs=>obtain⟨vs,_,h⟩:=r;exact dW.r8 hl h
def g6.r8{σ:List aP}(hl:s.β.length=σ.length):∀{vs:List ah}{cs:List E1},g6 σ s vs cs->xU σ.length cs=ab
 |[],[],_=>rfl
 |[],_::_,r=>r.elim
 |_::_,[],r=>r.elim
 |v::vs,c::cs,r=>by simp only[xU,m8.r8 hl r.1];exact g6.r8 hl r.2
def dn.r8{σ:List aP}(hl:s.β.length=σ.length){v:ah}{d:D}(r:dn σ s v d):vP σ.length d=ab:=by
 cases d with
 |e x=>exact m8.r8 hl r
 |fa xs=>obtain⟨vs,_,h⟩:=r;exact g6.r8 hl h
 |any=>rfl
def DO(n:Nat)(σ0:List aP)(l:Nat)(B:aP):Prop:=(∃E cs,B=.cells E cs/\FJ n cs=ab)∨σ0[l]?=aa B∨(∃N φ r r',B=.loop N φ r/\σ0[l]?=aa (.loop N φ r'))∨((∀E cs,B≠.cells E cs)/\∀N φ r,B≠.loop N φ r)
def aE.PU{s0:St}{σ0:List aP}(j:aE σ0 s0)(a:σ0.length=σ1.length)(w:∀(l:Nat)(B:aP),σ1[l]?=aa B->DO σ1.length σ0 l B)(h:aE (σ1++rest) s):aE σ1 (s.cut σ1.length):=by
 have hl:σ1.length<=s.β.length:=by rw[h.len];simp
 refine⟨h.mem,by simp[St.cut,hl],?_,?_,?_,λb i=>⟨(h.own b i).1,λL d=>(h.own b i).2 L (fP d)⟩⟩
 .intro l B L hB d;have m:l<σ1.length:=(bZ.1 hB).1;simp only[St.cut,iN,m,cn]at d;have c:=h.box l B L (by grind) d;have f:∃o,s0.β[l]?=aa o:=⟨_,br (by rw[j.len,a];exact m)⟩
  obtain⟨o,f⟩:=f;have z:=j.len.trans a;cases B with
  |cells E cs =>
   obtain⟨b,vs,h1,h2,p,u⟩:=c;refine⟨b,vs,h1,h2,dW.tm p ?_,u⟩;rcases w l _ hB with⟨_,_,e,q⟩|q|⟨_,_,_,_,e,_⟩|q
   .grind
   .obtain⟨_,_,_,_,A,_⟩:=j.box l _ o q f;exact a▸A.r8 j.len
   .cases e
   grind
  |vec E k n es=>exact c
  |cf H=>exact c
  |dead=>trivial
  |loop N φ r =>
   obtain⟨l',tmps,fn,C,h1,h2,p,u,y⟩:=c;have key:∃r',σ0[l]?=aa (.loop N φ r'):=by
    rcases w l _ hB with⟨_,_,e,_⟩|q|⟨_,_,_,r',e,q⟩|q
    .cases e
    .grind
    .grind
    grind
   obtain⟨r',q⟩:=key;obtain⟨_,_,_,_,_,_,_,x,_⟩:=j.box l _ o q f;exact⟨l',tmps,fn,C,h1,h2,p,λt=>(u t).drop (a▸(x t).r8 j.len),y⟩
  |qX=>exact c
  |buf E k n es=>exact c
 .intro l l' L L' d g b i v;simp only[St.cut,iN]at d g;split at d<;>split at g<;>first|exact h.eB l l' L L' d g b i v|grind|grind
 .intro L d b i;exact h.lt L (fP d) b i
def aE.Uy{s0:St}(a:aE σ1 s0)(h:aE (σ1++rest) s):aE σ1 (s.cut σ1.length):=a.PU rfl (λ_ _ h=>.inr (.inl h)) h
def OA.By{P:aq}{X:Cx P}{N:Nat}{all:List ar}{o:ar}{φ:Fr}{σ:List aP}{E:aj}{k n:Nat}{es:Nat->List C}(h:OA X N all o φ σ (.e (.one (.vec σ.length k n es))) (σ++[.vec E k n es])):OA X N all o φ σ (.e (.one (.c (.sl ae k n es)))) σ:=by
 intro s a f hh b kk cs S i rest d hi hK;refine h s a f hh b kk cs S i rest d hi λv s' hv iX st=>?_;have j:eu s' (s'.cut σ.length):=⟨rfl,λ_ _ _ h=>h,λ_ _ _=>rfl,iX.mem,λb d=>d.imp id λ⟨L,g,d⟩=>⟨L,fP g,d⟩⟩
 exact .ghost j (hK v (s'.cut σ.length) hv.1 (hh.Uy iX) (st.drop (bg _)))
end drop
end
end Go.AM
