/- Part 1. No condition. -/
import Derived.Tactics2
import Derived.LaidSub
import Derived.LaidLaws
import Derived.LaidHandle
import Derived.Conc.Own
import Derived.Conc.Events
import Derived.Conc.Listed
import Derived.Laws.CopyRow
import Derived.Laws.AppendOwn
import Derived.Laws.Rows
import Derived.Laws.Strings
import Derived.Laws.Cells
import Derived.Lib.Strings
import Derived.Laws.Slices
import Derived.Laws.StructEq
import Derived.Orders
set_option linter.all false
set_option maxHeartbeats 8000000
open Go.Conc (G)
open Go renaming Value → ah, Program → ar, TypeId → aj, Oper → au, Operand → ak, undef → ai, execOp → aw, World → aA, Goroutine → av, stepG → aH, Frame → aR, FuncId → aJ
open Option renaming some → aa, none → ae
open Bool renaming true → ab, false → af
open Go.World renaming cell? → aV
open List renaming getD_eq_getElem?_getD → aq, range → bg
open Go.Sem renaming events_bind → aM
open Go.Result renaming evThen_ok → aO
open Go.Instr renaming sliceBounds → bc, sureAddr → bo
open Go.Region renaming wanted → bd, ready → a9
open Nat renaming beq → aB, ble → bu
open Go.Op renaming equalIn → aY, bytesLess → bk
namespace Go
section
set_option linter.defProp false
set_option linter.deprecated false
def ay:=@_root_.trivial
def br:=@_root_.List.getElem?_eq_getElem
def ba:=@_root_.decide_eq_true_eq
def aE:=@_root_.and_true
def bO:=@_root_.decide_eq_false_iff_not
def aG:=@_root_.true_and
def bJ:=@_root_.List.mem_of_getElem?
def bY:=@_root_.List.getElem?_eq_some_iff
def bP:=@_root_.Nat.eq_of_beq_eq_true
def b9:=@_root_.Int.toNat_natCast
def bh:=@_root_.Nat.le_refl
def bR:=@_root_.Bool.and_eq_true
def bU:=@_root_.Go.Result.andThen_ok
def bC:=@_root_.Nat.zero_add
def cV:=@_root_.Nat.le_of_ble_eq_true
def dM:=@_root_.Array.getD_eq_getD_getElem?
def bL:=@_root_.Go.Sem.run_bind
def cU:=@_root_.Nat.lt_of_lt_of_le
def cX:=@_root_.List.length_append
def aZ:=@_root_.if_neg
def dn:=@_root_.Option.some.injEq
def dL:=@_root_.List.getElem_of_mem
def di:=@_root_.List.take_length
def db:=@_root_.decide_eq_true
def eC:=@_root_.Nat.mul_le_mul_right
def cC:=@_root_.Nat.lt_or_ge
def fT:=@_root_.List.getElem?_append_right
def bl:=@_root_.if_pos
def fU:=@_root_.Array.getElem?_eq_getElem
def eD:=@_root_.beq_eq_false_iff_ne
def fV:=@_root_.List.getElem?_set_self
def ij:=@_root_.Array.getElem?_eq_some_iff
def jg:=@_root_.List.eq_nil_of_length_eq_zero
def dq:=@_root_.Go.Sem.run_pure
def fa:=@_root_.not_true_eq_false
def fW:=@_root_.List.mem_of_mem_take
def b7:=@_root_.if_false
def eU:=@_root_.List.length_cons
def fX:=@_root_.List.mem_singleton
def ik:=@_root_.List.getElem?_toArray
def jz:=@_root_.List.getElem?_append_left
def eE:=@_root_.List.mem_cons
def j6:=@_root_.List.pairwise_iff_getElem
def cj:=@_root_.if_true
def fL:=@_root_.Nat.not_lt_zero
def jh:=@_root_.List.length_singleton
def fY:=@_root_.List.mem_append
def gx:=@_root_.List.length_nil
def fC:=@_root_.Bool.true_and
def iN:=@_root_.List.getElem?_take
def ji:=@_root_.Array.length_toList
def la:=@_root_.List.getElem?_cons_zero
def iO:=@_root_.List.ext_getElem?
def im:=@_root_.Option.getD_some
def jk:=@_root_.List.pairwise_cons
def j7:=@_root_.List.getElem?_set_ne
def lb:=@_root_.List.take_append_drop
def jA:=@_root_.Bool.false_eq_true
def dA:=@_root_.congrArg
def mS:=@_root_.Array.getElem?_replicate
def iP:=@_root_.decide_eq_false
def iQ:=@_root_.List.append_nil
def jB:=@_root_.beq_self_eq_true
def j8:=@_root_.Bool.not_eq_true'
def jC:=@_root_.Bool.or_eq_true
def nV:=@_root_.List.getElem?_cons_succ
def ld:=@_root_.List.take_add_one
def iq:=@_root_.Nat.le_trans
def ir:=@_root_.Nat.add_zero
def iR:=@_root_.Nat.beq_refl
def lS:=@_root_.List.append_assoc
def vH:=@_root_.Array.getElem?_setIfInBounds_self_of_lt
def mT:=@_root_.Nat.eq_zero_or_pos
def iu:=@_root_.Nat.add_mul
def nW:=@_root_.List.mem_iff_getElem
def mU:=@_root_.List.mem_cons_self
def lf:=@_root_.List.mem_filter
def lg:=@_root_.List.length_map
def lh:=@_root_.List.foldl_cons
def qO:=@_root_.Array.mapM_eq_mapM_toList
def hI:=@_root_.beq_iff_eq
def mV:=@_root_.List.getElem?_map
def j9:=@_root_.Bool.not_true
def oV:=@_root_.Array.toArray_toList
def vI:=@_root_.List.findIdx?_eq_some_iff_getElem
def nY:=@_root_.not_false_eq_true
def nZ:=@_root_.bne_self_eq_false
def qP:=@_root_.Option.map_eq_some_iff
def vJ:=@_root_.Array.getElem?_setIfInBounds_ne
def dr:=@_root_.ne_eq
def n3:=@_root_.Option.bind_some
def oX:=@_root_.List.getElem?_drop
def lT:=@_root_.Prod.mk.injEq
def lj:=@_root_.Nat.succ_mul
def qQ:=@_root_.List.mem_cons_of_mem
def oY:=@_root_.of_decide_eq_true
def n5:=@_root_.Option.map_some
def lk:=@_root_.Nat.zero_le
def kg:=@_root_.Nat.mod_lt
def n6:=@_root_.List.mapM_cons
def pO:=@_root_.Bool.and_eq_false_iff
def mn:=@_root_.List.nil_append
def jD:=@_root_.decide_true
def kA:=@_root_.decide_false
def pP:=@_root_.Nat.div_lt_of_lt_mul
def kB:=@_root_.List.mem_map
def n7:=@_root_.List.not_mem_nil
def n8:=@_root_.Bool.not_eq_true
def lG:=@_root_.Nat.sub_zero
def pQ:=@_root_.Nat.add_sub_cancel
def pR:=@_root_.Int.emod_lt_of_pos
def pT:=@_root_.Bool.not_eq_false'
def n9:=@_root_.UInt8.toNat_inj
def rF:=@_root_.Nat.ble_eq_true_of_le
def rG:=@_root_.List.getElem?_eq_none
def oa:=@_root_.List.mem_range
def rH:=@_root_.List.mem_of_mem_drop
def oc:=@_root_.Bool.not_false
def pU:=@_root_.Nat.div_add_mod'
def rI:=@_root_.Int.toNat_of_nonneg
def pV:=@_root_.Int.emod_nonneg
def pW:=@_root_.Bool.eq_iff_iff
def lH:=@_root_.bne_iff_ne
def uX:=@_root_.Nat.le_mul_of_pos_right
def uY:=@_root_.Nat.add_sub_cancel_left
def uZ:=@_root_.List.range_succ_eq_map
def u4:=@_root_.Array.mem_of_getElem?
def mo:=@_root_.Nat.not_lt
def rJ:=@_root_.List.length_drop
def rK:=@_root_.List.getElem_mem
def rL:=@_root_.List.ext_getElem
def rM:=@_root_.List.cons_append
def pX:=@_root_.List.map_cons
def u5:=@_root_.List.pairwise_append
def u6:=@_root_.Bool.or_eq_false_iff
def rN:=@_root_.Option.some.inj
def u7:=@_root_.Nat.mul_le_mul_left
def rO:=@_root_.Bool.false_and
def zm:=@_root_.List.drop_eq_getElem_cons
def u9:=@_root_.List.flatMap_cons
def zn:=@_root_.Option.isSome_iff_exists
def zo:=@_root_.Nat.lt_succ_iff_lt_or_eq
def mq:=@_root_.or_false
def va:=@_root_.List.drop_length
def zp:=@_root_.Array.getElem?_eq_none
def zq:=@_root_.Array.getElem?_toList
def zr:=@_root_.List.getElem?_of_mem
def zt:=@_root_.Nat.add_sub_cancel'
def zu:=@_root_.List.filter_eq_self
def rP:=@_root_.Go.Sem.run_ite
end
end Go
namespace Go.AM
inductive C where
  | int (k:IntKind) (n:Int)
  | bool (b:Bool)
  | str (s:List UInt8)
  | sl (tight:Bool) (k n:Nat) (es:Nat->List C)
  | rp (cs:List C)
  | hY
  | ifs (t:aj) (c:C)
  | FH (t:aj) (cs:List C)
  | iy
  | fn (f:Fn) (first cap:List C)
  | x4
  | val (x:ah)
inductive BP where
  | sl (g k o n:Nat)
  | el (g k i f:Nat)
def BP.g:BP->Nat
  | .sl g _ _ _=>g
  | .el g _ _ _=>g
def BP.K:BP->ah->ah->Prop
  | .sl _ k o n,lv,v=>∃a a0 cap c0,v=.slice a n cap/\n<=cap/\o+cap=c0/\c0<=9223372036854775807/\lv=.slice a0 0 c0/\(0<cap->∃b,a0=aa ⟨b,0,ae⟩/\a=aa ⟨b,o*k,ae⟩)
  | .el _ k i f,lv,v=>∃b c0,lv=.slice (aa ⟨b,0,ae⟩) 0 c0/\v=.pointer (aa ⟨b,i*k+f,ae⟩)
inductive A where
  | c (x:C)
  | ptr (l off:Nat)
  | vec (l k n:Nat) (es:Nat->List C)
  | ref (l:Nat)
  | bp (l:Nat) (w:BP)
  | any
abbrev A.v(x:ah):A:=.c (.val x)
inductive E1 where
  | one (a:A)
  | agg (cs:List A)
inductive D where
  | e (x:E1)
  | eX (xs:List E1)
  | any
abbrev Fr:=List (Nat×D)
def look:Fr->Nat->D
  | [],_=>.any
  | (i,d)::r,t=>cond (aB i t) d (look r t)
inductive aP where
  | cells (E:aj) (cs:List A)
  | vec (E:aj) (k n:Nat) (es:Nat->List C)
  | b8 (H:ah->(Nat->Option Obj)->Prop)
  | dead
  | loop (N:Nat) (φ:Fr) (r:Loop)
  | qT
  | buf (E:aj) (k n:Nat) (es:Nat->List C)
@[simp] def aP.gr:aP->Bool
  | .vec _ _ _ _=>ab
  | .buf _ _ _ _=>ab
  | _=>af
structure Loc where
  v:ah
  bs:List Nat
abbrev Mem:=Nat->Nat->Option ah
structure St where
  β:List Loc
  M:Mem
  w:aA
  own:Nat->Prop
def bA:IntKind->Int->Prop
  | .i8,n=>-128<=n/\n<=127
  | .i16,n=>-32768<=n/\n<=32767
  | .i32,n=>-2147483648<=n/\n<=2147483647
  | .i64,n=>-9223372036854775808<=n/\n<=9223372036854775807
  | .u8,n=>0<=n/\n<=255
  | .u16,n=>0<=n/\n<=65535
  | .u32,n=>0<=n/\n<=4294967295
  | .u64,n=>0<=n/\n<=18446744073709551615
def cD:ah->Bool
  | .agg _|.tuple _=>af
  | _=>ab
def BP.K.cell{w:BP}{lv v:ah}(h:w.K lv v):cD v=ab:=by
  cases w with
  | sl=>obtain⟨_,_,_,_,rfl,_⟩:=h;rfl
  | el=>obtain⟨_,_,_,rfl⟩:=h;rfl
inductive Rd (M:Mem):ah->C->Prop
  | int {k:IntKind} {n:Int} (h:bA k n):Rd M (.int k n) (.int k n)
  | bool {b:Bool}:Rd M (.bool b) (.bool b)
  | str {s:ByteArray} {l:List UInt8} (h:s.data.toList=l) (hl:l.length<=9223372036854775807):Rd M (.string s) (.str l)
  | sl {a:Option Addr} {n cap:Nat} {tight:Bool} {k:Nat} {es:Nat->List C} (b off:Nat) (f:Nat->Nat->ah)
      (DG:n<=cap) (hb:cap<=9223372036854775807) (ht:tight=ab->cap=n) (hk:∀i,i<n->(es i).length=k)
      (ha:0<n->a=aa ⟨b,off,ae⟩)
      (hm:∀i,i<n->∀j c,(es i)[j]?=aa c->M b (off+i*k+j)=aa (f i j))
      (hr:∀i,i<n->∀j c,(es i)[j]?=aa c->Rd M (f i j) c):Rd M (.slice a n cap) (.sl tight k n es)
  | rp {cs:List C} (b off:Nat) (f:Nat->ah)
      (hm:∀j c,cs[j]?=aa c->M b (off+j)=aa (f j))
      (hr:∀j c,cs[j]?=aa c->Rd M (f j) c):Rd M (.pointer (aa ⟨b,off,ae⟩)) (.rp cs)
  | hY:Rd M (.pointer ae) .hY
  | ifs {t:aj} {v:ah} {c:C} (h:Rd M v c) (hc:cD v=ab):Rd M (.iface t v) (.ifs t c)
  | FH {t:aj} {vs:List ah} {cs:List C} (hl:vs.length=cs.length)
      (f:Nat->ah) (hf:∀j,j<vs.length->vs[j]?=aa (f j)) (hr:∀j c,cs[j]?=aa c->Rd M (f j) c):Rd M (.iface t (.agg vs.toArray)) (.FH t cs)
  | iy:Rd M .nilIface .iy
  | fn {g:Fn} {first cap:List C} (fs cs:List ah) (hl:fs.length=first.length) (Dq:cs.length=cap.length) (f1 f2:Nat->ah)
      (h1:∀j,j<fs.length->fs[j]?=aa (f1 j)) (h2:∀j,j<cs.length->cs[j]?=aa (f2 j))
      (r1:∀j c,first[j]?=aa c->Rd M (f1 j) c) (r2:∀j c,cap[j]?=aa c->Rd M (f2 j) c):Rd M (.func g fs.toArray cs.toArray) (.fn g first cap)
  | x4:Rd M .nilFunc .x4
  | val {x:ah} (h:cD x=ab):Rd M x (.val x)
theorem Rd.dZ{M:Mem}{v x:ah}(h:Rd M v (.val x)):v=x:=by cases h;rfl
def Rd.cell{M:Mem}{v:ah}{c:C}(h:Rd M v c):cD v=ab:=by cases h<;>first|rfl|assumption
def Rd.mono{M M':Mem}(d:∀b o v,M b o=aa v->M' b o=aa v){v:ah}{c:C}(h:Rd M v c):Rd M' v c:=by
  induction h with
  | int h=>exact .int h
  | bool=>exact .bool
  | str h hl=>exact .str h hl
  | sl b off f a e l hk ha hm hr ih =>
    exact .sl b off f a e l hk ha (λi hi j c hj=>d _ _ _ (hm i hi j c hj)) (λi hi j c hj=>ih i hi j c hj)
  | rp b off f hm hr ih=>exact .rp b off f (λj c hj=>d _ _ _ (hm j c hj)) (λj c hj=>ih j c hj)
  | hY=>exact .hY
  | ifs h k ih=>exact .ifs ih k
  | FH hl f g hr ih=>exact .FH hl f g (λj c hj=>ih j c hj)
  | iy=>exact .iy
  | fn fs cs hl Dq f1 f2 h1 h2 r1 r2 ih1 ih2=>exact .fn fs cs hl Dq f1 f2 h1 h2 (λj c hj=>ih1 j c hj) (λj c hj=>ih2 j c hj)
  | x4=>exact .x4
  | val h=>exact .val h
def gn(σ:List aP)(s:St)(v:ah):A->Prop
  | .c x=>Rd s.M v x
  | .ptr l off=>(∀B,σ[l]?=aa B->B.gr=af)/\∃L b,s.β[l]?=aa L/\L.v=.pointer (aa ⟨b,0,ae⟩)/\v=.pointer (aa ⟨b,off,ae⟩)
  | .vec l k n es=>Rd s.M v (.sl af k n es)/\l<σ.length/\∀E k' n' es',σ[l]?=aa (aP.vec E k' n' es')->n<=n'/\(n'=n->∃L,s.β[l]?=aa L/\v=L.v)
  | .ref l=>(∀B,σ[l]?=aa B->B.gr=af)/\∃L,s.β[l]?=aa L/\v=L.v/\cD v=ab
  | .bp l w=>∃a,w.K a v/\l<σ.length/\∀E k n es,σ[l]?=aa (aP.buf E k n es)->w.g<=n/\(w.g=n->∃L,s.β[l]?=aa L/\L.v=a)
  | .any=>cD v=ab
def dX(σ:List aP)(s:St):List ah->List A->Prop
  | [],[]=>True
  | v::vs,a::al=>gn σ s v a/\dX σ s vs al
  | _,_=>False
def m8(σ:List aP)(s:St)(v:ah):E1->Prop
  | .one a=>gn σ s v a
  | .agg cs=>∃vs:List ah,v=.agg vs.toArray/\dX σ s vs cs
def g6(σ:List aP)(s:St):List ah->List E1->Prop
  | [],[]=>True
  | v::vs,a::al=>m8 σ s v a/\g6 σ s vs al
  | _,_=>False
def dk(σ:List aP)(s:St)(v:ah):D->Prop
  | .e x=>m8 σ s v x
  | .eX xs=>∃vs:List ah,v=.tuple vs.toArray/\g6 σ s vs xs
  | .any=>True
def cg(σ:List aP)(s:St):List ah->List D->Prop
  | [],[]=>True
  | v::vs,a::al=>dk σ s v a/\cg σ s vs al
  | _,_=>False
structure Flat(M:Mem)(k n:Nat)(es:Nat->List C)(vs:List ah):Prop where
  len:vs.length=n*k
  width:∀i,i<n->(es i).length=k
  rd:∀i,i<n->∀(j:Nat) (c:C),(es i)[j]?=aa c->∃v,vs[i*k+j]?=aa v/\Rd M v c
def Flat.mono{M M':Mem}(a:∀b o v,M b o=aa v->M' b o=aa v){k n:Nat}{es:Nat->List C}{vs:List ah}(h:Flat M k n es vs):Flat M' k n es vs :=
  ⟨h.len,h.width,λi hi j c hj=>let ⟨v,h1,h2⟩:=h.rd i hi j c hj;⟨v,h1,h2.mono a⟩⟩
def et(σ:List aP)(s:St):aP->Loc->Prop
  | .cells E cs,L=>∃b vs,L=⟨.pointer (aa ⟨b,0,ae⟩),[b]⟩/\s.w.heap[b]?=aa (.cells (List.toArray vs) E (0,0))/\dX σ s vs cs/\∀o,s.M b o=ae
  | .vec E k n es,L=>Rd s.M L.v (.sl af k n es) /\
      (((L.bs=[]/\n=0)/\Rd s.M L.v (.sl ab k n es)) ∨
       ∃b cap vs,L=⟨.slice (aa ⟨b,0,ae⟩) n cap,[b]⟩/\s.w.heap[b]?=aa (.cells (List.toArray vs) E (0,0))/\vs.length=cap*k/\∀o,n*k<=o->s.M b o=ae)
  | .b8 H,L=>∃c,H L.v c/\(∀(b:Nat) (o:Obj),c b=aa o->s.w.heap[b]?=aa o)/\(∀b,b∈L.bs↔(c b).isSome=ab)/\∀b∈L.bs,∀o,s.M b o=ae
  | .dead,_=>True
  | .loop N φ r,L=>∃l tmps fn df,L=⟨.func (.yield l) #[] #[],[l]⟩/\s.w.heap[l]?=aa (.loop {r with tmps:=tmps,fn:=fn,defers:=df})/\tmps.size=N/\(∀t,dk σ s (tmps.getD t ai) (look φ t))/\∀o,s.M l o=ae
  | .qT,L=>∃r:Nat,L=⟨.int .i64 r,[r]⟩/\s.w.heap[r]?=aa (.deferred (aa []))/\∀o,s.M r o=ae
  | .buf E k n es,L=>(n=0/\L=⟨.slice ae 0 0,[]⟩)∨∃b a vs zs,L=⟨.slice (aa ⟨b,0,ae⟩) 0 a,[b]⟩/\s.w.heap[b]?=aa (.cells (List.toArray (vs++zs)) E (0,0))/\(vs++zs).length=a*k/\n<=a/\a<=9223372036854775807/\Flat s.M k n es vs/\∀o,s.M b o=ae
structure aF(σ:List aP)(s:St):Prop where
  mem:∀b o v,s.M b o=aa v->s.w.cell? ⟨b,o,ae⟩=aa v
  len:s.β.length=σ.length
  box:∀(l:Nat) (B:aP) (L:Loc),σ[l]?=aa B->s.β[l]?=aa L->et σ s B L
  eB:∀(l l':Nat) (L L':Loc),s.β[l]?=aa L->s.β[l']?=aa L'->∀b∈L.bs,b∈L'.bs->l=l'
  lt:∀L∈s.β,∀b∈L.bs,b<s.w.heap.size
  own:∀b,s.own b->b<s.w.heap.size/\∀L∈s.β,b∉L.bs
def gy:aP->Loc->aP->Loc->Prop
  | .vec _ _ n _,L,.vec _ _ a _,L'=>(a=n->L'.v=L.v)/\n<=a
  | .vec _ _ _ _,_,.dead,_=>True
  | .vec _ _ _ _,_,_,_=>False
  | .buf _ _ n _,L,.buf _ _ a _,L'=>(a=n->L'.v=L.v)/\n<=a
  | .buf _ _ _ _,_,.dead,_=>True
  | .buf _ _ _ _,_,_,_=>False
  | _,_,.vec _ _ _ _,_=>False
  | _,_,.buf _ _ _ _,_=>False
  | .dead,L,.dead,L'=>L'.v=L.v
  | .dead,_,_,_=>False
  | .qT,L,.qT,L'=>L'.v=L.v
  | .qT,_,_,_=>False
  | _,_,.qT,_=>False
  | _,L,_,L'=>L'.v=L.v
structure Ext(σ:List aP)(s:St)(σ':List aP)(s':St):Prop where
  mem:∀b o v,s.M b o=aa v->s'.M b o=aa v
  box:∀(l:Nat) (B:aP) (L:Loc),σ[l]?=aa B->s.β[l]?=aa L->∃B' L',σ'[l]?=aa B'/\s'.β[l]?=aa L'/\gy B L B' L'
structure Step(σ:List aP)(s:St)(σ':List aP)(s':St):Prop where
  size:s.w.heap.size<=s'.w.heap.size
  fb:∀b,b<s.w.heap.size->(∀L∈s.β,b∉L.bs)->s'.w.heap[b]?=s.w.heap[b]?
  mem:∀b o v,s.M b o=aa v->s'.M b o=aa v
  iV:∀b,b<s.w.heap.size->(∀L∈s.β,b∉L.bs)->∀o,s'.M b o=s.M b o
  vd:∀L'∈s'.β,∀b∈L'.bs,s.w.heap.size<=b∨∃L∈s.β,b∈L.bs
  box:∀(l:Nat) (B:aP) (L:Loc),σ[l]?=aa B->s.β[l]?=aa L->∃B' L',σ'[l]?=aa B'/\s'.β[l]?=aa L'/\gy B L B' L'
  os:s'.w.os=s.w.os
  tape:s'.w.tape=s.w.tape
  output:s'.w.output=s.w.output
  own:s'.own=s.own
structure cR(σ:List aP)(s:St)(σ':List aP)(s':St):Prop where
  size:s.w.heap.size<=s'.w.heap.size
  fb:∀b,s.own b->s'.w.heap[b]?=s.w.heap[b]?
  mem:∀b o v,s.M b o=aa v->s'.M b o=aa v
  iV:∀b,b<s.w.heap.size->(∀L∈s.β,b∉L.bs)->∀o,s'.M b o=s.M b o
  vd:∀L'∈s'.β,∀b∈L'.bs,s.w.heap.size<=b∨∃L∈s.β,b∈L.bs
  box:∀(l:Nat) (B:aP) (L:Loc),σ[l]?=aa B->s.β[l]?=aa L->∃B' L',σ'[l]?=aa B'/\s'.β[l]?=aa L'/\gy B L B' L'
  os:s'.w.os=s.w.os
  tape:s'.w.tape=s.w.tape
  output:s'.w.output=s.w.output
  own:s'.own=s.own
structure ck(s s':St):Prop where
  β:s'.β=s.β
  M:s'.M=s.M
  own:s'.own=s.own
  size:s.w.heap.size<=s'.w.heap.size
  fb:∀b,(s.own b∨∃L∈s.β,b∈L.bs)->s'.w.heap[b]?=s.w.heap[b]?
  mem:∀b o v,s.M b o=aa v->s'.w.cell? ⟨b,o,ae⟩=aa v
  os:s'.w.os=s.w.os
  tape:s'.w.tape=s.w.tape
  output:s'.w.output=s.w.output
def od(s:St)(e:Event):Prop :=
  match e.loc with
  | .cell a=>e.sync=af/\a.spot=ae/\(False∨((∃L∈s.β,a.block∈L.bs)/\(e.write=ab->s.M a.block a.off=ae))∨(e.write=af/\∃v,s.M a.block a.off=aa v))
  | .obj r=>e.sync=af/\(False∨∃L∈s.β,r∈L.bs)
  | .mark m=>m=.noRoom∨∃f,m=.extern f
  | _=>False
def eY(s:St)(es:Array Event):Prop:=∀e∈es,od s e
def eY.nil{s:St}:eY s #[]:=by intro e h;grind
def gy.refl(B:aP)(L:Loc):gy B L B L:=by cases B<;>simp[gy]
def gy.trans{B B' XE:aP}{L L' ZY:Loc}(h:gy B L B' L')(a:gy B' L' XE ZY):gy B L XE ZY:=by
  cases B<;>cases B'<;>cases XE<;>simp_all[gy]
  all_goals
    grind
def Step.refl(σ:List aP)(s:St):Step σ s σ s :=
  ⟨bh _,λ_ _ _=>rfl,λ_ _ _ h=>h,λ_ _ _ _=>rfl,λL h b c=>.inr ⟨L,h,c⟩,λ_ B L h a=>⟨B,L,h,a,.refl _ _⟩,rfl,rfl,rfl,rfl⟩
def Step.trans{σ σ1 σ2:List aP}{s f s2:St}(h:Step σ s σ1 f)(k:Step σ1 f σ2 s2):Step σ s σ2 s2:=by
  have out:∀b,b<s.w.heap.size->(∀L∈s.β,b∉L.bs)->∀L∈f.β,b∉L.bs:=by
    intro b a c L d e;rcases h.vd L d b e with h1|⟨x,r,p⟩
    · omega
    grind
  refine⟨iq h.size k.size,?_,λb o v g=>k.mem _ _ _ (h.mem _ _ _ g),?_,?_,?_,k.os.trans h.os,k.tape.trans h.tape,k.output.trans h.output,k.own.trans h.own⟩
  · intro b a c
    rw[k.fb b (cU a h.size) (out b a c),h.fb b a c]
  · intro b a c o
    rw[k.iV b (cU a h.size) (out b a c),h.iV b a c]
  · intro L d b a
    rcases k.vd L d b a with h1|⟨L1,j,i⟩
    · exact .inl (iq h.size h1)
    grind
  · intro l B L hB d
    obtain⟨B1,L1,h1,h2,m⟩:=h.box l B L hB d;obtain⟨n,u,k1,t,q⟩:=k.box l B1 L1 h1 h2;exact⟨n,u,k1,t,m.trans q⟩
def cR.refl(σ:List aP)(s:St):cR σ s σ s :=
  ⟨bh _,λ_ _=>rfl,λ_ _ _ h=>h,λ_ _ _ _=>rfl,λL h b c=>.inr ⟨L,h,c⟩,λ_ B L h a=>⟨B,L,h,a,.refl _ _⟩,rfl,rfl,rfl,rfl⟩
def cR.trans{σ σ1 σ2:List aP}{s f s2:St}(h:cR σ s σ1 f)(k:cR σ1 f σ2 s2):cR σ s σ2 s2:=by
  have out:∀b,b<s.w.heap.size->(∀L∈s.β,b∉L.bs)->∀L∈f.β,b∉L.bs:=by
    intro b a d L c e;rcases h.vd L c b e with h1|⟨x,r,p⟩
    · omega
    grind
  refine⟨iq h.size k.size,?_,λb o v g=>k.mem _ _ _ (h.mem _ _ _ g),?_,?_,?_,k.os.trans h.os,k.tape.trans h.tape,k.output.trans h.output,k.own.trans h.own⟩
  · intro b a
    rw[k.fb b (by rw[h.own];exact a),h.fb b a]
  · intro b a d o
    rw[k.iV b (cU a h.size) (out b a d),h.iV b a d]
  · intro L c b a
    rcases k.vd L c b a with h1|⟨L1,j,i⟩
    · exact .inl (iq h.size h1)
    grind
  · intro l B L hB c
    obtain⟨B1,L1,h1,h2,m⟩:=h.box l B L hB c;obtain⟨n,u,k1,t,q⟩:=k.box l B1 L1 h1 h2;exact⟨n,u,k1,t,m.trans q⟩
def Step.na{σ σ':List aP}{s s':St}(hh:aF σ s)(h:Step σ s σ' s'):cR σ s σ' s' :=
  ⟨h.size,λb a=>h.fb b (hh.own b a).1 (hh.own b a).2,h.mem,h.iV,h.vd,h.box,h.os,h.tape,h.output,h.own⟩
def cR.ext{σ σ':List aP}{s s':St}(h:cR σ s σ' s'):Ext σ s σ' s':=⟨h.mem,h.box⟩
def ck.refl{σ:List aP}{s:St}(hh:aF σ s):ck s s:=⟨rfl,rfl,rfl,bh _,λ_ _=>rfl,hh.mem,rfl,rfl,rfl⟩
def ck.stepW{σ:List aP}{s s':St}(h:ck s s'):cR σ s σ s' :=
  ⟨h.size,λb a=>h.fb b (.inl a),λb o v d=>by rw[h.M];exact d,λ_ _ _ _=>by rw[h.M],λL c b a=>.inr ⟨L,by rw[<-h.β];exact c,a⟩,
    λl B L hB c=>⟨B,L,hB,by rw[h.β];exact c,.refl _ _⟩,h.os,h.tape,h.output,h.own⟩
def Step.ext{σ σ':List aP}{s s':St}(h:Step σ s σ' s'):Ext σ s σ' s':=⟨h.mem,h.box⟩
section mono
variable {σ σ':List aP}{s s':St}
def Ext.Nn(h:Ext σ s σ' s'){l:Nat}{L:Loc}(c:s.β[l]?=aa L)(hl:s.β.length=σ.length)(b:∀B,σ[l]?=aa B->B.gr=af):
    (∀B,σ'[l]?=aa B->B.gr=af)/\∃L',s'.β[l]?=aa L'/\L'.v=L.v:=by
  have a:l<σ.length:=by grind
  obtain⟨B',L',k1,f,e⟩:=h.box l (σ[l]) L (br a) c;have d:=b _ (br a);generalize σ[l]=B at *;rw[k1];cases B<;>cases B'<;>simp_all[gy,aP.gr]
def gn.mono(h:Ext σ s σ' s')(hl:s.β.length=σ.length){v:ah}{a:A}(r:gn σ s v a):gn σ' s' v a:=by
  cases a with
  | c x=>exact Rd.mono h.mem r
  | any=>exact r
  | ptr l off =>
    obtain⟨i,L,b,h1,h2,j⟩:=r;obtain⟨g,L',k1,m⟩:=h.Nn h1 hl i;exact⟨g,L',b,k1,by grind,j⟩
  | vec l k n es =>
    obtain⟨o,d,q⟩:=r;obtain⟨B',L',k1,m,f⟩:=h.box l (σ[l]) (s.β[l]'(by omega)) (br d) (br (by omega));have e:l<σ'.length:=(bY.1 k1).1;refine⟨Rd.mono h.mem o,e,λE k' g es' he=>?_⟩;rw[he]at k1;cases k1;have hB:=br d;generalize σ[l]=B at *;cases B with
    | vec E0 k0 n0 WL =>
      obtain⟨p,q2⟩:=f;grind
    | _=>simp[gy]at f
  | ref l =>
    obtain⟨i,L,h1,h2,j⟩:=r;obtain⟨g,L',k1,m⟩:=h.Nn h1 hl i;exact⟨g,L',k1,by grind,j⟩
  | bp l w =>
    obtain⟨lv,o,d,q⟩:=r;obtain⟨B',L',k1,m,f⟩:=h.box l (σ[l]) (s.β[l]'(by omega)) (br d) (br (by omega));have e:l<σ'.length:=(bY.1 k1).1;refine⟨lv,o,e,λE k' g es' he=>?_⟩;rw[he]at k1;cases k1;have hB:=br d;generalize σ[l]=B at *;cases B with
    | buf E0 k0 n0 WL =>
      obtain⟨p,q2⟩:=f;grind
    | _=>simp[gy]at f
def dX.mono(h:Ext σ s σ' s')(hl:s.β.length=σ.length){vs:List ah}{cs:List A}(r:dX σ s vs cs):dX σ' s' vs cs:=by
  induction vs generalizing cs with
  | nil=>cases cs<;>simp_all[dX]
  | cons v vs ih =>
    cases cs with
    | nil=>simp[dX]at r
    | cons a cs=>exact⟨r.1.mono h hl,ih r.2⟩
def m8.mono(h:Ext σ s σ' s')(hl:s.β.length=σ.length){v:ah}{x:E1}(r:m8 σ s v x):m8 σ' s' v x:=by
  cases x with
  | one a=>exact gn.mono h hl r
  | agg cs=>obtain⟨vs,h1,h2⟩:=r;exact⟨vs,h1,h2.mono h hl⟩
def g6.mono(h:Ext σ s σ' s')(hl:s.β.length=σ.length){vs:List ah}{xs:List E1}(r:g6 σ s vs xs):g6 σ' s' vs xs:=by
  induction vs generalizing xs with
  | nil=>cases xs<;>simp_all[g6]
  | cons v vs ih =>
    cases xs with
    | nil=>simp[g6]at r
    | cons a cs=>exact⟨r.1.mono h hl,ih r.2⟩
def dk.mono(h:Ext σ s σ' s')(hl:s.β.length=σ.length){v:ah}{d:D}(r:dk σ s v d):dk σ' s' v d:=by
  cases d with
  | e x=>exact m8.mono h hl r
  | eX xs=>obtain⟨vs,h1,h2⟩:=r;exact⟨vs,h1,h2.mono h hl⟩
  | any=>trivial
def cg.mono(h:Ext σ s σ' s')(hl:s.β.length=σ.length){vs:List ah}{xs:List D}(r:cg σ s vs xs):cg σ' s' vs xs:=by
  induction vs generalizing xs with
  | nil=>cases xs<;>simp_all[cg]
  | cons v vs ih =>
    cases xs with
    | nil=>simp[cg]at r
    | cons a cs=>exact⟨r.1.mono h hl,ih r.2⟩
end mono
def oO(σ:List aP)(s:St):List Deferred->List Nat->Prop
  | [],[]=>True
  | d::ds,l::ls=>(σ[l]?=aa .qT/\∃(L:Loc) (r:Nat),s.β[l]?=aa L/\L.v=.int .i64 r/\d={target:=.collected r,args:=#[]})/\l∉ls/\oO σ s ds ls
  | _,_=>False
def oO.mono{σ σ':List aP}{s s':St}(h:Ext σ s σ' s'):∀{ds:List Deferred} {ls:List Nat},oO σ s ds ls->oO σ' s' ds ls
  | [],[],_=>trivial
  | [],_::_,r=>r.elim
  | _::_,[],r=>r.elim
  | d::ds,l::ls,⟨⟨h1,L,r,h2,g,a⟩,f,b⟩=>by
    obtain⟨B',L',k1,e,c⟩:=h.box l _ L h1 h2;cases B'<;>simp[gy]at c
    exact⟨⟨k1,L',r,e,by grind,a⟩,f,oO.mono h b⟩
def lA:List aP->Bool
  | []=>ab
  | .qT::_=>af
  | _::r=>lA r
def nq:∀{l:List aP},lA l=ab->∀B∈l,B≠.qT
  | [],_,B,hB=>by grind
  | b::r,h,B,hB=>by
    have a:b≠.qT/\lA r=ab:=by cases b<;>simp_all[lA]
    rcases eE.1 hB with rfl|hB
    · exact a.1
    · exact nq a.2 B hB
def pd{s:St}{r:Nat}{wr:Bool}{L:Loc}(b:L∈s.β)(a:r∈L.bs):od s ⟨.obj r,wr,af⟩:=⟨rfl,.inr ⟨L,b,a⟩⟩
def eY.one{s:St}{e:Event}(h:od s e):eY s #[e]:=by intro x a;grind
def eY.two{s:St}{e a:Event}(h:od s e)(b:od s a):eY s #[e,a]:=by intro x c;grind
def sx{P:ar}{w:aA}:∀{l:List (String×DataW Unit)}{ps:List MemPlace},DataW.LaidVars P w l ps->∀{n:String}{d:DataW Unit},(n,d)∈l ->
  ∃g t cs fuel p,P.globalNamed n=aa g/\(P.globals[g]?).map (·.type)=aa t/\w.var? P n=aa cs/\DataW.trod (λ_=>()) P w 0 (λ_=>ab) af fuel t cs.toList=aa (d,p)
 |[],_,_,_,_,a=>by cases a
 |(m,i)::r,ps,h,n,d,a=>by
  obtain⟨g,t,cs,fuel,p,q,j,k,c,f,b,_⟩:=h;rcases eE.1 a with e|e
  .grind
  .exact sx b e
theorem wZ{P:ar}{W:aA}(a:W.ShapedOpen P){g:Nat}{zero:Array ah}{t:aj}(b:g<P.globals.size)(c:(((begin P (λ_ _=>0) default).world.heap[g]?).bind Obj.row?)=aa (zero,t)){n:String}(e:P.globalNamed n=aa g){cs:Array ah}(d:W.var? P n=aa cs):
  W.heap[g]?=aa (.cells cs t (0,0)):=by obtain⟨c2,f,_⟩:=a.1 g zero t b c;unfold World.var? at d;grind
def w5{P:ar}{W:aA}{l:List (String×DataW Unit)}(h:laidMetH P l W)(a:W.ShapedOpen P){n y:String}{d:DataW Unit}(z:(n,.iface y d)∈l.filter λx=>x.2.handleName?.isNone){g t f:Nat}{w:Array (String×aj)}{zero:Array ah}(b:P.globalNamed n=aa g)(A:(P.globals[g]?).map (·.type)=aa t)(k:P.underlying t=aa (.interface w))(i:g<P.globals.size)(q:(((begin P (λ_ _=>0) default).world.heap[g]?).bind Obj.row?)=aa (zero,f)):∃e:aj×ah,W.heap[g]?=aa (.cells #[.iface e.1 e.2] f (0,0)):=by obtain⟨ps,j,_⟩:=(laidMetH_iff.1 h).1;obtain⟨C,B,cs,c,p,r,s,m,o⟩:=sx j z;cases b.symm.trans r;cases A.symm.trans s;obtain⟨_,u,v,e,_⟩:=iface_of_trod k o;have:=wZ a i q b m;rw[Array.eq_one_of_toList e]at this;exact⟨(u,v),this⟩
def Cc{P:ar}{W:aA}{l:List (String×DataW Unit)}(h:laidMetH P l W)(c:W.ShapedOpen P){n:String}{d:DataW Unit}{s:List UInt8}(p:(n,d)∈l.filter λx=>x.2.handleName?.isSome)(k:d.funcsIn?=ae)(o:d.handleName?=aa s){g b u ty:Nat}{zero:Array ah}(r:P.globalNamed n=aa g)(j:(P.cutTypes.find? (·.1== "internal/reflectlite.rtype")).map (·.2)=aa u)(w:((bg P.types.size).filter λt=>P.rowNamed t s)=[ty])(q:g<P.globals.size)(v:(((begin P (λ_ _=>0) default).world.heap[g]?).bind Obj.row?)=aa (zero,b)):W.heap[g]?=aa (.cells #[.iface u (.agg #[typeHandle P ty])] b (0,0)):=by have:=(laidMetH_iff.1 h).2 _ p;rw[k]at this;obtain⟨name,y,a,f,i,e,m,z⟩:=this;cases o.symm.trans f;cases j.symm.trans i;have A:a∈(bg P.types.size).filter λt=>P.rowNamed t s:=lf.2 ⟨oa.2 e,m⟩;grind[wZ]
section
open Go.Conc (G listed)
def qS(s s':St)(es:Array Event):Prop:=(∃σ σ',aF σ s/\aF σ' s'/\Step σ s σ' s')/\eY s es
structure Cx(P:ar) where
 main:Bool
 rely:St->St->Prop
 x3:av->St->(av->St->Prop)->Prop
 iw:∀{s s'},rely s s'->ck s s'
 Bo:Prop
class Cx.gZ {P:ar} (X:Cx P):Prop where
 ok:X.Bo
structure eu(s s':St):Prop where
 w:s'.w=s.w
 mem:∀b o v,s.M b o=aa v->s'.M b o=aa v
 iV:∀b,(∀L∈s.β,b∉L.bs)->∀o,s'.M b o=s.M b o
 cell:∀b o v,s'.M b o=aa v->s.w.cell? ⟨b,o,ae⟩=aa v
 blk:∀b,(s'.own b∨∃L∈s'.β,b∈L.bs)->s.own b∨∃L∈s.β,b∈L.bs
structure mW(s s':St):Prop where
 w:s'.w=s.w
 β:s'.β=s.β
 own:s'.own=s.own
 less:∀b o v,s'.M b o=aa v->s.M b o=aa v
 mem:∀b o v,s.M b o=aa v->s'.M b o=aa v∨s.own b
inductive fz {P:ar} (X:Cx P) (S:av->St->Prop):av->St->Prop
 |stop {g:av} {s:St}:S g s->fz X S g s
 |step {g:av} {s:St} (ng:St->av) (ns:St->St) (ne:St->Array Event):g.status=.running ->
   (∀s1,X.rely s s1->aH P X.main g s1.w=.go (ng s1) (ns s1).w (ne s1))->(∀s1,X.rely s s1->qS s1 (ns s1) (ne s1))->(∀s1,X.rely s s1->fz X S (ng s1) (ns s1))->fz X S g s
 |ghost {g:av} {s s':St}:eu s s'->fz X S g s'->fz X S g s
 |forget {g:av} {s s':St}:X.Bo->mW s s'->fz X S g s'->fz X S g s
 |x3 {g:av} {s:St} {T:av->St->Prop}:X.x3 g s T->(∀g' s',T g' s'->fz X S g' s')->fz X S g s
section
variable {P:ar}{X:Cx P}{S:av->St->Prop}
def fz.next{g:av}{s:St}(f:g.status=.running)(h:∀c,X.rely s c->∃g' s' es,aH P X.main g c.w=.go g' s'.w es/\qS c s' es/\fz X S g' s'):fz X S g s:=by
 classical
 have hh:∀c,∃r:av×St×Array Event,X.rely s c->aH P X.main g c.w=.go r.1 r.2.1.w r.2.2/\qS c r.2.1 r.2.2/\fz X S r.1 r.2.1:=by
  intro c;by_cases e:X.rely s c
  .obtain⟨g',s',es,h1⟩:=h c e;exact⟨(g',s',es),λ_=>h1⟩
  .exact⟨(g,c,#[]),λd=>absurd d e⟩
 refine .step (λc=>(Classical.choose (hh c)).1) (λc=>(Classical.choose (hh c)).2.1) (λc=>(Classical.choose (hh c)).2.2) f ?_ ?_ ?_
 .grind
 .grind
 grind
theorem eu.of{σ σ':List aP}{s s':St}(hh:aF σ s)(d:aF σ' s')(f:s'.w=s.w)(st:cR σ s σ' s'):eu s s':=by
 have j:∀b o v,s'.M b o=aa v->s.w.cell? ⟨b,o,ae⟩=aa v:=λb o v h=>by rw[<-f];exact d.mem b o v h
 have e:∀b o v,s.w.cell? ⟨b,o,ae⟩=aa v->b<s.w.heap.size:=by
  intro b o v h;rcases cC b s.w.heap.size with h1|h1
  .exact h1
  .simp[aV,zp h1]at h
 refine⟨f,st.mem,λb c o=>?_,j,λb c=>?_⟩
 .rcases cC b s.w.heap.size with h1|h1
  .exact st.iV b h1 c o
  .cases h2:s'.M b o with
   |some v=>grind
   |none=>cases i:s.M b o with
    |none=>rfl
    |some v=>have:=e _ _ _ (hh.mem _ _ _ i);omega
 .rcases c with c|⟨L,g,c⟩
  .exact .inl (by rw[<-st.own];exact c)
  .rcases st.vd L g b c with h1|h1
   .have:=d.lt L g b c;grind
   grind
def aF.rely{σ:List aP}{s s':St}(hh:aF σ s)(h:ck s s'):aF σ s':=by
 have ex:Ext σ s σ s':=h.stepW.ext;have z:∀v a,gn σ s v a->gn σ s' v a:=λv a r=>r.mono ex hh.len;refine⟨λb o v p=>h.mem b o v (by rw[<-h.M];exact p),by rw[h.β];exact hh.len,?_,by rw[h.β];exact hh.eB,?_,?_⟩
 .intro l B L hB hL;rw[h.β]at hL;have c:=hh.box l B L hB hL;have hk:∀b∈L.bs,s'.w.heap[b]?=s.w.heap[b]?:=λb c=>h.fb b (.inr ⟨L,bJ hL,c⟩);cases B with
  |cells E cs =>
   obtain⟨b,vs,h1,h2,d,e⟩:=c;subst h1;exact⟨b,vs,rfl,by grind,d.mono ex hh.len,λo=>by rw[h.M,e]⟩
  |vec E k n es =>
   obtain⟨h1,h2⟩:=c;refine⟨by rw[h.M];exact h1,?_⟩;rcases h2 with⟨h2,d⟩|⟨b,cap,vs,h2,d,e,f⟩
   .exact .inl ⟨h2,by rw[h.M];exact d⟩
   .subst h2;exact .inr ⟨b,cap,vs,rfl,by grind,e,λo q=>by rw[h.M,f o q]⟩
  |b8 H =>
   obtain⟨ch,h1,h2,d,e⟩:=c;refine⟨ch,h1,λb o x=>?_,d,λb g o=>by rw[h.M,e b g]⟩;grind
  |dead=>trivial
  |loop N φ r =>
   obtain⟨l,tmps,fn,u,h1,h2,d,e,f⟩:=c;subst h1;exact⟨l,tmps,fn,u,rfl,by grind,d,λt=>(e t).mono ex hh.len,λo=>by rw[h.M,f]⟩
  |qT =>
   obtain⟨r,h1,h2,d⟩:=c;subst h1;exact⟨r,rfl,by grind,λo=>by rw[h.M,d]⟩
  |buf E k n es =>
   rcases c with c|⟨b,j,vs,y,h1,h2,d,e,f,m,i⟩
   .exact .inl c
   .subst h1;exact .inr ⟨b,j,vs,y,rfl,by grind,d,e,f,by rw[h.M];exact m,λo=>by rw[h.M,i]⟩
 .intro L hL b c;rw[h.β]at hL;exact cU (hh.lt L hL b c) h.size
 .intro b c;rw[h.own]at c;rw[h.β];exact⟨cU (hh.own b c).1 h.size,(hh.own b c).2⟩
def qS.quiet{σ:List aP}{s:St}(hh:aF σ s):qS s s #[]:=⟨⟨σ,σ,hh,hh,.refl _ _⟩,.nil⟩
def _root_.Go.Frame.aT(b:aR)(a:Act)(todo:List Item):aR:={b with tmps:=a.tmps,todo:=todo,defers:=a.defers++b.defers,mode:=.run}
variable {b:aR}{a:Act}{k:List Item}{cs:List aR}{w:aA}{main:Bool}
def Fv(b:aR)(a:Act)(c:List Item):(b.aT a c).eval=a.eval:=by funext x;cases x<;>rfl
def Fw:aH P main (G (b.aT a (.code .skip::k)) cs) w=.go (G (b.aT a k) cs) w:=by simp[G,aH,stepG.exec,Frame.aT]
def qU{id:Nat}:aH P main (G (b.aT a (.inBlock id::k)) cs) w=.go (G (b.aT a k) cs) w:=by simp[G,aH,stepG.exec,Frame.aT]
theorem oe{x y:Code}:aH P main (G (b.aT a (.code (.seq x y)::k)) cs) w=.go (G (b.aT a (.code x::.code y::k)) cs) w:=by simp[G,aH,stepG.exec,Frame.aT]
def ve{c:ak}{x y:Code}{t:Bool}(h:a.eval c=.bool t):
  aH P main (G (b.aT a (.code (.cond c x y)::k)) cs) w=.go (G (b.aT a (.code (if t then x else y)::k)) cs) w:=by
 have d:(b.aT a (.code (.cond c x y)::k)).eval c=.bool t:=by rw[Fv];exact h
 simp only[Frame.aT]at d;simp[G,aH,stepG.exec,Frame.aT,d]
def rU{id:Nat}{c:Code}:aH P main (G (b.aT a (.code (.block id c)::k)) cs) w=.go (G (b.aT a (.code c::.inBlock id::k)) cs) w:=by simp[G,aH,stepG.exec,Frame.aT]
def Fx{c:Code}:aH P main (G (b.aT a (.code (.loop c)::k)) cs) w=.go (G (b.aT a (.code c::.inLoop c::k)) cs) w:=by simp[G,aH,stepG.exec,Frame.aT]
def yr{c:Code}:aH P main (G (b.aT a (.inLoop c::k)) cs) w=.go (G (b.aT a (.code c::.inLoop c::k)) cs) w:=by simp[G,aH,stepG.exec,Frame.aT]
def zy{id:Nat}{k':List Item}(h:exitTo id k=aa k'):aH P main (G (b.aT a (.code (.exit id)::k)) cs) w=.go (G (b.aT a k') cs) w:=by simp[G,aH,stepG.exec,Frame.aT,h]
def p9{id:Nat}{ops:Array au}:aH P main (G (b.aT a (.code (.region id ops af)::k)) cs) w=.go (G (b.aT a (.inRegion ops (bg ops.size)::k)) cs) w:=by simp[G,aH,stepG.exec,Frame.aT]
def lV{id:Nat}{ops:Array au}:aH P main (G (b.aT a (.code (.region id ops ab)::k)) cs) w =
  .go (G (b.aT a (.inRegion ops (Region.schedule (P.follows .mixedOrders) ops (w.tape w.drawn (.order b.fn id)))::k)) cs) {w with drawn:=w.drawn+1}:=by simp[G,aH,stepG.exec,Frame.aT,choose,Sem.run,Question.forced,Question.cut]
def iX{ops:Array au}:aH P main (G (b.aT a (.inRegion ops []::k)) cs) w=.go (G (b.aT a k) cs) w:=by simp[G,aH,stepG.exec,Frame.aT]
def DC(h:b.roundOf=ae):aH P main (G (b.aT a (.code .ret::k)) cs) w=.go (G {b.aT a (.code .ret::k)with mode:=.returning} cs) w:=by simp[G,aH,stepG.exec,Frame.aT,h]
def DD(h:b.roundOf=ae):aH P main (G (b.aT a []) cs) w=.go (G {b.aT a []with mode:=.returning} cs) w:=by simp[G,aH,stepG.exec,Frame.aT,h]
def ki(ops:Array au)(i:Nat)(rest:List Nat)(v:ah):
  (b.aT a (.inRegion ops (i::rest)::k)).finish v=b.aT (a.put ((ops[i]?).bind (·.dst)) v) (.inRegion ops rest::k):=by cases h:(ops[i]?).bind (·.dst)<;>simp[Frame.finish,Frame.aT,Act.put,h]
def Nl{ops:Array au}{i:Nat}{rest:List Nat}{o:au}(d:ops[i]?=aa o)(e:bd o (yielded ops a.tmps)=af):
  aH P main (G (b.aT a (.inRegion ops (i::rest)::k)) cs) w=.go (G (b.aT (a.put o.dst ai) (.inRegion ops rest::k)) cs) w:=by have c:=ki (b:=b) (a:=a) (k:=k) ops i rest ai;rw[d]at c;simp only[n3]at c;rw[<-c];simp[G,aH,stepG.exec,Frame.aT,d,e]
theorem rV{i:ak->ah}{o:au}{c:Call}(h:o.op=.defer c){f:Next}{w':aA}(e:(aw i o).run P w=.ok f w'):∃d,f=.defer d:=by
 simp only[aw,h,bL]at e;cases g:(resolve i c o.type).run P w with
 |ok d w2=>rw[g]at e;simp at e;grind
 |halt x w2=>rw[g]at e;simp at e
def vf{ops:Array au}{i:Nat}{rest:List Nat}{o:au}(f:ops[i]?=aa o)(e:bd o (yielded ops a.tmps)=ab)(g:∀c,o.op≠.defer c):
  aH P main (G (b.aT a (.inRegion ops (i::rest)::k)) cs) w=stepG.apply P ab (b.aT a (.inRegion ops (i::rest)::k)) cs ae (aw a.eval o) w:=by have d:=Fv b a (.inRegion ops (i::rest)::k);simp only[Frame.aT]at d;simp[G,aH,stepG.exec,stepG.oper,Frame.oper?,Frame.aT,f,e,d];grind
theorem I7{ops:Array au}{i:Nat}{rest:List Nat}{o:au}{v:ah}{w':aA}(f:ops[i]?=aa o)(h:bd o (yielded ops a.tmps)=ab)(hk:b.kind≠.early)(g:(aw a.eval o).run P w=.ok (.value v) w'):
  aH P main (G (b.aT a (.inRegion ops (i::rest)::k)) cs) w=.go (G (b.aT (a.put o.dst v) (.inRegion ops rest::k)) cs) w' (listed P b.fn a o w):=by
 have d:=ki (b:=b) (a:=a) (k:=k) ops i rest v;rw[f]at d;simp only[n3]at d;have e:(b.kind==CallKind.early)=af:=by grind
 rw[vf f h (λc j=>by grind[rV]),<-d];simp[stepG.apply,g,G,Frame.aT,e,GStep.after,listed]
theorem Fy{ops:Array au}{i:Nat}{rest:List Nat}{o:au}{w':aA}(f:ops[i]?=aa o)(h:bd o (yielded ops a.tmps)=ab)(hk:b.kind≠.early)(g:(aw a.eval o).run P w=.ok .skip w'):
  aH P main (G (b.aT a (.inRegion ops (i::rest)::k)) cs) w=.go (G (b.aT (a.put o.dst ai) (.inRegion ops rest::k)) cs) w' (listed P b.fn a o w):=by
 have d:=ki (b:=b) (a:=a) (k:=k) ops i rest ai;rw[f]at d;simp only[n3]at d;have e:(b.kind==CallKind.early)=af:=by grind
 rw[vf f h (λc j=>by grind[rV]),<-d];simp[stepG.apply,g,G,Frame.aT,e,GStep.after,listed]
def o0{ops:Array au}{i:Nat}{rest:List Nat}{o:au}{f:aJ}{args:Array ah}{w':aA}(g:ops[i]?=aa o)(h:bd o (yielded ops a.tmps)=ab)(hk:b.kind≠.early)(e:(aw a.eval o).run P w=.ok (.enter f args) w'):
  aH P main (G (b.aT a (.inRegion ops (i::rest)::k)) cs) w=.go (G (Frame.enter P f args .normal) (b.aT a (.inRegion ops (i::rest)::k)::cs)) w' (listed P b.fn a o w):=by
 have d:(b.kind==CallKind.early)=af:=by grind
 rw[vf g h (λc j=>by grind[rV])];simp[stepG.apply,e,G,Frame.aT,d,GStep.after,listed]
structure uI(P:ar)(f:aJ)(fr:aR)(v:ah)(s:St):Prop where
 isF:fr.fn=f
 mode:fr.mode=.returning
 defers:fr.defers=[]
 kind:fr.kind=.normal
 fn:∃fn,P.funcs[fr.fn]?=aa fn/\∀w,(∀b o u,s.M b o=aa u->w.cell? ⟨b,o,ae⟩=aa u)->(results fn fr.tmps).run P w=.ok v w/\∀e∈(results fn fr.tmps).events P w #[],∃b o u,e=⟨.cell ⟨b,o,ae⟩,af,af⟩/\s.M b o=aa u
def uI.mono{f:aJ}{fr:aR}{v:ah}{s s':St}(h:uI P f fr v s)(g:∀b o u,s.M b o=aa u->s'.M b o=aa u):uI P f fr v s':=by obtain⟨h1,h2,d,c,fn,e,i⟩:=h;refine⟨h1,h2,d,c,fn,e,λw j=>?_⟩;grind
def eY.seen{s:St}{es:Array Event}{fn:aJ}(h:eY s es):eY s (seen P fn es):=λe c=>h e (Go.Conc.mem_seen c)
def I8{f:aJ}{g c:aR}{v:ah}{s:St}(h:uI P f g v s)(w:aA)(m:∀b o u,s.M b o=aa u->w.cell? ⟨b,o,ae⟩=aa u):∃es,aH P main (G g (c::cs)) w=.go (G (c.finish v) cs) w es/\∀e∈es,∃b o u,e=⟨.cell ⟨b,o,ae⟩,af,af⟩/\s.M b o=aa u:=by obtain⟨fn,l,d⟩:=h.fn;obtain⟨j,n⟩:=d w m;refine⟨seen P g.fn ((results fn g.tmps).events P w #[]),?_,λe i=>n e (Go.Conc.mem_seen i)⟩;simp[G,aH,unwind,doReturn,h.mode,h.defers,h.kind,l,j,GStep.after]
end
end
structure cm(N:Nat)(σ:List aP)(s:St)(φ:Fr)(a:Act):Prop where
 size:a.tmps.size=N
 defers:∃ls,oO σ s a.defers ls
 slot:∀t,dk σ s (a.tmps.getD t ai) (look φ t)
def cm.mono{N:Nat}{σ σ':List aP}{s s':St}{φ:Fr}{a:Act}(h:cR σ s σ' s')(hl:s.β.length=σ.length)(f:cm N σ s φ a):cm N σ' s' φ a :=
 ⟨f.size,f.defers.imp λ_ h1=>h1.mono h.ext,λt=>(f.slot t).mono h.ext hl⟩
def cm.rely{N:Nat}{σ:List aP}{s s':St}{φ:Fr}{a:Act}(h:ck s s')(hh:aF σ s)(f:cm N σ s φ a):cm N σ s' φ a:=f.mono h.stepW hh.len
def cm.put{N:Nat}{σ:List aP}{s:St}{φ:Fr}{a:Act}(f:cm N σ s φ a){d:Nat}(g:d<N){v:ah}{x:D}(r:dk σ s v x):cm N σ s ((d,x)::φ) (a.put (aa d) v):=by
 refine⟨by simp[Act.put,f.size],f.defers,λt=>?_⟩;simp only[Act.put,look];by_cases e:d=t
 .subst e;rw[show aB d d=ab from iR d];have c:d<a.tmps.size:=by rw[f.size];exact g
  simp only[dM,vH c,im,cond];exact r
 .have:aB d t=af:=by grind[Nat.eq_of_beq_eq_true]
  rw[this];have h:=f.slot t;simp only[dM]at h⊢;grind
def oi(φ φ':Fr):Prop:=∀σ s v t,dk σ s v (look φ t)->dk σ s v (look φ' t)
def cm.le{N:Nat}{σ:List aP}{s:St}{φ φ':Fr}{a:Act}(h:oi φ φ')(f:cm N σ s φ a):cm N σ s φ' a :=
 ⟨f.size,f.defers,λt=>h _ _ _ _ (f.slot t)⟩
abbrev Post:=Exit->Fr->List aP->Prop
def ends{P:ar}(X:Cx P)(S:av->St->Prop)(b:aR)(k:List Item)(cs:List aR):Exit->Act->St->Prop
 |.normal,a,s=>fz X S (G (b.aT a k) cs) s
 |.exit id,a,s=>∀pre,(∀k',exitTo id (pre++k')=exitTo id k')->fz X S (G (b.aT a (.code (.exit id)::(pre++k))) cs) s
 |.ret,a,s=>∀pre,fz X S (G (b.aT a (.code .ret::pre)) cs) s
 |.panic ch,a,s=>∀c,fz X S (G {b.aT a c with mode:=.panicking ch} cs) s
 |_,_,_=>False
section
variable {P:ar}{X:Cx P}{S:av->St->Prop}{b:aR}{k:List Item}{cs:List aR}{a:Act}{s:St}
def ends.cons{x:Item}(d:∀id k',exitTo id (x::k')=exitTo id k'){e:Exit}(c:e≠.normal)(h:ends X S b k cs e a s):ends X S b (x::k) cs e a s:=by
 cases e with
 |normal=>grind
 |exit id =>
  intro pre hp;have:=h (pre++[x]) (λk'=>by grind);grind
 |ret=>exact h
 |panic ch=>exact h
 |goto l=>exact h
 |outgrown=>exact h
def fz.ctl{σ:List aP}{g g':av}(hh:aF σ s)(e:g.status=.running)(d:∀w,aH P X.main g w=.go g' w #[])(h:∀c,ck s c->fz X S g' c):fz X S g s :=
 .next e λc h1=>⟨g',c,#[],d c.w,.quiet (hh.rely (X.iw h1)),h c (X.iw h1)⟩
def qb{σ:List aP}{f:aJ}{j c:aR}{cs:List aR}{v:ah}{s:St}(r:aF σ s)(h:uI P f j v s)(k:∀d,ck s d->fz X S (G (c.finish v) cs) d):fz X S (G j (c::cs)) s:=by refine .next rfl λd q=>?_;have i:=X.iw q;have g:=r.rely i;obtain⟨es,m,p⟩:=I8 (main:=X.main) (c:=c) (cs:=cs) h d.w i.mem;refine⟨_,d,es,m,⟨⟨σ,σ,g,g,.refl _ _⟩,λe l=>?_⟩,k d i⟩;obtain⟨b,o,u,rfl,n⟩:=p e l;exact⟨rfl,rfl,.inr (.inr ⟨rfl,u,by rw[i.M];exact n⟩)⟩
def ss{c:Code}(I:Nat->Act->St->Prop)(i:∀n a s,I n a s->∃σ,aF σ s/\∀d,ck s d->I n a d)(round:∀n a s,I n a s->(∀a' s' m,m<n->I m a' s'->fz X S (G (b.aT a' (.inLoop c::k)) cs) s')->fz X S (G (b.aT a (.code c::.inLoop c::k)) cs) s){n:Nat}(j:I n a s):
  fz X S (G (b.aT a (.code (.loop c)::k)) cs) s:=by
 have key:∀n a s,I n a s->fz X S (G (b.aT a (.inLoop c::k)) cs) s:=by
  intro n;induction n using Nat.strongRecOn with
  |_ n o =>
   intro a s hi;obtain⟨σ,g,f⟩:=i n a s hi;exact .ctl g rfl (λw=>yr) λd h=>round n a d (f d h) λa' s' m l e=>o m l a' s' e
 obtain⟨σ,g,f⟩:=i n a s j;exact .ctl g rfl (λw=>Fx) λd h=>round n a d (f d h) λa' s' m _ e=>key m a' s' e
end
def AW{P:ar}(X:Cx P)(N:Nat)(c:Code)(Q:Post)(φ:Fr)(σ:List aP):Prop :=
 ∀s a,cm N σ s φ a->aF σ s->∀(b:aR) (k:List Item) (cs:List aR) (S:av->St->Prop),b.kind≠.early ->
  (∀e φ' σ' s' a',Q e φ' σ'->cm N σ' s' φ' a'->aF σ' s'->cR σ s σ' s'->ends X S b k cs e a' s')->fz X S (G (b.aT a (.code c::k)) cs) s
def Names(all:List au):List Nat->List au->Prop
 |[],[]=>True
 |i::idx,o::rest=>all.toArray[i]?=aa o/\Names all idx rest
 |_,_=>False
def ib{P:ar}(X:Cx P)(N:Nat)(all rest:List au)(Q:Fr->List aP->Prop)(φ:Fr)(σ:List aP):Prop :=
 ∀s a,cm N σ s φ a->aF σ s->∀(b:aR) (k:List Item) (cs:List aR) (S:av->St->Prop) (idx:List Nat),b.kind≠.early->Names all idx rest ->
  (∀φ' σ' s' a',Q φ' σ'->cm N σ' s' φ' a'->aF σ' s'->cR σ s σ' s'->fz X S (G (b.aT a' k) cs) s')->fz X S (G (b.aT a (.inRegion all.toArray idx::k)) cs) s
section rules
variable {P:ar}{X:Cx P}{N:Nat}{Q:Post}{φ:Fr}{σ:List aP}
def AW.mono{c:Code}{d:Post}(h:AW X N c Q φ σ)(i:∀e φ σ,Q e φ σ->d e φ σ):AW X N c d φ σ :=
 λs a m hh b k cs S f g=>h s a m hh b k cs S f λe φ' σ' s' a' q l j st=>g e φ' σ' s' a' (i _ _ _ q) l j st
def AW.le{c:Code}{φ':Fr}(h:AW X N c Q φ' σ)(hl:oi φ φ'):AW X N c Q φ σ :=
 λs a d hh b k cs S e f=>h s a (d.le hl) hh b k cs S e f
theorem AW.skip(h:Q .normal φ σ):AW X N .skip Q φ σ:=λs a c hh b k cs S _ e =>
 .ctl hh rfl (λ_=>Fw) λd h1=>e .normal φ σ d a h (c.rely h1 hh) (hh.rely h1) h1.stepW
def AW.ret(h:Q .ret φ σ):AW X N .ret Q φ σ:=λs a c hh b k cs S _ d=>d .ret φ σ s a h c hh (.refl _ _) k
theorem AW.exit{id:Nat}(h:Q (.exit id) φ σ):AW X N (.exit id) Q φ σ:=λs a c hh b k cs S _ d=>by have:=d (.exit id) φ σ s a h c hh (.refl _ _) [] (λ_=>rfl);grind
def BT(next:Fr->List aP->Prop)(Q:Post):Post
 |.normal,φ,σ=>next φ σ
 |e,φ,σ=>Q e φ σ
theorem AW.seq{x y:Code}(h:AW X N x (BT (AW X N y Q) Q) φ σ):AW X N (.seq x y) Q φ σ:=by
 intro s a l hh b k cs S f g;refine .ctl hh rfl (λ_=>oe) λm h1=>?_;refine h m a (l.rely h1 hh) (hh.rely h1) b (.code y::k) cs S f ?_;intro e φ' σ' s' a' q j i st;have c:=h1.stepW.trans st;cases e with
 |normal=>exact q s' a' j i b k cs S f λe d σ2 s2 a2 q2 f2 h2 mg=>g e d σ2 s2 a2 q2 f2 h2 (c.trans mg)
 |_=>exact ends.cons (λ_ _=>rfl) (by simp) (g _ _ _ _ _ q j i c)
theorem AW.cond{c:ak}{x y:Code}{t:Bool}{u:Nat}(p:c=.tmp u)(hl:look φ u=.e (.one (.c (.bool t))))(r:t=ab->AW X N x Q φ σ)(o:t=af->AW X N y Q φ σ):AW X N (.cond c x y) Q φ σ:=by
 intro s a f hh b k cs S j l;have g:=f.slot u;rw[hl]at g;have h:a.eval c=.bool t:=by subst p;generalize h:a.tmps.getD u ai=v at g;simp only[dk,m8,gn]at g;cases g;exact h
 refine .ctl hh rfl (λ_=>ve h) λi h1=>?_;have d:∀e φ' σ' s' a',Q e φ' σ'->cm N σ' s' φ' a'->aF σ' s'->cR σ i σ' s'->ends X S b k cs e a' s':=λe φ' σ' s' a' q n m st=>l e φ' σ' s' a' q n m (h1.stepW.trans st);cases t
 .exact o rfl i a (f.rely h1 hh) (hh.rely h1) b k cs S j d
 .exact r rfl i a (f.rely h1 hh) (hh.rely h1) b k cs S j d
def wK(id:Nat)(Q:Post):Post
 |.exit IX,φ,σ=>if IX=id then Q .normal φ σ else Q (.exit IX) φ σ
 |e,φ,σ=>Q e φ σ
theorem AW.block{id:Nat}{c:Code}(h:AW X N c (wK id Q) φ σ):AW X N (.block id c) Q φ σ:=by
 intro s a n hh b k cs S j g;refine .ctl hh rfl (λ_=>rU) λo h1=>?_;refine h o a (n.rely h1 hh) (hh.rely h1) b (.inBlock id::k) cs S j ?_;intro e φ' σ' s' a' q i f st;have d:=h1.stepW.trans st;cases e with
 |normal =>
  exact .ctl f rfl (λ_=>qU) λs2 h2=>g .normal φ' σ' s2 a' q (i.rely h2 f) (f.rely h2) (d.trans h2.stepW)
 |exit IX =>
  simp only[wK]at q;split at q
  .rename_i e;subst e;intro pre hp;refine .ctl f rfl (λ_=>zy (k':=k) (by rw[hp];simp[exitTo])) λs2 h2=>?_;exact g .normal φ' σ' s2 a' q (i.rely h2 f) (f.rely h2) (d.trans h2.stepW)
  .rename_i m
   intro pre hp;have:=g (.exit IX) φ' σ' s' a' q i f d (pre++[.inBlock id]) (λk'=>by
    rw[lS,hp];have:(id==IX)=af:=by grind
    simp[exitTo,this])
   grind
 |ret=>exact g _ _ _ _ _ q i f d
 |panic ch=>exact g _ _ _ _ _ q i f d
 |goto l=>exact g _ _ _ _ _ q i f d
 |outgrown=>exact g _ _ _ _ _ q i f d
def AW.loop{S:Type}{c:Code}(I:S->Prop)(fr:S->Fr)(st:S->List aP)(h:S->Nat)(x:S)(r:I x)(j:oi φ (fr x))(o:st x=σ)(round:∀x,I x->AW X N c (BT (λφ' σ'=>∃y,I y/\h y<h x/\oi φ' (fr y)/\σ'=st y) Q) (fr x) (st x)):AW X N (.loop c) Q φ σ:=by
 intro s a w hh b k cs S t u;subst o;refine ss (λn a' s'=>∃y,I y/\cm N (st y) s' (fr y) a'/\aF (st y) s'/\cR (st x) s (st y) s'/\h y=n) ?_ ?_ ⟨x,r,w.le j,hh,.refl _ _,rfl⟩
 .rintro n a' s' ⟨y,i,l,f,d,e⟩;exact⟨st y,f,λC h1=>⟨y,i,l.rely h1 f,f.rely h1,d.trans h1.stepW,e⟩⟩
 rintro n a' s' ⟨y,i,l,f,d,rfl⟩ A;refine round y i s' a' l f b (.inLoop c::k) cs S t ?_;intro e B σ2 s2 a2 q p h2 mg;cases e with
 |normal =>
  obtain⟨z,v,m,g,rfl⟩:=q;exact A a2 s2 (h z) m ⟨z,v,p.le g,h2,d.trans mg,rfl⟩
 |_=>exact ends.cons (λ_ _=>rfl) (by simp) (u _ _ _ _ _ q p h2 (d.trans mg))
end rules
def dX.length{σ:List aP}{s:St}{vs:List ah}{cs:List A}(r:dX σ s vs cs):vs.length=cs.length:=by
 induction vs generalizing cs with
 |nil=>cases cs<;>simp_all[dX]
 |cons v vs ih =>
  cases cs with
  |nil=>simp[dX]at r
  |cons a cs=>simp[ih r.2]
def gn.cell{σ:List aP}{s:St}{v:ah}{a:A}(r:gn σ s v a):cD v=ab:=by
 cases a with
 |c x=>exact Rd.cell r
 |ptr l off=>obtain⟨_,_,_,_,_,rfl⟩:=r;rfl
 |vec l k n es=>exact Rd.cell r.1
 |ref l=>obtain⟨_,_,_,_,h⟩:=r;exact h
 |bp l w=>obtain⟨_,h,_⟩:=r;exact h.cell
 |any=>exact r
theorem dX.get{σ:List aP}{s:St}{vs:List ah}{cs:List A}(r:dX σ s vs cs){j:Nat}{a:A}(h:cs[j]?=aa a):∃v,vs[j]?=aa v/\gn σ s v a:=by
 induction vs generalizing cs j with
 |nil=>cases cs<;>simp_all[dX]
 |cons v vs ih =>
  cases cs with
  |nil=>grind
  |cons b cs =>
   cases j with
   |zero=>simp at h;subst h;exact⟨v,rfl,r.1⟩
   |succ j=>simp at h;obtain⟨u,c,d⟩:=ih r.2 h;grind
def dX.cell{σ:List aP}{s:St}{vs:List ah}{cs:List A}(r:dX σ s vs cs):∀v∈vs,v.oneCell'=ab:=by
 induction vs generalizing cs with
 |nil=>simp
 |cons v vs ih =>
  cases cs with
  |nil=>simp[dX]at r
  |cons a cs =>
   intro u b;rcases eE.1 b with rfl|b
   .have:=gn.cell r.1;cases u<;>simp_all[cD,Value.oneCell']
   .exact ih r.2 u b
def dX.append{σ:List aP}{s:St}{vs vW:List ah}{cs nb:List A}(r:dX σ s vs cs)(r':dX σ s vW nb):dX σ s (vs++vW) (cs++nb):=by
 induction vs generalizing cs with
 |nil=>cases cs<;>simp_all[dX]
 |cons v vs ih =>
  cases cs with
  |nil=>simp[dX]at r
  |cons a cs=>exact⟨r.1,ih r.2⟩
def dX.take{σ:List aP}{s:St}{vs:List ah}{cs:List A}(r:dX σ s vs cs)(k:Nat):dX σ s (vs.take k) (cs.take k):=by
 induction vs generalizing cs k with
 |nil=>cases cs<;>simp_all[dX]
 |cons v vs ih =>
  cases cs with
  |nil=>simp[dX]at r
  |cons a cs=>cases k with
   |zero=>simp[dX]
   |succ k=>exact⟨r.1,ih r.2 k⟩
def dX.drop{σ:List aP}{s:St}{vs:List ah}{cs:List A}(r:dX σ s vs cs)(k:Nat):dX σ s (vs.drop k) (cs.drop k):=by
 induction vs generalizing cs k with
 |nil=>cases cs<;>simp_all[dX]
 |cons v vs ih =>
  cases cs with
  |nil=>simp[dX]at r
  |cons a cs=>cases k with
   |zero=>exact r
   |succ k=>simpa using ih r.2 k
theorem aF.block{σ:List aP}{s:St}(h:aF σ s){b o:Nat}{v:ah}(a:s.M b o=aa v):b<s.w.heap.size:=by
 have:=h.mem b o v a;rcases cC b s.w.heap.size with h|h
 .exact h
 .simp[aV,zp h]at this
theorem aF.same{σ:List aP}{s:St}(h:aF σ s){w':aA}(f:w'.heap=s.w.heap):aF σ {s with w:=w'}:=by
 have x:∀a,w'.cell? a=s.w.cell? a:=λa=>by simp[aV,f]
 have m:∀v a,gn σ s v a->gn σ {s with w:=w'} v a:=λv a r=>by cases a<;>exact r
 have g:∀vs al,dX σ s vs al->dX σ {s with w:=w'} vs al:=by
  intro vs;induction vs with
  |nil=>intro al r;cases al<;>simp_all[dX]
  |cons v vs ih=>intro al r;cases al with
   |nil=>simp[dX]at r
   |cons a al=>exact⟨m _ _ r.1,ih _ r.2⟩
 refine⟨λb o v p=>by rw[x];exact h.mem b o v p,h.len,?_,h.eB,λL g b d=>by show b<w'.heap.size;rw[f];exact h.lt L g b d,λb d=>⟨by show b<w'.heap.size;rw[f];exact(h.own b d).1,(h.own b d).2⟩⟩;intro l B L hB fe;have:=h.box l B L hB fe;cases B with
 |cells E cs =>
  obtain⟨b,vs,h1,h2,c,e⟩:=this;exact⟨b,vs,h1,by grind,g _ _ c,e⟩
 |vec E k n es =>
  obtain⟨h1,h2⟩:=this;refine⟨h1,?_⟩;grind
 |b8 H =>
  obtain⟨ch,h1,h2,c,e⟩:=this;exact⟨ch,h1,λb o d=>by grind,c,e⟩
 |dead=>trivial
 |loop N φ r =>
  obtain⟨l,tmps,fn,q,h1,h2,c,e,y⟩:=this;exact⟨l,tmps,fn,q,h1,by grind,c,λt=>dk.mono (s:=s) (σ':=σ) (s':={s with w:=w'}) ⟨λ_ _ _ h=>h,λ_ B L h i=>⟨B,L,h,i,.refl _ _⟩⟩ h.len (e t),y⟩
 |qT =>
  obtain⟨r,h1,h2,c⟩:=this;exact⟨r,h1,by grind,c⟩
 |buf E k n es =>
  rcases this with h1|⟨b,j,vs,u,h1,h2,c⟩
  .exact .inl h1
  .exact .inr ⟨b,j,vs,u,h1,by grind,c⟩
theorem Step.same{σ:List aP}{s:St}{w':aA}(g:w'.heap=s.w.heap)(e:w'.os=s.w.os)(f:w'.tape=s.w.tape)(d:w'.output=s.w.output):Step σ s σ {s with w:=w'} :=
 ⟨by grind,λb _ _=>by grind,λ_ _ _ h=>h,λ_ _ _ _=>rfl,λL h b a=>.inr ⟨L,h,a⟩,λ_ B L h c=>⟨B,L,h,c,.refl _ _⟩,e,f,d,rfl⟩
def et.carry{σ σ':List aP}{s s':St}{B:aP}{L:Loc}(d:Ext σ s σ' s')(hl:s.β.length=σ.length)(e:∀b∈L.bs,s'.w.heap[b]?=s.w.heap[b]?/\∀o,s'.M b o=s.M b o)(h:et σ s B L):et σ' s' B L:=by
 cases B with
 |cells E cs =>
  obtain⟨b,vs,h1,h2,a,c⟩:=h;subst h1;obtain⟨k1,f⟩:=e b (by simp);exact⟨b,vs,rfl,by grind,a.mono d hl,λo=>by grind⟩
 |vec E k n es =>
  obtain⟨h1,h2⟩:=h;refine⟨h1.mono d.mem,?_⟩;rcases h2 with⟨h2,a⟩|⟨b,cap,vs,h2,a,c,g⟩
  .exact .inl ⟨h2,a.mono d.mem⟩
  grind
 |b8 H =>
  obtain⟨ch,h1,h2,a,c⟩:=h;refine⟨ch,h1,λb o q=>?_,a,λb i o=>by grind⟩;grind
 |dead=>trivial
 |loop N φ r =>
  obtain⟨l,tmps,fn,p,h1,h2,a,c,g⟩:=h;subst h1;obtain⟨k1,f⟩:=e l (by simp);exact⟨l,tmps,fn,p,rfl,by grind,a,λt=>(c t).mono d hl,λo=>by grind⟩
 |qT =>
  obtain⟨r,h1,h2,a⟩:=h;subst h1;obtain⟨k1,f⟩:=e r (by simp);exact⟨r,rfl,by grind,λo=>by grind⟩
 |buf E k n es =>
  rcases h with h1|⟨b,j,vs,u,h1,h2,a,c,g,m,v⟩
  .exact .inl h1
  .subst h1;obtain⟨k1,f⟩:=e b (by simp);exact .inr ⟨b,j,vs,u,rfl,by grind,a,c,g,m.mono d.mem,λo=>by grind⟩
def St.fO(s:St)(E:aj)(vs:List ah):St :=
 {β:=s.β++[⟨.pointer (aa ⟨s.w.heap.size,0,ae⟩),[s.w.heap.size]⟩],M:=s.M,w:=s.w.alloc (.cells vs.toArray E),own:=s.own}
theorem cJ(w:aA)(o:Obj){b:Nat}(h:b<w.heap.size):(w.alloc o).heap[b]?=w.heap[b]?:=by show(w.heap.push o)[b]?=w.heap[b]?;grind
theorem dG(w:aA)(o:Obj):(w.alloc o).heap[w.heap.size]?=aa o:=by show(w.heap.push o)[w.heap.size]?=aa o;simp
def Step.fO{σ:List aP}(s:St)(E:aj)(vs:List ah)(B:aP):Step σ s (σ++[B]) (s.fO E vs):=by
 refine⟨by simp[St.fO],?_,λ_ _ _ h=>h,λ_ _ _ _=>rfl,?_,?_,rfl,rfl,rfl,rfl⟩
 .intro b d _;exact cJ _ _ d
 .intro L c b d;simp only[St.fO,fY,fX]at c;grind
 .intro l B' L a c;have hl:l<s.β.length:=(bY.1 c).1;have e:l<σ.length:=(bY.1 a).1;exact⟨B',L,by grind,by simp only[St.fO];grind,.refl _ _⟩
def aF.fO{σ:List aP}{s:St}(h:aF σ s){E:aj}{vs:List ah}{cs:List A}(r:dX σ s vs cs):aF (σ++[.cells E cs]) (s.fO E vs):=by
 have st:=Step.fO (σ:=σ) s E vs (.cells E cs);have g:(s.fO E vs).w.heap.size=s.w.heap.size+1:=by simp[St.fO]
 refine⟨?_,by simp[St.fO,h.len],?_,?_,?_,?_⟩
 .intro b o v d;have a:=h.block d;have:=h.mem b o v d;rw[<-this];simp only[aV,St.fO];grind[cJ]
 .intro l B L hB hL;rcases Nat.lt_trichotomy l σ.length with e|rfl|i
  .rw[jz e]at hB;simp only[St.fO]at hL;rw[jz (by rw[h.len];exact e)]at hL;refine(h.box l B L hB hL).carry st.ext h.len λb a=>⟨?_,λ_=>rfl⟩
   have:=h.lt L (bJ hL) b a;exact cJ _ _ this
  .simp at hB;subst hB;simp only[St.fO]at hL;rw[fT (by rw[h.len];grind)]at hL;simp[h.len]at hL;subst hL;refine⟨s.w.heap.size,vs,rfl,dG _ _,r.mono st.ext h.len,λo=>?_⟩;cases d:s.M s.w.heap.size o with
   |none=>exact d
   |some v=>have:=h.block d;omega
  grind
 .intro l l' L L' hL fe b a c;simp only[St.fO]at hL fe;have f:∀l L,(s.β++[⟨.pointer (aa ⟨s.w.heap.size,0,ae⟩),[s.w.heap.size]⟩])[l]?=aa L->(s.β[l]?=aa L)∨(l=s.β.length/\L.bs=[s.w.heap.size]):=by grind
  rcases f l L hL with h1|⟨rfl,h1⟩<;>rcases f l' L' fe with h2|⟨rfl,h2⟩
  .exact h.eB l l' L L' h1 h2 b a c
  .have:=h.lt L (bJ h1) b a;grind
  .have:=h.lt L' (bJ h2) b c;grind
  .rfl
 .intro L hL b a;rw[g];simp only[St.fO,fY,fX]at hL;rcases hL with hL|rfl
  .have:=h.lt L hL b a;omega
  grind
 .intro b a;obtain⟨j,k⟩:=h.own b a;refine⟨by grind,λL hL=>?_⟩;simp only[St.fO,fY,fX]at hL;grind
def aF.grow{σ:List aP}{s:St}(h:aF σ s){M':Mem}{w':aA}(c:s.w.heap.size<=w'.heap.size)(hk:∀b,b<s.w.heap.size->w'.heap[b]?=s.w.heap[b]?)(e:∀b,b<s.w.heap.size->∀o,M' b o=s.M b o)(m:∀b,s.w.heap.size<=b->∀o v,M' b o=aa v->w'.cell? ⟨b,o,ae⟩=aa v)(j:w'.os=s.w.os)(k:w'.tape=s.w.tape)(i:w'.output=s.w.output):aF σ ⟨s.β,M',w',s.own⟩/\Step σ s σ ⟨s.β,M',w',s.own⟩:=by
 have st:Step σ s σ ⟨s.β,M',w',s.own⟩ :=
  ⟨c,λb a _=>hk b a,λb o v f=>by rw[<-f];exact e b (h.block f) o,λb a _ o=>e b a o,λL h b a=>.inr ⟨L,h,a⟩,λ_ B L h g=>⟨B,L,h,g,.refl _ _⟩,j,k,i,rfl⟩
 refine⟨⟨?_,h.len,?_,h.eB,λL d b a=>cU (h.lt L d b a) c,λb a=>⟨cU (h.own b a).1 c,(h.own b a).2⟩⟩,st⟩
 .intro b o v f;rcases cC b s.w.heap.size with a|a
  .have hm':s.M b o=aa v:=by grind
   rw[<-h.mem b o v hm'];simp only[aV];grind
  grind
 .intro l B L hB d;exact(h.box l B L hB d).carry st.ext h.len λb a=>⟨hk b (h.lt L (bJ d) b a),λo=>e b (h.lt L (bJ d) b a) o⟩
def aF.write{σ:List aP}{s:St}(h:aF σ s){l b:Nat}{L:Loc}{E:aj}{cs nb:List A}{a:List ah}(hB:σ[l]?=aa (.cells E cs))(d:s.β[l]?=aa L)(g:L.bs=[b])(r:dX σ s a nb):aF (σ.set l (.cells E nb)) {s with w:=s.w.setRow b a.toArray}/\Step σ s (σ.set l (.cells E nb)) {s with w:=s.w.setRow b a.toArray}:=by
 have f:l<σ.length:=(bY.1 hB).1;obtain⟨j,vs,h1,h2,q,m⟩:=h.box l _ L hB d;subst h1;simp at g;subst g;have st:Step σ s (σ.set l (.cells E nb)) {s with w:=s.w.setRow j a.toArray}:=by
  refine⟨by simp,?_,λ_ _ _ h=>h,λ_ _ _ _=>rfl,λL h b c=>.inr ⟨L,h,c⟩,?_,rfl,rfl,rfl,rfl⟩
  .intro b c k;exact setRow_other _ _ _ _ (λe=>k _ (bJ d) (by simp[e]))
  .intro l' B L' j1 fe;by_cases e:l=l'
   .subst e;rw[hB]at j1;cases j1;exact⟨_,L',by rw[fV f],fe,by simp[gy]⟩
   .exact⟨B,L',by grind,fe,.refl _ _⟩
 refine⟨⟨?_,by simp[h.len],?_,h.eB,λL d b c=>by simpa using h.lt L d b c,λb c=>by simpa using h.own b c⟩,st⟩
 .intro b o v p;have n:b≠j:=λe=>by grind
  rw[<-h.mem b o v p];simp only[aV];grind[setRow_other]
 .intro l' B L' j1 fe;by_cases e:l=l'
  .subst e;rw[fV f]at j1;cases j1;rw[d]at fe;cases fe;exact⟨j,a,rfl,setRow_heap _ _ _ _ _ _ h2,r.mono st.ext h.len,m⟩
  .rw[j7 e]at j1;refine(h.box l' B L' j1 fe).carry st.ext h.len λb c=>⟨setRow_other _ _ _ _ λi=>?_,λ_=>rfl⟩
   subst i;exact e (h.eB l l' _ L' d fe b (by simp) c)
def RJ(σ:List aP)(s:St):Next->D->Prop
 |.value v,x=>dk σ s v x
 |.skip,x=>x=.any
 |_,_=>False
def bF(P:ar)(o:au)(c:ak->D)(σ:List aP)(x:D)(σ':List aP):Prop :=
 ∀s a,aF σ s->(∀y,dk σ s (a y) (c y))->∃b s',(aw a o).run P s.w=.ok b s'.w/\RJ σ' s' b x/\aF σ' s'/\Step σ s σ' s'/\eY s ((aw a o).events P s.w #[])
def bF.og{P:ar}{o:au}{b:ak->D}{σ:List aP}{x:D}(h:∀s a,aF σ s->(∀y,dk σ s (a y) (b y))->∃v,(aw a o).run P s.w=.ok (.value v) s.w/\dk σ s v x/\eY s ((aw a o).events P s.w #[])):bF P o b σ x σ :=
 λs a hh hr=>let ⟨v,h1,h2,c⟩:=h s a hh hr;⟨.value v,s,h1,h2,hh,.refl _ _,c⟩
def bF.quiet{P:ar}{o:au}{b:ak->D}{σ:List aP}{x:D}(h:∀s a,aF σ s->(∀y,dk σ s (a y) (b y))->∃v,(aw a o).run P s.w=.ok (.value v) s.w/\dk σ s v x/\(aw a o).events P s.w #[]=#[]):bF P o b σ x σ :=
 λs a hh hr=>let ⟨v,h1,h2,c⟩:=h s a hh hr;⟨.value v,s,h1,h2,hh,.refl _ _,by rw[c];exact .nil⟩
def N7:IntKind->Int->Bool
 |.i64,.ofNat m=>bu m 9223372036854775807
 |.i64,.negSucc m=>bu m 9223372036854775807
 |.u8,.ofNat m=>bu m 255
 |.i32,.ofNat m=>bu m 2147483647
 |.i32,.negSucc m=>bu m 2147483647
 |.u64,.ofNat m=>bu m 18446744073709551615
 |.u32,.ofNat m=>bu m 4294967295
 |_,_=>af
def RL{k:IntKind}{n:Int}(h:N7 k n=ab):bA k n:=by cases k<;>cases n<;>simp only[N7,bA]at h⊢<;>first|(cases h;done)|(have:=cV h;grind)
def qW:ah->Option C
 |.int k n=>cond (N7 k n) (aa (.int k n)) ae
 |.bool b=>aa (.bool b)
 |.string s=>cond (bu s.size 9223372036854775807) (aa (.str s.data.toList)) ae
 |.slice ae 0 0=>aa (.sl ab 0 0 (λ_=>[]))
 |.pointer ae=>aa .hY
 |.nilIface=>aa .iy
 |.nilFunc=>aa .x4
 |.map m=>aa (.val (.map m))
 |_=>ae
theorem Rd.jG{M:Mem}{t:Bool}{k:Nat}{a:Option Addr}{es:Nat->List C}:Rd M (.slice a 0 0) (.sl t k 0 es) :=
 Rd.sl 0 0 (λ_ _=>ai) (bh _) (by omega) (λ_=>rfl) (by omega) (by omega) (by omega) (by omega)
def Rd.qW{M:Mem}{v:ah}{c:C}(h:qW v=aa c):Rd M v c:=by
 unfold AM.qW at h;split at h<;>first
  |(rename_i k n;cases a:N7 k n<;>rw[a]at h<;>cases h;exact .int (RL a))
  |(rename_i s;cases a:bu s.size 9223372036854775807<;>rw[a]at h<;>cases h;exact .str rfl (by rw[ji];exact cV a))
  |(cases h;done)
  |(cases h;exact .bool)
  |(cases h;exact Rd.jG)
  |(cases h;exact .hY)
  |(cases h;exact .iy)
  |(cases h;exact .x4)
  |(cases h;exact .val rfl)
def dOf:Option C->D
 |some c=>.e (.one (.c c))
 |none=>.any
def bM(φ:Fr):ak->D
 |.tmp t=>look φ t
 |.const v=>dOf (qW v)
 |.func f=>.e (.one (.c (.fn (.func f) [] [])))
 |.global _=>.any
theorem cY{N:Nat}{σ:List aP}{s:St}{φ:Fr}{a:Act}(f:cm N σ s φ a)(y:ak):dk σ s (a.eval y) (bM φ y):=by
 cases y with
 |tmp t=>exact f.slot t
 |const v =>
  simp only[bM,Act.eval];cases h:qW v with
  |none=>trivial
  |some c=>exact Rd.qW h
 |func g =>
  exact Rd.fn [] [] rfl rfl (λ_=>ai) (λ_=>ai) (by simp) (by simp) (by simp) (by simp)
 |global g=>trivial
def km:Option Nat->D->Fr->Fr
 |some t,x,φ=>(t,x)::φ
 |none,_,φ=>φ
def rh{P:ar}{X:Cx P}{S:av->St->Prop}{b:aR}{k:List Item}{cs:List aR}{a:Act}{s:St}{ops:Array au}{i:Nat}{rest:List Nat}{o:au}(l:b.kind≠.early)(n:ops[i]?=aa o)(p:bd o (yielded ops a.tmps)=ab)(h:∀c,ck s c->∃d s' v,(aw a.eval o).run P c.w=.ok d s'.w/\(d=.value v∨(d=.skip/\v=ai))/\qS c s' ((aw a.eval o).events P c.w #[])/\fz X S (G (b.aT (a.put o.dst v) (.inRegion ops rest::k)) cs) s'):
  fz X S (G (b.aT a (.inRegion ops (i::rest)::k)) cs) s:=by refine .next rfl λc g=>?_;obtain⟨d,s',v,m,f,e,j⟩:=h c (X.iw g);refine⟨_,s',Go.Conc.listed P b.fn a o c.w,?_,⟨e.1,e.2.seen⟩,j⟩;grind[I7,Fy]
theorem bF.move{P:ar}{o:au}{a:ak->D}{σ:List aP}{x:ak}(h:o.op=.move x):bF P o a σ (a x) σ :=
 .quiet λs c _ b=>⟨c x,by simp[aw,h,pure],b x,by simp[aw,h]⟩
theorem bF.assign{P:ar}{o:au}{a:ak->D}{σ:List aP}{x:ak}(h:o.op=.assign x):bF P o a σ (a x) σ :=
 .quiet λs c _ b=>⟨c x,by simp[aw,h,pure],b x,by simp[aw,h]⟩
def eT{σ:List aP}{s:St}{v:ah}{c:C}(h:dk σ s v (.e (.one (.c c)))):Rd s.M v c:=h
def bF.pick{P:ar}{o:au}{f:ak->D}{σ:List aP}{c a b:ak}(h:o.op=.pick c a b){t:Bool}(j:f c=.e (.one (.c (.bool t)))):
  bF P o f σ (match t with|true=>f a|false=>f b) σ:=by
 refine .quiet λs g _ i=>?_;have h1:=i c;rw[j]at h1;have h2:=eT h1;generalize d:g c=v at h2;cases h2;cases t
 .exact⟨g b,by simp[aw,h,d,asBool],i b,by simp[aw,h,d,asBool]⟩
 .exact⟨g a,by simp[aw,h,d,asBool],i a,by simp[aw,h,d,asBool]⟩
def Kd(op:BinOp)(k:IntKind)(x y:Int):Option (C×List Prop) :=
 match op with
 |.add=>aa (.int k (x+y),[bA k (x+y)])
 |.sub=>aa (.int k (x-y),[bA k (x-y)])
 |.mul=>aa (.int k (x*y),[bA k (x*y)])
 |.quo=>aa (.int k (x / y),[0<=x,0<y])
 |.rem=>aa (.int k (x % y),[0<=x,0<y])
 |.eql=>aa (.bool (x==y),[])
 |.neq=>aa (.bool (x != y),[])
 |.lss=>aa (.bool (decide (x<y)),[])
 |.leq=>aa (.bool (decide (x<=y)),[])
 |.gtr=>aa (.bool (decide (y<x)),[])
 |.geq=>aa (.bool (decide (y<=x)),[])
 |_=>ae
def Ke(op:BinOp)(x y:List UInt8):Option (C×List Prop) :=
 match op with
 |.add=>aa (.str (x++y),[x.length+y.length<=9223372036854775807])
 |.eql=>aa (.bool (x==y),[])
 |.neq=>aa (.bool (!(x==y)),[])
 |.lss=>aa (.bool (bk x y),[])
 |.leq=>aa (.bool (bk x y||x==y),[])
 |.gtr=>aa (.bool (!(bk x y||x==y)),[])
 |.geq=>aa (.bool (!(bk x y)),[])
 |_=>ae
@[simp] def az:List Prop->Prop
 |[]=>True
 |[p]=>p
 |p::q::r=>p/\az (q::r)
def az.cons{p:Prop}{r:List Prop}:az (p::r)↔p/\az r:=by cases r<;>simp
theorem mv{k:IntKind}{n:Int}(h:bA k n):k.wrap n=n:=by cases k<;>simp only[bA,IntKind.wrap,IntKind.bits,IntKind.signed]at h⊢<;>simp<;>(try split)<;>omega
def Kf{P:ar}{w:aA}{op:BinOp}{k:IntKind}{x y:Int}{c:C}{obs:List Prop}(h:Kd op k x y=aa (c,obs))(a:az obs)(l:bA k x)(i:bA k y)(t:aj)(M:Mem):
  ∃v,(binOp op t (.int k x) (.int k y)).run P w=.ok v w/\Rd M v c:=by
 cases op<;>simp only[Kd,dn,lT,reduceCtorEq]at h
 case add=>obtain⟨rfl,rfl⟩:=h;exact⟨_,by simp only[binOp,dr,fa,b7,Op.intArith,mv a];rfl,.int a⟩
 case sub=>obtain⟨rfl,rfl⟩:=h;exact⟨_,by simp only[binOp,dr,fa,b7,Op.intArith,mv a];rfl,.int a⟩
 case mul=>obtain⟨rfl,rfl⟩:=h;exact⟨_,by simp only[binOp,dr,fa,b7,Op.intArith,mv a];rfl,.int a⟩
 case quo =>
  obtain⟨rfl,rfl⟩:=h;obtain⟨d,b⟩:=a;replace b:0<y:=b;have e:x.tdiv y=x / y:=Int.tdiv_eq_ediv_of_nonneg d;have f:bA k (x / y):=by have j:0<=x / y:=Int.ediv_nonneg d (by omega);have g:x / y<=x:=Int.ediv_le_self _ d;cases k<;>simp only[bA]at l⊢<;>omega
  exact⟨_,by simp only[binOp,dr,fa,b7,Op.intDiv,show y≠0 by omega,e,mv f];rfl,.int f⟩
 case rem =>
  obtain⟨rfl,rfl⟩:=h;obtain⟨d,b⟩:=a;replace b:0<y:=b;have e:x.tmod y=x % y:=Int.tmod_eq_emod_of_nonneg d;have f:bA k (x % y):=by have j:0<=x % y:=pV _ (by omega);have g:x % y<y:=pR _ b;cases k<;>simp only[bA]at i⊢<;>omega
  exact⟨_,by simp only[binOp,dr,fa,b7,Op.intDiv,show y≠0 by omega,e];rfl,.int f⟩
 all_goals (obtain⟨rfl,rfl⟩:=h;exact⟨_,by simp only[binOp,dr,fa,b7,Op.intCmp,gt_iff_lt,ge_iff_le];rfl,.bool⟩)
def Kg{P:ar}{w:aA}{op:BinOp}{x y:ByteArray}{a b:List UInt8}{c:C}{obs:List Prop}(h:Ke op a b=aa (c,obs))(d:az obs)(j:x.data.toList=a)(g:y.data.toList=b)(t:aj)(M:Mem):
  ∃v,(binOp op t (.string x) (.string y)).run P w=.ok v w/\Rd M v c:=by
 subst j g;cases op<;>simp only[Ke,dn,lT,reduceCtorEq]at h
 case add =>
  obtain⟨rfl,rfl⟩:=h;have f:¬((x.size+y.size:Nat):Int)>IntKind.i64.max:=by have k:x.data.toList.length=x.size:=ji;have l:y.data.toList.length=y.size:=ji;have e:IntKind.i64.max=9223372036854775807:=rfl;have i:x.data.toList.length+y.data.toList.length<=9223372036854775807:=d;grind
  refine⟨_,by simp only[binOp,Op.stringOp,f,b7];rfl,.str (by simp) (by simpa using d)⟩
 all_goals (obtain⟨rfl,rfl⟩:=h;exact⟨_,by simp only[binOp,Op.stringOp,ByteArray.toList_eq];rfl,.bool⟩)
def N8{P:ar}{w:aA}{op:BinOp}{k:IntKind}{x y:Int}{c:C}{obs:List Prop}(h:Kd op k x y=aa (c,obs))(b:az obs)(t:aj):
  (binOp op t (.int k x) (.int k y)).events P w #[]=#[]:=by
 cases op<;>simp only[Kd,dn,lT,reduceCtorEq]at h
 case quo =>
  obtain⟨rfl,rfl⟩:=h;obtain⟨d,a⟩:=b;replace a:0<y:=a;simp only[binOp,dr,fa,b7,Op.intDiv,show y≠0 by omega];rfl
 case rem =>
  obtain⟨rfl,rfl⟩:=h;obtain⟨d,a⟩:=b;replace a:0<y:=a;simp only[binOp,dr,fa,b7,Op.intDiv,show y≠0 by omega];rfl
 all_goals (simp only[binOp,dr,fa,b7,Op.intCmp,Op.intArith];rfl)
def N9{P:ar}{w:aA}{op:BinOp}{x y:ByteArray}{a b:List UInt8}{c:C}{obs:List Prop}(h:Ke op a b=aa (c,obs))(i:az obs)(j:x.data.toList=a)(f:y.data.toList=b)(t:aj):
  (binOp op t (.string x) (.string y)).events P w #[]=#[]:=by
 subst j f;cases op<;>simp only[Ke,dn,lT,reduceCtorEq]at h
 case add =>
  obtain⟨rfl,rfl⟩:=h;have d:¬((x.size+y.size:Nat):Int)>IntKind.i64.max:=by have k:x.data.toList.length=x.size:=ji;have l:y.data.toList.length=y.size:=ji;have e:IntKind.i64.max=9223372036854775807:=rfl;have g:x.data.toList.length+y.data.toList.length<=9223372036854775807:=i;grind
  simp only[binOp,Op.stringOp,d,b7];rfl
 all_goals (simp only[binOp,Op.stringOp];rfl)
def Ht:IntKind->IntKind->Bool
 |.i8,.i8|.i16,.i16|.i32,.i32|.i64,.i64|.u8,.u8|.u16,.u16|.u32,.u32|.u64,.u64=>ab
 |_,_=>af
def Ab{k k':IntKind}(h:Ht k k'=ab):k=k':=by cases k<;>cases k'<;>first|rfl|(cases h;done)
def ND(op:BinOp):C->C->Option (C×List Prop)
 |.int k x,.int k' y=>cond (Ht k k') (Kd op k x y) ae
 |.str a,.str b=>Ke op a b
 |_,_=>ae
def gN{P:ar}(op:BinOp)(t:aj)(x y:ak)(k k':IntKind)(n a:Int)(u:aA):(eqGuard op t x y (.int k n) (.int k' a)).run P u=.ok () u:=by cases op<;>rfl
def uk{P:ar}(op:BinOp)(t:aj)(x y:ak)(a b:ByteArray)(u:aA):(eqGuard op t x y (.string a) (.string b)).run P u=.ok () u:=by cases op<;>rfl
def jH{P:ar}(op:BinOp)(t:aj)(x y:ak)(k k':IntKind)(n a:Int)(u:aA)(es:Array Event):(eqGuard op t x y (.int k n) (.int k' a)).events P u es=es:=by cases op<;>rfl
def wS{P:ar}(op:BinOp)(t:aj)(x y:ak)(a b:ByteArray)(u:aA)(es:Array Event):(eqGuard op t x y (.string a) (.string b)).events P u es=es:=by cases op<;>rfl
theorem bF.binOp{P:ar}{o:au}{p:ak->D}{σ:List aP}{op:BinOp}{t ty:aj}{x y:ak}(h:o.op=.binOp op t x y ty){a b c:C}{obs:List Prop}(B:p x=.e (.one (.c a)))(z:p y=.e (.one (.c b)))(g:ND op a b=aa (c,obs))(i:az obs):bF P o p σ (.e (.one (.c c))) σ:=by
 refine .quiet λs q _ r=>?_;have h1:=r x;have h2:=r y;rw[B]at h1;rw[z]at h2;replace h1:=eT h1;replace h2:=eT h2;generalize d:q x=vx at h1;generalize f:q y=vy at h2;cases h1<;>cases h2<;>simp only[ND,reduceCtorEq]at g
 case int.int k n A k' n' hn' =>
  cases hk:Ht k k'<;>simp only[hk,cond,reduceCtorEq]at g
  cases Ab hk;obtain⟨v,j,m⟩:=Kf (P:=P) (w:=s.w) g i A hn' t s.M;exact⟨v,by simp only[aw,h,bL,d,f,gN,bU,j,dq],m,by simp[aw,h,d,f,gN,jH,N8 g i]⟩
 case str.str =>
  rename_i E l u hl y' l' hy Dq;obtain⟨v,j,m⟩:=Kg (P:=P) (w:=s.w) g i u hy t s.M;exact⟨v,by simp only[aw,h,bL,d,f,uk,bU,j,dq],m,by simp[aw,h,d,f,uk,wS,N9 g i u hy]⟩
def W6(op:UnOp):C->Option C
 |.bool b=>match op with|.not=>aa (.bool (!b))|_=>ae
 |_=>ae
theorem bF.unOp{P:ar}{o:au}{f:ak->D}{σ:List aP}{op:UnOp}{t:aj}{x:ak}(h:o.op=.unOp op t x){a c:C}(j:f x=.e (.one (.c a)))(d:W6 op a=aa c):bF P o f σ (.e (.one (.c c))) σ:=by
 refine .quiet λs g _ i=>?_;have h1:=i x;rw[j]at h1;replace h1:=eT h1;generalize b:g x=vx at h1;cases h1<;>simp only[W6,reduceCtorEq]at d
 cases op<;>simp only[reduceCtorEq,dn]at d
 subst d;exact⟨_,by simp only[aw,h,b,Op.unary,bL,dq,bU],Rd.bool,by simp[aw,h,b,Op.unary]⟩
theorem g6.get{σ:List aP}{s:St}{vs:List ah}{xs:List E1}(r:g6 σ s vs xs){j:Nat}{x:E1}(h:xs[j]?=aa x):∃v,vs[j]?=aa v/\m8 σ s v x:=by
 induction vs generalizing xs j with
 |nil=>cases xs<;>simp_all[g6]
 |cons v vs ih =>
  cases xs with
  |nil=>grind
  |cons b cs =>
   cases j with
   |zero=>simp at h;subst h;exact⟨v,rfl,r.1⟩
   |succ j=>simp at h;obtain⟨u,a,c⟩:=ih r.2 h;grind
theorem bF.extract{P:ar}{o:au}{c:ak->D}{σ:List aP}{x:ak}{j:Nat}(h:o.op=.extract x j){xs:List E1}{e:E1}(i:c x=.eX xs)(f:xs[j]?=aa e):bF P o c σ (.e e) σ:=by refine .quiet λs l _ g=>?_;have h1:=g x;rw[i]at h1;obtain⟨vs,d,k⟩:=h1;obtain⟨v,a,b⟩:=k.get f;refine⟨v,?_,b,?_⟩<;>simp[aw,h,d,Instr.extract,a]
def zx(b o:Nat):Event:=⟨.cell ⟨b,o,ae⟩,af,af⟩
def Hb(b o:Nat):Event:=⟨.cell ⟨b,o,ae⟩,ab,af⟩
theorem dm(b o n:Nat):(⟨b,o,ae⟩:Addr).add n=⟨b,o+n,ae⟩:=by unfold Addr.add;split<;>simp_all
section
variable {P:ar}
def zA{w:aA}{b o:Nat}{v:ah}(h:w.cell? ⟨b,o,ae⟩=aa v)(es:Array Event):(load ⟨b,o,ae⟩).events P w es=es.push (zx b o):=by rw[events_load,h];rfl
def nw{w:aA}{b o:Nat}:∀(n i:Nat) (acc:Array ah) (es:Array Event),(∀j,j<n->∃v,w.cell? ⟨b,o+(i+j),ae⟩=aa v) ->
    ∀e∈(loadCellsFrom ⟨b,o,ae⟩ i n acc).events P w es,e∈es∨∃j,j<i+n/\e=zx b (o+j)
  | 0,i,acc,es,_=>λe h=>.inl (by simpa[loadCellsFrom]using h)
  | n+1,i,acc,es,c=>λe h=>by
    obtain⟨v,a⟩:=c 0 (by omega);simp only[ir]at a;simp only[loadCellsFrom,aM,dm,run_load,a,aO,zA a]at h;rcases nw n (i+1) (acc.push v) _ (λj d=>by grind) e h with f|⟨j,d,rfl⟩
    · grind
    grind
def rS{w:aA}{b o n:Nat}{es:Array Event}(h:∀j,j<n->∃v,w.cell? ⟨b,o+j,ae⟩=aa v):∀e∈(loadCells ⟨b,o,ae⟩ n).events P w es,e∈es∨∃j,j<n/\e=zx b (o+j):=by intro e a;have:=nw (P:=P) n 0 #[] es (by grind) e a;grind
def dE{b o:Nat}{t:aj}:∀(vs:List ah) (i:Nat) (a:Array ah) (w:aA) (es:Array Event),w.heap[b]?=aa (.cells a t (0,0))->o+i+vs.length<=a.size->(∀v∈vs,v.oneCell'=ab) ->
    ∀e∈(storeCells ⟨b,o,ae⟩ vs i).events P w es,e∈es∨∃j,i<=j/\j<i+vs.length/\e=Hb b (o+j)
  | [],_,_,_,_,_,_,_=>λe h=>.inl (by simpa[storeCells]using h)
  | v::rest,i,a,w,es,f,m,l=>λe h=>by
    have hi:o+i<a.size:=by grind
    have c:w.cell? ⟨b,o+i,ae⟩=aa a[o+i]:=by simp[aV,f,hi]
    have d:w.frozen? ⟨b,o+i,ae⟩=af:=by simp[World.frozen?,f]
    have g:(store (⟨b,o+i,ae⟩:Addr) v).run P w=.ok () (w.setRow b (a.setIfInBounds (o+i) v)):=by grind[run_store,setCell_eq_setRow]
    have k:(store (⟨b,o+i,ae⟩:Addr) v).events P w es=es.push (Hb b (o+i)):=by rw[events_store P w es _ v _ (l v (by simp)),c];simp only[d,jA,b7];rfl
    simp only[storeCells,aM,dm,g,k,aO]at h;rcases dE rest (i+1) (a.setIfInBounds (o+i) v) _ _ (setRow_heap _ _ _ _ _ _ f) (by grind) (λu p=>l u (by grind)) e h with r|⟨j,n,q,rfl⟩
    · grind
    grind
def c7{α:Type}(P:ar)(m:Sem α):Prop:=∀w es,m.events P w es=es
def c7.bind{α β:Type}{m:Sem α}{f:α->Sem β}(h:c7 P m)(k:∀a,c7 P (f a)):c7 P (m >>= f):=by
  intro w es;rw[aM,h w es];cases m.run P w with
  | ok a w'=>exact k a w' es
  | halt x w'=>rfl
def c7.pure{α:Type}{a:α}:c7 P (Pure.pure a:Sem α):=λ_ _=>rfl
def c7.stuck{α:Type}{a:String}:c7 P (Go.stuck a:Sem α):=λ_ _=>rfl
def c7.unsupported{α:Type}{u:Unsupported}:c7 P (Go.unsupported u:Sem α):=λ_ _=>rfl
def c7.sizeOf{t:aj}:c7 P (sizeOf t):=λ_ _=>events_sizeOf ..
def c7.underlying{t:aj}:c7 P (underlying t):=λ_ _=>events_underlying ..
def c7.zeroValue{t:aj}:c7 P (zeroValue t):=λ_ _=>events_zeroValue ..
def c7.newObj{o:Obj}:c7 P (newObj o):=λ_ _=>rfl
def c7.newRow{t:aj}{c:Array ah}:c7 P (newRow t c):=.bind .newObj λ_=>.pure
def c7.PW{α β:Type}{f:α->Sem β}(h:∀a,c7 P (f a)):∀l:List α,c7 P (l.mapM f)
  | []=>by rw[List.mapM_nil];exact .pure
  | a::l=>by rw[n6];exact .bind (h a) λ_=>.bind (c7.PW h l) λ_=>.pure
def c7.map{α β:Type}{f:α->β}{m:Sem α}(h:c7 P m):c7 P (Functor.map f m):=λw es=>by rw[Sem.events_map];exact h w es
def c7.Uw{α β:Type}{f:α->Sem β}(h:∀a,c7 P (f a))(l:Array α):c7 P (l.mapM f):=by rw[qO];exact .map (.PW h _)
def c7.Jx{α β:Type}{F:α->β->Sem (ForInStep β)}(h:∀a b,c7 P (F a b)):∀(l:List α) (b:β),c7 P (forIn l b F)
  | [],b=>by rw[List.forIn_nil];exact .pure
  | a::l,b=>by
    rw[List.forIn_cons];refine .bind (h a b) λr=>?_;cases r with
    | done b=>exact .pure
    | yield b=>exact c7.Jx h l b
theorem c7.build{t:aj}{parts:Array (Nat×ah)}:c7 P (Instr.build t parts):=by
  unfold Instr.build;refine .bind .zeroValue λz=>.bind .underlying λd=>?_;cases d<;>first
    | exact .stuck
    | (refine .bind (.Uw (λ_=>.bind .sizeOf λ_=>.pure) _) λpl=>?_
       split
       · exact .pure
       · exact .stuck)
    | (refine .bind .sizeOf λn=>?_
       split
       · exact .pure
       · exact .stuck)
theorem c7.buildSlice{t:aj}{n:Nat}{parts:Array (Nat×ah)}:c7 P (Instr.buildSlice t n parts):=by
  unfold Instr.buildSlice;refine .bind .underlying λd=>?_;cases d<;>first
    | exact .stuck
    | (refine .bind .sizeOf λm=>?_
       dsimp only
       have hj:∀(elem:aj) (zero:Array ah),c7 P (match Instr.fill (λi=>aa (i*m,m)) (Array.map (λx=>zero[x % zero.size]!) (Array.range (n*m))) parts.toList with
          | some cells=>do
            let a<-Go.newRow elem cells
            Pure.pure (Value.slice (aa a) n n)
          | _=>Go.stuck "buildSlice: a part of the wrong size"):=by
         intro elem zero;split
         · exact .bind .newRow λ_=>.pure
         · exact .stuck
       by_cases b:n*m=0
       · simp only[b,cj]
         rw[b]at hj;split
         · grind
         · exact .bind .pure λz=>hj _ z
       · simp only[b,b7]
         split
         · exact .bind .unsupported λ_=>.bind .zeroValue λz=>.bind .pure λz=>hj _ z
         · exact .bind .zeroValue λz=>.bind .pure λz=>hj _ z)
def jI{s:St}{b o:Nat}{L:Loc}(c:L∈s.β)(a:b∈L.bs):od s (zx b o):=⟨rfl,rfl,.inr (.inl ⟨⟨L,c,a⟩,λh=>by cases h⟩)⟩
def Bn{s:St}{b o:Nat}{v:ah}(h:s.M b o=aa v):od s (zx b o):=⟨rfl,rfl,.inr (.inr ⟨rfl,v,h⟩)⟩
theorem jF{s:St}{b o:Nat}{L:Loc}(d:L∈s.β)(c:b∈L.bs)(a:s.M b o=ae):od s (Hb b o):=⟨rfl,rfl,.inr (.inl ⟨⟨L,d,c⟩,λ_=>a⟩)⟩
end
structure TI where
 size:Nat
 bytes:Nat
 agg:Bool
 desc:TypeDesc
 zero:List C
 eq:List TypeDesc:=[]
def rm:TypeDesc->ah->ah->Option Bool
 |.int _,.int k a,.int k' b=>if k=k' then aa (a==b)else ae
 |.string,.string a,.string b=>aa (a.toList==b.toList)
 |.bool,.bool a,.bool b=>aa (a==b)
 |_,_,_=>ae
def jR:List TypeDesc->List ah->List ah->Option Bool
 |[],[],[]=>aa ab
 |d::ds,v::vs,w::ws=>match rm d v w with
  |some a=>match jR ds vs ws with
   |some b=>aa (a&&b)
   |none=>ae
  |none=>ae
 |_,_,_=>ae
def Ai:TypeDesc->Bool
 |.struct _|.array _ _=>ab
 |_=>af
structure dy(P:ar)(t:aj)(i:TI):Prop where
 TE:P.underlying t=aa i.desc
 agg:Ai i.desc=i.agg
 info:∃inf z,P.info? t=aa inf/\inf.size=i.size/\inf.bytes=i.bytes/\inf.zero=aa z/\z.cells.toList.map qW=i.zero.map aa/\(∃cs,z=if i.agg then .agg cs else z)/\i.zero.length=i.size
 eqs:i.eq≠[]->P.eqGuardType P.depth t=af/\∀(w:aA) (vs ws:List ah) (b:Bool),jR i.eq vs ws=aa b->(Op.equal t (.agg vs.toArray) (.agg ws.toArray)).run P w=.ok b w/\∀es,(Op.equal t (.agg vs.toArray) (.agg ws.toArray)).events P w es=es
def bD:List (Nat×TI)->Nat->Option TI
 |[],_=>ae
 |(i,d)::r,t=>cond (aB i t) (aa d) (bD r t)
def cO(P:ar)(T:List (Nat×TI)):Prop:=∀t i,bD T t=aa i->dy P t i
section
variable {P:ar}{w:aA}{t:aj}{i:TI}
def dy.run_underlying(h:dy P t i):(underlying t).run P w=.ok i.desc w:=by simp[underlying,h.TE]
def dy.kl(h:dy P t i):(isAgg t).run P w=.ok i.agg w:=by have:=h.agg;unfold Go.isAgg;rw[bL,h.run_underlying];cases a:i.desc<;>rw[a]at this<;>simp[Ai]at this<;>simp[this]
def dy.run_sizeOf(h:dy P t i):(sizeOf t).run P w=.ok i.size w:=by obtain⟨a,z,h1,h2,_⟩:=h.info;simp[sizeOf,typeInfo,h1,h2]
def kJ{σ:List aP}{s:St}:∀{vs:List ah}{cs:List C},vs.map qW=cs.map aa->dX σ s vs (cs.map A.c)
 |[],[],_=>trivial
 |[],_::_,h=>by grind
 |_::_,[],h=>by grind
 |v::vs,c::cs,h=>by simp only[pX,List.cons.injEq]at h;exact⟨Rd.qW h.1,kJ h.2⟩
def dy.B5(h:dy P t i)(σ:List aP)(s:St):∃z,(zeroValue t).run P w=.ok z w/\dX σ s z.cells.toList (i.zero.map A.c):=by obtain⟨d,z,h1,h2,e,b,a,_⟩:=h.info;exact⟨z,by simp[zeroValue,typeInfo,h1,b],kJ a⟩
end
def kn:D->Option (List A)
 |.e (.one a)=>aa [a]
 |.e (.agg cs)=>aa cs
 |_=>ae
theorem lO{σ:List aP}{s:St}{v:ah}{d:D}{cs:List A}(h:kn d=aa cs)(r:dk σ s v d):dX σ s v.cells.toList cs:=by
 cases d with
 |e x =>
  cases x with
  |one a =>
   cases h;have:=gn.cell r;cases v<;>first|exact⟨r,ay⟩|cases this
  |agg c =>
   cases h;obtain⟨vs,rfl,b⟩:=r;simpa[Value.cells]using b
 |eX xs=>cases h
 |any=>cases h
def bF.newVar{P:ar}{o:au}{b:ak->D}{σ:List aP}{E:aj}{cs:List A}(h:∀s a,aF σ s->(∀y,dk σ s (a y) (b y))->∃v:ah,(aw a o).run P s.w=((do pure (.value (.pointer (aa (<-newVar E v))))):Sem Next).run P s.w/\dX σ s v.cells.toList cs/\(aw a o).events P s.w #[]=#[]):
  bF P o b σ (.e (.one (.ptr σ.length 0))) (σ++[.cells E cs]):=by
 intro s a hh hr;obtain⟨v,h1,h2,c⟩:=h s a hh hr;refine⟨.value (.pointer (aa ⟨s.w.heap.size,0,ae⟩)),s.fO E v.cells.toList,?_,?_,hh.fO h2,.fO s E _ _,by rw[c];exact .nil⟩
 .rw[h1];simp[Go.newVar,newRow,St.fO]
 .refine⟨by simp,⟨.pointer (aa ⟨s.w.heap.size,0,ae⟩),[s.w.heap.size]⟩,s.w.heap.size,?_,rfl,rfl⟩;simp[St.fO,<-hh.len]
theorem bF.alloc{P:ar}{T:List (Nat×TI)}(hT:cO P T){o:au}{d:ak->D}{σ:List aP}{E:aj}(h:o.op=.alloc E){i:TI}(hi:bD T E=aa i):
  bF P o d σ (.e (.one (.ptr σ.length 0))) (σ++[.cells E (i.zero.map A.c)]):=by refine .newVar λs f _ _=>?_;obtain⟨z,a,b⟩:=(hT E i hi).B5 (w:=s.w) σ s;exact⟨z,by simp[aw,h,Instr.alloc,a],b,by simp[aw,h,Instr.alloc,a,Go.newVar,newRow]⟩
theorem bF.box{P:ar}{o:au}{a:ak->D}{σ:List aP}{E:aj}{x:ak}(h:o.op=.box E x){cs:List A}(c:kn (a x)=aa cs):
  bF P o a σ (.e (.one (.ptr σ.length 0))) (σ++[.cells E cs]) :=
 .newVar λs d _ b=>⟨d x,by simp[aw,h,Instr.box],lO c (b x),by simp[aw,h,Instr.box,Go.newVar,newRow]⟩
def oF{α:Type}:Nat->List α->Option (List α)
 |0,_=>aa []
 |n+1,x::xs=>match oF n xs with|some r=>aa (x::r)|none=>ae
 |_+1,[]=>ae
def nn{α:Type}:∀{n:Nat}{l r:List α},oF n l=aa r->r=l.take n/\r.length=n
 |0,l,r,h=>by cases h;simp
 |n+1,[],r,h=>by simp[oF]at h
 |n+1,x::xs,r,h=>by
  simp only[oF]at h;cases a:oF n xs with
  |none=>grind
  |some q =>
   simp[a]at h;subst h;obtain⟨c,b⟩:=nn a;grind
def du{α:Type}:Nat->List α->Option α
 |_,[]=>ae
 |0,x::_=>aa x
 |n+1,_::xs=>du n xs
theorem bZ{α:Type}:∀{n:Nat}{l:List α}{x:α},du n l=aa x->l[n]?=aa x
 |_,[],_,h=>by simp[du]at h
 |0,x::_,_,h=>by simpa[du]using h
 |n+1,_::xs,_,h=>by simpa using bZ (n:=n) (l:=xs) h
def fK{α:Type}:Nat->List α->List α
 |0,l=>l
 |_+1,[]=>[]
 |n+1,_::xs=>fK n xs
def l5{α:Type}:∀(n:Nat)(l:List α),fK n l=l.drop n
 |0,_=>by simp[fK]
 |_+1,[]=>by simp[fK]
 |n+1,_::xs=>by simp[fK,l5 n xs]
def kN(i:TI)(cs:List A):Option E1 :=
 match i.agg with
 |true=>match oF i.size cs with|some r=>aa (.agg r)|none=>ae
 |false=>match du 0 cs with|some a=>aa (.one a)|none=>ae
def iB{P:ar}{σ:List aP}{s:St}{t:aj}{i:TI}(k:dy P t i){b off:Nat}{vs:List ah}{cs:List A}{e:E1}(x:∀(j:Nat) (v:ah),vs[j]?=aa v->s.w.cell? ⟨b,off+j,ae⟩=aa v)(l:dX σ s vs cs)(d:kN i cs=aa e):
  ∃v,(loadVar t ⟨b,off,ae⟩).run P s.w=.ok v s.w/\m8 σ s v e:=by
 simp only[loadVar,bL,k.kl,bU];cases o:i.agg<;>simp only[kN,o]at d
 .cases f:du 0 cs with
  |none=>grind
  |some a =>
   simp[f]at d;subst d;obtain⟨v,q,h⟩:=l.get (bZ f);refine⟨v,?_,h⟩;grind[run_load]
 .cases f:oF i.size cs with
  |none=>grind
  |some r =>
   simp[f]at d;subst d;obtain⟨n,p⟩:=nn f;have c:=l.take i.size;rw[<-n]at c;have m:(vs.take i.size).length=i.size:=by rw[c.length,p]
   have g:=run_loadCells_list (P:=P) s.w ⟨b,off,ae⟩ (vs.take i.size) (λj v u=>by grind[dm])
   rw[m]at g;refine⟨.agg (vs.take i.size).toArray,?_,vs.take i.size,rfl,c⟩;simp[k.run_sizeOf,g]
def ga{P:ar}{w:aA}{t:aj}{i:TI}(f:dy P t i){b off n:Nat}(k:∀j,j<n->∃v,w.cell? ⟨b,off+j,ae⟩=aa v)(c:(if i.agg then i.size else 1)<=n):
  ∀e∈(loadVar t ⟨b,off,ae⟩).events P w #[],∃j,j<n/\e=zx b (off+j):=by
 intro e a;simp only[loadVar,aM,f.kl,aO,events_isAgg]at a;cases g:i.agg
 .rw[g]at c a;obtain⟨v,d⟩:=k 0 (by grind);simp only[ir]at d;simp only[jA,b7,zA d]at a;rcases Array.mem_push.1 a with h|rfl
  .grind
  .exact⟨0,by grind,rfl⟩
 .rw[g]at c a;simp only[cj]at c;simp only[cj,aM,f.run_sizeOf,aO,events_sizeOf]at a;have key:∀e∈(loadCells ⟨b,off,ae⟩ i.size).events P w #[],∃j,j<n/\e=zx b (off+j):=by
   intro e a;rcases rS (P:=P) (λj l=>k j (by omega)) e a with h|⟨j,l,rfl⟩
   .grind
   grind
  apply key;generalize(loadCells ⟨b,off,ae⟩ i.size).run P w=r at a;cases r with
  |ok v w'=>simpa using a
  |halt x w'=>simpa using a
theorem kO{i:TI}{cs:List A}{e:E1}(h:kN i cs=aa e):(if i.agg then i.size else 1)<=cs.length:=by
 unfold kN at h;cases a:i.agg<;>rw[a]at h
 .cases cs with
  |nil=>simp[du]at h
  |cons c cs=>simp
 .simp only at h;cases b:oF i.size cs with
  |none=>grind
  |some r =>
   obtain⟨f,d⟩:=nn b;grind
theorem bF.FN{P:ar}{T:List (Nat×TI)}(hT:cO P T){o:au}{B:ak->D}{σ:List aP}{t:aj}{x:ak}(h:o.op=.load t x){l off:Nat}{E:aj}{cs:List A}{i:TI}{e:E1}(F:B x=.e (.one (.ptr l off)))(hB:σ[l]?=aa (.cells E cs))(hi:bD T t=aa i)(q:kN i (fK off cs)=aa e):bF P o B σ (.e e) σ:=by
 refine .og λs C hh hr=>?_
 have h1:=hr x;rw[F]at h1;obtain⟨_,L,b,z,g,p⟩:=h1;obtain⟨m,vs,rfl,u,c,_⟩:=hh.box l _ L hB z;simp at g;subst g;rw[l5]at q;obtain⟨v,a,k⟩:=iB (s:=s) (σ:=σ) (P:=P) (hT t i hi) (b:=m) (off:=off) (vs:=vs.drop off) (cs:=cs.drop off) (e:=e) (λj v hj=>by
  simp only[aV,u]
  grind) (c.drop off) q
 refine⟨v,by simp[aw,h,p,Instr.loadAt,bo,a],k,λy d=>?_⟩;have f:y∈(loadVar t ⟨m,off,ae⟩).events P s.w #[]:=by
  have e:aw C o=(do pure (.value (<-loadVar t ⟨m,off,ae⟩))):=by simp[aw,h,p,Instr.loadAt,bo]
  rw[e]at d;simpa[a]using d
 have r:(vs.drop off).length=(cs.drop off).length:=(c.drop off).length;obtain⟨j,hj,rfl⟩:=ga (hT t i hi) (n:=(vs.drop off).length) (λj hj=>by refine⟨(vs.drop off)[j],?_⟩;simp only[aV,u];simp at hj⊢<;>omega) (by grind[kO]) y f
 exact jI (bJ z) (by simp)
theorem bF.JF{P:ar}{T:List (Nat×TI)}(hT:cO P T){o:au}{E:ak->D}{σ:List aP}{t:aj}{x:ak}(h:o.op=.load t x){cs:List C}{i:TI}{e:E1}(G:E x=.e (.one (.c (.rp cs))))(hi:bD T t=aa i)(u:kN i (cs.map A.c)=aa e):bF P o E σ (.e e) σ:=by
 refine .og λs y hh hr=>?_;have h1:=hr x;rw[G]at h1;have h2:=eT h1;generalize a:y x=vx at h2;cases h2;rename_i b off f q F;have r:∀(n:Nat) (ds:List C),(∀j c,ds[j]?=aa c->Rd s.M (f (n+j)) c)->dX σ s ((bg ds.length).map λj=>f (n+j)) (ds.map A.c):=by
  intro n ds;induction ds generalizing n with
  |nil=>intro _;trivial
  |cons d ds ih =>
   intro z;rw[eU,uZ];refine⟨z 0 d rfl,?_⟩;have:=ih (n+1) (λj c hj=>by have:=z (j+1) c (by grind);grind);grind[Function.comp_def]
 obtain⟨v,g,p⟩:=iB (s:=s) (σ:=σ) (P:=P) (hT t i hi) (b:=b) (off:=off) (vs:=(bg cs.length).map λj=>f (0+j)) (cs:=cs.map A.c) (e:=e) (λj v hj=>by
  simp only[mV,bC]at hj;by_cases k:j<cs.length
  .simp[k]at hj;subst hj;exact hh.mem _ _ _ (q j cs[j] (br k))
  grind) (r 0 cs (by grind)) u
 refine⟨v,by simp[aw,h,a,Instr.loadAt,bo,g],p,λB l=>?_⟩;have m:B∈(loadVar t ⟨b,off,ae⟩).events P s.w #[]:=by
  have e:aw y o=(do pure (.value (<-loadVar t ⟨b,off,ae⟩))):=by simp[aw,h,a,Instr.loadAt,bo]
  rw[e]at l;simpa[g]using l
 obtain⟨j,hj,rfl⟩:=ga (hT t i hi) (n:=cs.length) (λj hj=>⟨f j,hh.mem _ _ _ (q j cs[j] (br hj))⟩) (by have:=kO u;grind) B m;exact Bn (q j cs[j] (br hj))
def fi{α:Type}:Nat->List α->List α->Option (List α)
 |0,[],l=>aa l
 |0,n::ns,_::cs=>match fi 0 ns cs with|some r=>aa (n::r)|none=>ae
 |k+1,ns,c::cs=>match fi k ns cs with|some r=>aa (c::r)|none=>ae
 |_,_,[]=>ae
def qm{α:Type}:∀{off:Nat}{new l r:List α},fi off new l=aa r->off+new.length<=l.length/\r=l.take off++new++l.drop (off+new.length)
 |0,[],l,r,h=>by cases l<;>cases h<;>simp
 |0,n::ns,c::cs,r,h=>by
  simp only[fi]at h;cases a:fi 0 ns cs with
  |none=>grind
  |some q =>
   simp[a]at h;subst h;obtain⟨d,b⟩:=qm a;grind
 |0,n::ns,[],r,h=>by simp[fi]at h
 |k+1,ns,c::cs,r,h=>by
  simp only[fi]at h;cases a:fi k ns cs with
  |none=>grind
  |some q =>
   simp[a]at h;subst h;obtain⟨d,b⟩:=qm a;grind
 |k+1,ns,[],r,h=>by simp[fi]at h
def dX.fi{σ:List aP}{s:St}{off:Nat}{vs new:List ah}{cs RM r:List A}(h:AM.fi off RM cs=aa r)(h1:dX σ s vs cs)(h2:dX σ s new RM):
  off+new.length<=vs.length/\dX σ s (vs.take off++new++vs.drop (off+new.length)) r:=by obtain⟨k1,rfl⟩:=qm h;rw[h2.length,h1.length];refine⟨k1,((h1.take off).append h2).append (by have:=h1.drop (off+RM.length);exact this)⟩
theorem bF.store{P:ar}{T:List (Nat×TI)}(hT:cO P T){o:au}{z:ak->D}{σ:List aP}{t:aj}{x y:ak}(h:o.op=.store t x y){l off:Nat}{E:aj}{cs new nb:List A}{i:TI}(H:z x=.e (.one (.ptr l off)))(hB:σ[l]?=aa (.cells E cs))(hi:bD T t=aa i)(K:kn (z y)=aa new)(B:new.length=i.size)(J:fi off new cs=aa nb):
  bF P o z σ .any (σ.set l (.cells E nb)):=by
 intro s d hh hr;have h1:=hr x;rw[H]at h1;obtain⟨_,L,b,q,k,C⟩:=h1;obtain⟨p,vs,rfl,G,u,n⟩:=hh.box l _ L hB q;simp at k;subst k;have c:=lO K (hr y);obtain⟨k1,I⟩:=dX.fi J u c;obtain⟨w1,w2⟩:=hh.write hB q rfl I;refine⟨.skip,_,?_,rfl,w1,w2,?_⟩
 rotate_left
 .intro F a;have f:(d y).cells.size=i.size:=by rw[<-B,<-c.length,ji]
  have e:aw d o=(do storeVar t ⟨p,off,ae⟩ (d y);pure .skip):=by simp[aw,h,C,Instr.storeAt,bo]
  rw[e]at a;have g:F∈(storeCells ⟨p,off,ae⟩ (d y).cells.toList).events P s.w #[]:=by
   simp only[storeVar,aM,(hT t i hi).run_sizeOf,f,aO,events_sizeOf,dr,fa,b7,bL,bU,Sem.events_pure]at a;generalize(storeCells ⟨p,off,ae⟩ (d y).cells.toList).run P s.w=r at a;cases r with
   |ok v w'=>simpa using a
   |halt x w'=>simpa using a
  rcases dE (d y).cells.toList 0 vs.toArray s.w #[] G (by grind) c.cell F g with M|⟨j,_,_,rfl⟩
  .grind
  .exact jF (bJ q) (by simp) (n _)
 have m:=run_storeCells_at P p off E (d y).cells.toList 0 vs.toArray s.w G (by grind) (c.cell);have f:(d y).cells.size=i.size:=by rw[<-B,<-c.length,ji]
 simp only[ir]at m;simp[aw,h,C,Instr.storeAt,bo,storeVar,(hT t i hi).run_sizeOf,f,m]
def jM(T:List (Nat×TI))(t:aj)(f:Nat):Option (Nat×TI) :=
 match bD T t with
 |some i=>match i.desc with
  |.struct fs=>match du f fs.toList with
   |some fl=>match bD T fl.type with
    |some j=>cond (aB j.size 0) ae (aa (fl.offset,j))
    |none=>ae
   |none=>ae
  |_=>ae
 |none=>ae
def tD{P:ar}{T:List (Nat×TI)}(hT:cO P T){t:aj}{f off:Nat}{j:TI}(h:jM T t f=aa (off,j)):
  ∃i fs fl,bD T t=aa i/\i.desc=.struct fs/\fs[f]?=aa fl/\fl.offset=off/\bD T fl.type=aa j/\j.size≠0/\dy P t i/\dy P fl.type j:=by
 unfold jM at h;split at h
 .rename_i i hi;split at h
  .rename_i fs Yz;split at h
   .rename_i fl hfl;split at h
    .rename_i c b;cases a:aB c.size 0<;>simp[a]at h
     obtain⟨rfl,rfl⟩:=h;refine⟨i,fs,fl,hi,Yz,by simpa using bZ hfl,rfl,b,?_,hT _ _ hi,hT _ _ b⟩;intro e;rw[e]at a;cases a
    grind
   grind
  grind
 grind
def mG{P:ar}{T:List (Nat×TI)}(hT:cO P T){t:aj}{f off:Nat}{j:TI}(h:jM T t f=aa (off,j))(b o:Nat)(w:aA):
  (Instr.fieldAt t (.pointer (aa ⟨b,o,ae⟩)) f).run P w=.ok (.pointer (aa ⟨b,o+off,ae⟩)) w:=by obtain⟨i,fs,m,l,k,a,c,n,e,d,g⟩:=tD hT h;simp[Instr.fieldAt,d.run_underlying,k,a,bo,fieldPlace,g.run_sizeOf,e,dm,c]
def ow{P:ar}{T:List (Nat×TI)}(hT:cO P T){t:aj}{f off:Nat}{j:TI}(h:jM T t f=aa (off,j))(b o:Nat)(w:aA)(es:Array Event):
  (Instr.fieldAt t (.pointer (aa ⟨b,o,ae⟩)) f).events P w es=es:=by obtain⟨i,fs,m,l,g,a,k,n,d,c,e⟩:=tD hT h;simp[Instr.fieldAt,c.run_underlying,g,a,bo,fieldPlace,e.run_sizeOf,d]
def bF.sh{P:ar}{T:List (Nat×TI)}(hT:cO P T){o:au}{g:ak->D}{σ:List aP}{t:aj}{x:ak}{f:Nat}(h:o.op=.fieldAddr t x f){l off k:Nat}{j:TI}(n:g x=.e (.one (.ptr l off)))(d:jM T t f=aa (k,j)):bF P o g σ (.e (.one (.ptr l (off+k)))) σ:=by refine .quiet λs p hh hr=>?_;have h1:=hr x;rw[n]at h1;obtain⟨i,L,b,m,a,c⟩:=h1;exact⟨.pointer (aa ⟨b,off+k,ae⟩),by simp[aw,h,c,mG hT d],⟨i,L,b,m,a,rfl⟩,by simp[aw,h,c,ow hT d]⟩
theorem bF.ug{P:ar}{T:List (Nat×TI)}(hT:cO P T){o:au}{g:ak->D}{σ:List aP}{t:aj}{x:ak}{f:Nat}(h:o.op=.fieldAddr t x f){cs:List C}{k:Nat}{j:TI}(n:g x=.e (.one (.c (.rp cs))))(d:jM T t f=aa (k,j)):bF P o g σ (.e (.one (.c (.rp (fK k cs))))) σ:=by
 refine .quiet λs i hh hr=>?_;have h1:=hr x;rw[n]at h1;have h2:=eT h1;generalize a:i x=vx at h2;cases h2;rename_i b o m p l;refine⟨.pointer (aa ⟨b,o+k,ae⟩),by simp[aw,h,a,mG hT d],?_,by simp[aw,h,a,ow hT d]⟩;rw[l5];refine Rd.rp b (o+k) (λj=>m (k+j)) (λj c hj=>?_) (λj c hj=>?_)
 .grind
 grind
def Kh{σ:List aP}{s:St}{P:ar}{t:aj}{i:TI}(g:dy P t i){vs:List ah}{cs:List A}(r:dX σ s vs cs){off:Nat}{e:E1}(b:kN i (fK off cs)=aa e)(w:aA):
  ∃v,(part t vs.toArray off).run P w=.ok v w/\m8 σ s v e/\∀es,(part t vs.toArray off).events P w es=es:=by
 simp only[part,bL,g.kl,bU,aM,aO,events_isAgg];rw[l5]at b;cases k:i.agg<;>simp only[kN,k]at b
 .cases c:du 0 (cs.drop off)with
  |none=>grind
  |some a =>
   simp[c]at b;subst b;obtain⟨v,h,f⟩:=(r.drop off).get (bZ c);simp at h;refine⟨v,?_,f,λes=>?_⟩<;>simp[h]
 .cases c:oF i.size (cs.drop off)with
  |none=>grind
  |some q =>
   simp[c]at b;subst b;obtain⟨j,l⟩:=nn c;have d:=(r.drop off).take i.size;rw[<-j]at d;refine⟨.agg (vs.toArray.extract off (off+i.size)),by simp[g.run_sizeOf],⟨(vs.drop off).take i.size,?_,d⟩,λes=>by simp⟩;simp
theorem bF.field{P:ar}{T:List (Nat×TI)}(hT:cO P T){o:au}{p:ak->D}{σ:List aP}{t:aj}{x:ak}{f:Nat}(h:o.op=.field t x f){cs:List A}{k:Nat}{j:TI}{e:E1}(y:p x=.e (.agg cs))(u:jM T t f=aa (k,j))(q:kN j (fK k cs)=aa e):bF P o p σ (.e e) σ:=by refine .quiet λs z hh hr=>?_;have h1:=hr x;rw[y]at h1;obtain⟨vs,g,c⟩:=h1;obtain⟨i,fs,fl,h1,h2,l,m,C,B,n,r⟩:=tD hT u;obtain⟨v,d,a,b⟩:=Kh r c q s.w;exact⟨v,by simp[aw,h,g,Instr.field,n.run_underlying,h2,l,asAgg,m,d],a,by simp[aw,h,g,Instr.field,n.run_underlying,h2,l,asAgg,m,b]⟩
theorem bF.uh{P:ar}{o:au}{d:ak->D}{σ:List aP}{x:ak}(h:o.op=.nilCheck x){l off:Nat}(g:d x=.e (.one (.ptr l off))):bF P o d σ (.e (.one (.ptr l off))) σ:=by refine .quiet λs f hh hr=>?_;have h1:=hr x;rw[g]at h1;have a:=h1;obtain⟨j,L,b,k,i,c⟩:=h1;exact⟨f x,by simp[aw,h,c],a,by simp[aw,h,c]⟩
theorem bF.wC{P:ar}{o:au}{b:ak->D}{σ:List aP}{x:ak}(h:o.op=.nilCheck x){cs:List C}(f:b x=.e (.one (.c (.rp cs)))):bF P o b σ (.e (.one (.c (.rp cs)))) σ:=by refine .quiet λs d hh hr=>?_;have h1:=hr x;rw[f]at h1;have h2:=eT h1;generalize a:d x=vx at h2;cases h2;exact⟨_,by simp[aw,h,a];rfl,by grind,by simp[aw,h,a]⟩
def Hx(new:List ah):∀(j off:Nat)(cs:Array ah),off+j+new.length<=cs.size ->
  ((new.zipIdx j).foldl (λcs (x:ah×Nat)=>cs.setIfInBounds (off+x.2) x.1) cs).toList=cs.toList.take (off+j)++new++cs.toList.drop (off+j+new.length):=by
 induction new with
 |nil=>intro j off cs _;simp
 |cons v vs ih =>
  intro j off cs h;simp only[List.zipIdx_cons,lh];rw[ih (j+1) off _ (by grind)];have:=list_seg_step cs.toList (off+j) v vs (by grind);simpa[Array.toList_setIfInBounds,Nat.add_assoc]using this
def yC(place:Nat->Option (Nat×Nat)):List (Nat×List A)->List A->Option (List A)
 |[],cs=>aa cs
 |(i,new)::rest,cs=>match place i with
  |some (off,size)=>match aB new.length size with
   |true=>match fi off new cs with
    |some r=>yC place rest r
    |none=>ae
   |false=>ae
  |none=>ae
def wT{σ:List aP}{s:St}{place place':Nat->Option (Nat×Nat)}(m:∀i p,place i=aa p->place' i=aa p):∀{parts:List (Nat×List A)}{vparts:List (Nat×ah)}{cs r:List A}{vs:Array ah},
  yC place parts cs=aa r->vparts.map (·.1)=parts.map (·.1)->(∀(k:Nat) (p:Nat×List A) (q:Nat×ah),parts[k]?=aa p->vparts[k]?=aa q->dX σ s q.2.cells.toList p.2)->dX σ s vs.toList cs ->
  ∃d,Instr.fill place' vs vparts=aa d/\dX σ s d.toList r
 |[],[],cs,r,vs,h,_,_,c=>by cases h;exact⟨vs,rfl,c⟩
 |[],_::_,cs,r,vs,h,a,_,c=>by grind
 |_::_,[],cs,r,vs,h,a,_,c=>by grind
 |(i,new)::rest,(g,v)::UY,cs,r,vs,h,a,hk,c=>by
  simp only[pX,List.cons.injEq]at a;obtain⟨rfl,a⟩:=a;simp only[yC]at h;cases b:place g with
  |none=>grind
  |some p =>
   obtain⟨off,size⟩:=p;simp only[b]at h;cases j:aB new.length size with
   |false=>grind
   |true =>
    simp only[j]at h;cases o:fi off new cs with
    |none=>grind
    |some q =>
     simp only[o]at h;have e:=hk 0 (g,new) (g,v) rfl rfl;simp only at e;have w:=e.length;have l:new.length=size:=bP j;obtain⟨k1,z⟩:=dX.fi o c e;have y:=Hx v.cells.toList 0 off vs (by grind);have f:v.cells.size=size:=by grind
     have t:off+size<=vs.size:=by grind
     obtain⟨d,u,n⟩:=wT (σ:=σ) (s:=s) m (parts:=rest) (vparts:=UY) (cs:=q) (r:=r)
      (vs:=v.cells.zipIdx.foldl (λcs (x:ah×Nat)=>cs.setIfInBounds (off+x.2) x.1) vs) h a (λk p q u n=>hk (k+1) p q (by grind) (by grind)) (by grind[Array.toList_zipIdx])
     refine⟨d,?_,n⟩;simp only[Instr.fill,m _ _ b,f,dr,fa,kA,Bool.false_or,ba];grind
def qn(T:List (Nat×TI)):List Field->Option (List (Nat×Nat))
 |[]=>aa []
 |f::fs=>match bD T f.type with
  |some j=>match qn T fs with
   |some r=>aa ((f.offset,j.size)::r)
   |none=>ae
  |none=>ae
def wU{P:ar}{T:List (Nat×TI)}(hT:cO P T):∀{fs:List Field}{r:List (Nat×Nat)},qn T fs=aa r->fs.mapM (λf=>(P.info? f.type).map λi=>(f.offset,i.size))=aa r
 |[],r,h=>by cases h;simp
 |f::fs,r,h=>by
  simp only[qn]at h;cases b:bD T f.type with
  |none=>grind
  |some j =>
   cases a:qn T fs with
   |none=>grind
   |some q =>
    simp[b,a]at h;subst h;obtain⟨e,z,d,c,_⟩:=(hT _ _ b).info;simp[n6,d,c,wU hT a]
def pw(a:ak->D):List (Nat×ak)->Option (List (Nat×List A))
 |[]=>aa []
 |(i,x)::r=>match kn (a x)with
  |some cs=>match pw a r with
   |some q=>aa ((i,cs)::q)
   |none=>ae
  |none=>ae
def tE{σ:List aP}{s:St}{b:ak->ah}{a:ak->D}(d:∀y,dk σ s (b y) (a y)):∀{l:List (Nat×ak)}{q:List (Nat×List A)},pw a l=aa q ->
  (l.map λ(i,x)=>(i,b x)).map (·.1)=q.map (·.1)/\∀(k:Nat) (p:Nat×List A) (u:Nat×ah),q[k]?=aa p->(l.map λ(i,x)=>(i,b x))[k]?=aa u->dX σ s u.2.cells.toList p.2
 |[],q,h=>by cases h;simp
 |(i,x)::r,q,h=>by
  simp only[pw]at h;cases e:kn (a x)with
  |none=>grind
  |some cs =>
   cases c:pw a r with
   |none=>grind
   |some q' =>
    simp[e,c]at h;subst h;obtain⟨f,g⟩:=tE d c;grind[lO]
def zT(T:List (Nat×TI))(a:ak->D)(t:aj)(parts:List (Nat×ak)):Option (List A) :=
 match bD T t with
 |some i=>match i.desc with
  |.struct fs=>match qn T fs.toList with
   |some pl=>match pw a parts with
    |some ps=>yC (λk=>du k pl) ps (i.zero.map A.c)
    |none=>ae
   |none=>ae
  |_=>ae
 |none=>ae
theorem bF.build{P:ar}{T:List (Nat×TI)}(hT:cO P T){o:au}{g:ak->D}{σ:List aP}{t:aj}{parts:Array (Nat×ak)}(h:o.op=.build t parts){cs:List A}(b:zT T g t parts.toList=aa cs):bF P o g σ (.e (.agg cs)) σ:=by
 refine .quiet λs q hh hr=>?_;unfold zT at b;cases hi:bD T t with
 |none=>grind
 |some i =>
  simp only[hi]at b;cases j:i.desc with
  |struct fs =>
   simp only[j]at b;cases d:qn T fs.toList with
   |none=>grind
   |some pl =>
    simp only[d]at b;cases c:pw g parts.toList with
    |none=>grind
    |some ps =>
     simp only[c]at b;obtain⟨v,z,u,C,E,n,B,G,F⟩:=(hT t i hi).info;obtain⟨m,p2⟩:=tE (σ:=σ) (s:=s) hr c;obtain⟨f,y,r⟩:=wT (σ:=σ) (s:=s) (place':=λk=>pl.toArray[k]?) (λk p hk=>by grind[bZ]) b m p2 (kJ B);have l:P.built t (parts.map λ(i,x)=>(i,q x)).toList=aa f:=by unfold Program.built;have a:=(hT t i hi).TE;rw[j]at a;simp only[u,a,n,wU hT d];simpa using y
     refine⟨.agg f,?_,⟨f.toList,by simp,r⟩,?_⟩
     .simp only[aw,h,bL,run_build s.w t _ f l,bU,dq]
     .simp only[aw,h,aM,run_build s.w t _ f l,aO,Sem.events_pure];exact c7.build s.w #[]
  |_=>grind
theorem RX{k n i j:Nat}(hi:i<n)(a:j<k):i*k+j<n*k:=by have b:(i+1)*k<=n*k:=eC k (by omega);grind
theorem Oc{k i j:Nat}(a:j<k):(i*k+j) / k=i:=by grind[Nat.mul_comm,Nat.mul_add_div,Nat.div_eq_of_lt]
theorem Od{k i j:Nat}(a:j<k):(i*k+j) % k=j:=by rw[Nat.mul_comm,Nat.mul_add_mod,Nat.mod_eq_of_lt a]
def Flat.nil{M:Mem}{k:Nat}{es:Nat->List C}:Flat M k 0 es []:=⟨by simp,by omega,by omega⟩
def cA(n:Nat)(f g:Nat->List C):Nat->List C:=λi=>if i<n then f i else g (i-n)
def Flat.append{M:Mem}{k n m:Nat}{es es':Nat->List C}{vs vW:List ah}(h:Flat M k n es vs)(b:Flat M k m es' vW):Flat M k (n+m) (cA n es es') (vs++vW):=by
 refine⟨by simp[h.len,b.len,iu],λi hi=>?_,λi hi j c hj=>?_⟩
 .simp only[cA];split
  .rename_i a;exact h.width i a
  .exact b.width _ (by omega)
 .simp only[cA]at hj;split at hj
  .rename_i a;obtain⟨v,h1,h2⟩:=h.rd i a j c hj;grind
  .rename_i d;obtain⟨v,h1,h2⟩:=b.rd _ (by omega) j c hj;refine⟨v,?_,h2⟩;have e1:i*k+j=vs.length+((i-n)*k+j):=by rw[h.len,<-Nat.add_assoc,<-iu,zt (by omega)]
   grind
def Flat.cell{M:Mem}{k n:Nat}{es:Nat->List C}{vs:List ah}(h:Flat M k n es vs):∀v∈vs,v.oneCell'=ab:=by
 intro v a;obtain⟨p,b,rfl⟩:=dL a;rw[h.len]at b;have hk:0<k:=by grind
 have hi:p / k<n:=pP (by grind);have hj:p % k<k:=kg _ hk;have c:=h.width _ hi;obtain⟨v,h1,h2⟩:=h.rd (p / k) hi (p % k) ((es (p / k))[p % k]'(by omega)) (br (by omega));have e:p / k*k+p % k=p:=pU p k;rw[e]at h1;rw[br (by grind)]at h1;simp at h1;rw[h1];have:=Rd.cell h2;cases v<;>simp_all[cD,Value.oneCell']
def Rd.flat{M:Mem}{v:ah}{t:Bool}{k n:Nat}{es:Nat->List C}(h:Rd M v (.sl t k n es)):
  ∃a cap vs,v=.slice a n cap/\n<=cap/\cap<=9223372036854775807/\(t=ab->cap=n)/\Flat M k n es vs/\∀p u,vs[p]?=aa u->∃b off,a=aa ⟨b,off,ae⟩/\M b (off+p)=aa u:=by
 cases h with
 |@sl a _ cap _ _ _ b off f c i j hk ha hm hr =>
  refine⟨a,cap,(bg (n*k)).map λp=>f (p / k) (p % k),rfl,c,i,j,⟨by simp,hk,?_⟩,?_⟩
  .grind [RX,Oc,Od]
  .intro p u d;simp only[mV]at d;by_cases e:p<n*k
   .simp[e]at d;subst d;have g:0<k:=by grind
    have hi:p / k<n:=pP (by grind);have hj:p % k<k:=kg _ g;have l:=hk _ hi;have:=hm (p / k) hi (p % k) ((es (p / k))[p % k]'(by omega)) (br (by omega));refine⟨b,off,ha (Nat.lt_of_le_of_lt (lk _) hi),?_⟩;grind[Nat.div_add_mod']
   grind
def Rd.qR{M:Mem}{k n:Nat}{es:Nat->List C}{vs:List ah}(h:Flat M k n es vs){a:Option Addr}{b off cap:Nat}{t:Bool}(f:0<n->a=aa ⟨b,off,ae⟩)(d:n<=cap)(e:cap<=9223372036854775807)(g:t=ab->cap=n)(l:∀p u,vs[p]?=aa u->M b (off+p)=aa u):Rd M (.slice a n cap) (.sl t k n es):=by
 refine .sl b off (λi j=>(vs[i*k+j]?).getD ai) d e g h.width f (λi hi j c hj=>?_) (λi hi j c hj=>?_)
 .obtain⟨v,h1,h2⟩:=h.rd i hi j c hj;grind
 .obtain⟨v,h1,h2⟩:=h.rd i hi j c hj;grind
def dY{P:ar}{σ:List aP}{s:St}(m:aF σ s){v:ah}{t:Bool}{k n:Nat}{es:Nat->List C}(h:Rd s.M v (.sl t k n es)):
  ∃vs,Flat s.M k n es vs/\(Builtin.firstCells k n v).run P s.w=.ok vs.toArray s.w/\Builtin.lenOf v=pure n:=by
 obtain⟨a,cap,vs,rfl,d,o,q,f,e⟩:=h.flat;refine⟨vs,f,?_,rfl⟩;have g:vs.length=n*k:=f.len;cases a with
 |none =>
  have:vs=[]:=by
   cases vs with
   |nil=>rfl
   |cons u p=>obtain⟨b,off,c,_⟩:=e 0 u rfl;cases c
  subst this;rfl
 |some ad =>
  simp only[Builtin.firstCells];rw[<-g];refine run_loadCells_list s.w ad vs λj u l=>?_;obtain⟨b,off,c,i⟩:=e j u l;cases c;rw[dm];exact m.mem _ _ _ i
def bF.JD{P:ar}{T:List (Nat×TI)}(hT:cO P T){o:au}{f:ak->D}{σ:List aP}{t:aj}{x y:ak}(h:o.op=.index t x y){l:List UInt8}{j:Int}{k:IntKind}{i:TI}{m:Nat}(hi:bD T t=aa i)(g:i.desc=.string)(u:f x=.e (.one (.c (.str l))))(r:f y=.e (.one (.c (.int k j))))(hj:j=m)(v:m<l.length):bF P o f σ (.e (.one (.c (.int .u8 (l[m]).toNat)))) σ:=by
 refine .quiet λs n hh hr=>?_;have h1:=hr x;have h2:=hr y;rw[u]at h1;rw[r]at h2;replace h1:=eT h1;replace h2:=eT h2;generalize b:n x=vx at h1;generalize d:n y=vy at h2;cases h1 with
 |@str sb _ q hl =>
 cases h2;subst q;have p:sb[m]?=aa (sb.data.toList[m]):=by
  have hm':m<sb.size:=by have e:sb.data.toList.length=sb.size:=ji;omega
  rw[getElem?_pos sb m hm'];congr 1
 refine⟨.int .u8 (sb.data.toList[m]).toNat,?_,Rd.int ?_,?_⟩
 rotate_left 2
 .have a:=(hT t i hi).run_underlying (w:=s.w);rw[g]at a;simp[aw,h,b,d,Instr.index,asIntOf,a,hj,p]
 .have a:=(hT t i hi).run_underlying (w:=s.w);rw[g]at a;simp[aw,h,b,d,Instr.index,asIntOf,a,hj,p]
 .have:=(sb.data.toList[m]).toNat_lt;simp only[bA];omega
def bF.indexAddr{P:ar}{T:List (Nat×TI)}(hT:cO P T){o:au}{z:ak->D}{σ:List aP}{t:aj}{x y:ak}(h:o.op=.indexAddr t x y){i g:TI}{E:aj}(hi:bD T t=aa i)(G:i.desc=.slice E)(I:bD T E=aa g){tt:Bool}{n:Nat}{es:Nat->List C}{j:Int}{k:IntKind}{m:Nat}(J:∀s v,dk σ s v (z x)->Rd s.M v (.sl tt g.size n es))(H:z y=.e (.one (.c (.int k j))))(hj:j=m)(d:m<n):
  bF P o z σ (.e (.one (.c (.rp (es m))))) σ:=by
 refine .quiet λs A hh hr=>?_;have h1:=J s _ (hr x);have h2:=hr y;rw[H]at h2;replace h2:=eT h2;generalize p:A x=vx at h1;generalize u:A y=vy at h2;cases h2;cases h1 with
 |@sl a _ cap _ _ _ b off f F K L hk ha hm' M3 =>
 have l:0<n:=by omega
 have B:=(hT t i hi).run_underlying (w:=s.w);rw[G]at B;refine⟨.pointer (aa ⟨b,off+m*g.size,ae⟩),?_,Rd.rp b (off+m*g.size) (f m) (λq c r=>hm' m d q c r) (λq c r=>M3 m d q c r),?_⟩<;>
 simp[aw,h,p,u,Instr.indexAt,asIntOf,B,hj,ha l,(hT E g I).run_sizeOf,dm,d]
def bF.Uy{P:ar}{T:List (Nat×TI)}(hT:cO P T){o:au}{j:ak->D}{σ:List aP}{x:ak}{b:Array aj}{t:aj}(h:o.op=.call {callee:=.builtin .len,args:=#[x],argTypes:=b})(q:b[0]?=aa t){i:TI}{E:aj}(hi:bD T t=aa i)(m:i.desc=.slice E){tt:Bool}{k n:Nat}{es:Nat->List C}(p:∀s v,dk σ s v (j x)->Rd s.M v (.sl tt k n es)):bF P o j σ (.e (.one (.c (.int .i64 n)))) σ:=by
 refine .quiet λs u hh hr=>?_;obtain⟨a,cap,vs,l,g,r,_⟩:=(p s _ (hr x)).flat;have f:=(hT t i hi).run_underlying (w:=s.w);rw[m]at f;have d:b[0]?=aa t:=q;refine⟨.int .i64 n,?_,Rd.int (by simp only[bA];omega),?_⟩<;>
 simp[aw,h,resolve,invoke,builtin,Builtin.len_,l,f,goInt,d]
theorem bF.Ri{P:ar}{T:List (Nat×TI)}(hT:cO P T){o:au}{j:ak->D}{σ:List aP}{x:ak}{a:Array aj}{t:aj}(h:o.op=.call {callee:=.builtin .len,args:=#[x],argTypes:=a})(q:a[0]?=aa t){i:TI}(hi:bD T t=aa i)(m:i.desc=.string){l:List UInt8}(p:j x=.e (.one (.c (.str l)))):bF P o j σ (.e (.one (.c (.int .i64 l.length)))) σ:=by
 refine .quiet λs n hh hr=>?_;have h1:=hr x;rw[p]at h1;replace h1:=eT h1;generalize b:n x=vx at h1;cases h1 with
 |@str sb _ k hl =>
 have g:=(hT t i hi).run_underlying (w:=s.w);rw[m]at g;have d:a[0]?=aa t:=q;have f:sb.size=l.length:=by rw[<-k];exact ji.symm
 refine⟨.int .i64 l.length,?_,Rd.int (by simp only[bA];omega),?_⟩<;>
 simp[aw,h,resolve,invoke,builtin,Builtin.len_,b,g,goInt,d,f]
def St.newRow(s:St)(E:aj)(vs:List ah):St :=
 {β:=s.β,M:=λb o=>if b=s.w.heap.size then vs[o]? else s.M b o,w:=s.w.alloc (.cells vs.toArray E),own:=s.own}
def aF.newRow{σ:List aP}{s:St}(h:aF σ s)(E:aj)(vs:List ah):aF σ (s.newRow E vs)/\Step σ s σ (s.newRow E vs):=by
 refine h.grow (by simp) (λb a=>cJ _ _ a) (λb a o=>by grind) (λb a o v c=>?_) rfl rfl rfl;by_cases e:b=s.w.heap.size
 .subst e;simp at c;show aV (s.w.alloc (.cells vs.toArray E)) ⟨s.w.heap.size,o,ae⟩=aa v;unfold aV;grind[dG]
 .simp only[e,b7]at c;have:=h.block c;omega
def Hy(s:St)(E:aj)(vs:List ah):∀p u,vs[p]?=aa u->(s.newRow E vs).M s.w.heap.size (0+p)=aa u:=by intro p u h;simpa[St.newRow]using h
def gC:List A->Option (List C)
 |[]=>aa []
 |.c c::r=>match gC r with|some q=>aa (c::q)|none=>ae
 |.vec _ k n es::r=>match gC r with|some q=>aa (.sl af k n es::q)|none=>ae
 |_::_=>ae
def lQ{σ:List aP}{s:St}:∀{cs:List A}{r:List C}{vs:List ah},gC cs=aa r->dX σ s vs cs->dX σ s vs (r.map A.c)
 |[],r,vs,h,a=>by cases h;exact a
 |_::_,_,[],_,a=>a.elim
 |.c c::al,r,v::vs,h,a=>by
  simp only[gC]at h;cases b:gC al with
  |none=>grind
  |some q=>simp[b]at h;subst h;exact⟨a.1,lQ b a.2⟩
 |.vec l k n es::al,r,v::vs,h,a=>by
  simp only[gC]at h;cases b:gC al with
  |none=>grind
  |some q=>simp[b]at h;subst h;exact⟨a.1.1,lQ b a.2⟩
 |.ptr l o::al,r,v::vs,h,a=>by simp[gC]at h
 |.ref l::al,r,v::vs,h,a=>by simp[gC]at h
 |.bp l w::al,r,v::vs,h,a=>by simp[gC]at h
 |.any::al,r,v::vs,h,a=>by simp[gC]at h
def tF{α:Type}(k:Nat):Nat->List α->Option (List (List α))
 |0,[]=>aa []
 |0,_::_=>ae
 |n+1,l=>match oF k l with
  |some c=>match tF k n (fK k l)with
   |some r=>aa (c::r)
   |none=>ae
  |none=>ae
def dX.closed{σ:List aP}{s:St}:∀{vs:List ah}{cs:List C},dX σ s vs (cs.map A.c)->∀(j:Nat)(c:C),cs[j]?=aa c->∃v,vs[j]?=aa v/\Rd s.M v c:=by intro vs cs h j c hj;obtain⟨v,h1,h2⟩:=h.get (j:=j) (a:=.c c) (by grind);exact⟨v,h1,h2⟩
def yD{M:Mem}{k:Nat}:∀{n:Nat}{cs:List C}{es:List (List C)}{vs:List ah},tF k n cs=aa es->vs.length=cs.length->(∀(j:Nat)(c:C),cs[j]?=aa c->∃v,vs[j]?=aa v/\Rd M v c)->es.length=n/\Flat M k n (λi=>es.getD i []) vs
 |0,[],es,vs,h,a,d=>by cases h;simp at a;subst a;exact⟨rfl,.nil⟩
 |0,_::_,es,vs,h,a,d=>by cases h
 |n+1,cs,es,vs,h,a,d=>by
  simp only[tF]at h;cases g:oF k cs with
  |none=>grind
  |some c =>
   simp only[g]at h;cases b:tF k n (fK k cs)with
   |none=>grind
   |some q =>
    simp[b]at h;subst h;obtain⟨l,f⟩:=nn g;rw[l5]at b;obtain⟨r,o⟩:=yD (vs:=vs.drop k) b (by grind) (λj c p=>by
     obtain⟨v,l,f⟩:=d (k+j) c (by grind)
     exact⟨v,by grind,f⟩)
    refine⟨by grind,?_⟩;have hk:k<=cs.length:=by grind
    have m:Flat M k 1 (λ_=>c) (vs.take k):=by refine⟨by grind,by grind,λi hi j x p=>?_⟩;grind
    have:=m.append o;rw[Nat.add_comm 1 n]at this;have e:cA 1 (λ_=>c) (λi=>q.getD i [])=λi=>(c::q).getD i []:=by funext i;cases i<;>simp[cA]
    rw[e]at this;simpa using this
def NF(T:List (Nat×TI))(a:ak->D)(t:aj)(n:Nat)(parts:List (Nat×ak)):Option (Nat×List (List C)) :=
 match bD T t with
 |some i=>match i.desc with
  |.slice E=>match bD T E with
   |some ie=>match aB ie.size 0 with
    |true=>ae
    |false=>match bu (n*ie.size) 16777216 with
     |true=>match pw a parts with
      |some ps=>match yC (λk=>aa (k*ie.size,ie.size)) ps (List.replicate (n*ie.size) A.any)with
       |some cs=>match gC cs with
        |some r=>match tF ie.size n r with
         |some es=>aa (ie.size,es)
         |none=>ae
        |none=>ae
       |none=>ae
      |none=>ae
     |false=>ae
   |none=>ae
  |_=>ae
 |none=>ae
theorem bF.buildSlice{P:ar}{T:List (Nat×TI)}(hT:cO P T){o:au}{S:ak->D}{σ:List aP}{t:aj}{n:Nat}{parts:Array (Nat×ak)}(h:o.op=.buildSlice t n parts){k:Nat}{es:List (List C)}(a:NF T S t n parts.toList=aa (k,es)):bF P o S σ (.e (.one (.c (.sl ab k n λi=>es.getD i [])))) σ:=by
 intro s K hh hr;unfold NF at a;cases hi:bD T t with
 |none=>grind
 |some i =>
  simp only[hi]at a;cases V:i.desc with
  |slice E =>
   simp only[V]at a;cases J:bD T E with
   |none=>grind
   |some ie =>
    simp only[J]at a;cases R:aB ie.size 0 with
    |true=>grind
    |false =>
     simp only[R]at a;cases j:bu (n*ie.size) 16777216 with
     |false=>grind
     |true =>
      simp only[j]at a;cases B:pw S parts.toList with
      |none=>grind
      |some ps =>
       simp only[B]at a;cases g:yC (λk=>aa (k*ie.size,ie.size)) ps (List.replicate (n*ie.size) A.any)with
       |none=>grind
       |some cs =>
        simp only[g]at a;cases F:gC cs with
        |none=>grind
        |some r =>
         simp only[F]at a;cases y:tF ie.size n r with
         |none=>grind
         |some es' =>
          simp only[y,dn,lT]at a;obtain⟨rfl,rfl⟩:=a;have hz0:ie.size≠0:=λe=>by rw[e]at R;cases R
          have X:=cV j;obtain⟨inf,z,z1,z2,z3,z4,Y,z6,z7⟩:=(hT E ie J).info;have hzs:z.cells.size=ie.size:=by have:=dA List.length Y;grind
          have hzc:∀v∈z.cells.toList,cD v=ab:=by intro v L;have d:qW v∈z.cells.toList.map qW:=kB.2 ⟨v,L,rfl⟩;rw[Y]at d;obtain⟨c,_,hc⟩:=kB.1 d;exact(Rd.qW (M:=s.M) hc.symm).cell
          have I:∀m,(∀v∈(bg m).map (λq=>z.cells[q % z.cells.size]!),cD v=ab):=by grind[Nat.mod_lt]
          have l:∀vs:List ah,(∀v∈vs,cD v=ab)->dX σ s vs (List.replicate vs.length A.any):=by
           intro vs;induction vs with
           |nil=>intro _;trivial
           |cons v vs ih=>intro L;exact⟨L v (by simp),ih λu N=>L u (by grind)⟩
          obtain⟨p1,p2⟩:=tE (σ:=σ) (s:=s) hr B;have U:dX σ s ((Array.range (n*ie.size)).map (λq=>z.cells[q % z.cells.size]!)).toList (List.replicate (n*ie.size) A.any):=by have:=l _ (I (n*ie.size));simpa using this
          obtain⟨H,u1,u2⟩:=wT (σ:=σ) (s:=s) (place':=λk=>aa (k*ie.size,ie.size)) (λk p hk=>hk) g p1 p2 U;have u3:=lQ F u2;obtain⟨c1,c2⟩:=yD (M:=s.M) (vs:=H.toList) y (by simpa using u3.length) u3.closed;obtain⟨Z,W⟩:=hh.newRow E H.toList;refine⟨.value (.slice (aa ⟨s.w.heap.size,0,ae⟩) n n),s.newRow E H.toList,?_,?_,Z,W,?_⟩
          rotate_left 2
          .have e:(aw K o).events P s.w #[]=#[]:=by simp only[aw,h];exact c7.bind c7.buildSlice (λ_=>c7.pure) _ _
           rw[e];exact .nil
          .have N:=(hT t i hi).run_underlying (w:=s.w);rw[V]at N;have O:(zeroValue E).run P s.w=.ok z s.w:=by simp[zeroValue,typeInfo,z1,z4]
           have f:Instr.fill (λk=>aa (k*ie.size,ie.size)) ((Array.range (n*ie.size)).map (λq=>z.cells[q % z.cells.size]!)) (parts.map λ(i,x)=>(i,K x)).toList=aa H:=by simpa using u1
           by_cases h0:n*ie.size=0
           .have Q:n=0:=by grind[Nat.mul_eq_zero]
            subst Q;have G:Array.range 0=#[]:=rfl;simp[G]at f;simp[aw,h,Instr.buildSlice,N,(hT E ie J).run_sizeOf,G,f,Go.newRow,St.newRow]
           .rw[show aw K o=(do pure (.value (<-Instr.buildSlice t n (parts.map λ(i,x)=>(i,K x))))) by simp[aw,h]];simp only[Instr.buildSlice,bL,N,bU,(hT E ie J).run_sizeOf,h0,b7,O,show¬n*ie.size>2 ^ 24 by omega,rP,f,dq];simp[Go.newRow,St.newRow]
          .refine Rd.qR (c2.mono W.mem) (b:=s.w.heap.size) (off:=0) (λ_=>rfl) (bh _) ?_ (λ_=>rfl) (Hy s E H.toList);have:n<=n*ie.size:=uX n (by omega);omega
  |_=>grind
def Ext.trans{σ σ1 σ2:List aP}{s a s2:St}(h:Ext σ s σ1 a)(k:Ext σ1 a σ2 s2):Ext σ s σ2 s2:=by refine⟨λb o v c=>k.mem _ _ _ (h.mem _ _ _ c),λl B L hB hL=>?_⟩;obtain⟨B1,L1,h1,h2,f⟩:=h.box l B L hB hL;obtain⟨e,n,k1,m,j⟩:=k.box l B1 L1 h1 h2;exact⟨e,n,k1,m,f.trans j⟩
def fZ{α:Type}{l:List α}{x y:α}{i:Nat}(h:(l++[x])[i]?=aa y):l[i]?=aa y∨(i=l.length/\y=x):=by grind
def aF.hO{σ:List aP}{s a:St}(h1:aF σ a)(st:Step σ s σ a)(p:a.β=s.β)(hh:aF σ s){B:aP}{L:Loc}(hB:et (σ++[B]) {a with β:=a.β++[L]} B L)(k:∀b∈L.bs,s.w.heap.size<=b/\b<a.w.heap.size):aF (σ++[B]) {a with β:=a.β++[L]}/\Step σ s (σ++[B]) {a with β:=a.β++[L]}:=by
 have ex:Ext σ a (σ++[B]) {a with β:=a.β++[L]}:=by refine⟨λ_ _ _ h=>h,λl B' L' j1 fe=>?_⟩;have hl:l<a.β.length:=(bY.1 fe).1;have q:l<σ.length:=(bY.1 j1).1;exact⟨B',L',by grind,by grind,.refl _ _⟩
 have e2:=st.ext.trans ex;refine⟨⟨h1.mem,by simp[h1.len],?_,?_,?_,?_⟩,⟨st.size,st.fb,st.mem,st.iV,?_,e2.box,st.os,st.tape,st.output,st.own⟩⟩
 .intro l B' L' j1 fe;rcases fZ j1 with n|⟨rfl,rfl⟩
  .have hl:l<a.β.length:=by rw[h1.len];grind
   rw[jz hl]at fe;exact(h1.box l B' L' n fe).carry ex h1.len λ_ _=>⟨rfl,λ_=>rfl⟩
  .rcases fZ fe with f|⟨_,rfl⟩
   .have:=(bY.1 f).1;rw[h1.len]at this;omega
   grind
 .intro l l' L1 L2 f m b c j;rcases fZ f with k1|⟨rfl,rfl⟩<;>rcases fZ m with o|⟨rfl,rfl⟩
  .exact h1.eB l l' L1 L2 k1 o b c j
  .have a1:=k b j;have a2:=hh.lt L1 (by grind) b c;omega
  .have a1:=k b c;have a2:=hh.lt L2 (by grind) b j;omega
  .rfl
 .intro L' fe b c;simp only[fY,fX]at fe;rcases fe with fe|rfl
  .exact h1.lt L' fe b c
  grind
 .intro b c;refine⟨(h1.own b c).1,λL' fe Nh=>?_⟩;simp only[fY,fX]at fe;rcases fe with fe|rfl
  .exact(h1.own b c).2 L' fe Nh
  .have e:=st.own;simp only at c;rw[e]at c;have:=(hh.own b c).1;grind
 grind
def aF.gz{σ:List aP}{s:St}{M':Mem}{w':aA}(hh:aF σ s){l:Nat}{B B':aP}{L L':Loc}(r:σ[l]?=aa B)(k:s.β[l]?=aa L)(F:gy B L B' L')(y:s.w.heap.size<=w'.heap.size)(hk:∀b,b<s.w.heap.size->b∉L.bs->w'.heap[b]?=s.w.heap[b]?)(Q:∀b,b<s.w.heap.size->b∉L.bs->∀o,M' b o=s.M b o)(m:∀b o v,s.M b o=aa v->M' b o=aa v)(J:∀b o v,M' b o=aa v->w'.cell? ⟨b,o,ae⟩=aa v)(H:∀b∈L'.bs,(b∈L.bs∨s.w.heap.size<=b)/\b<w'.heap.size)(I:w'.os=s.w.os)(G:w'.tape=s.w.tape)(K:w'.output=s.w.output)(hB:et (σ.set l B') ⟨s.β.set l L',M',w',s.own⟩ B' L'):aF (σ.set l B') ⟨s.β.set l L',M',w',s.own⟩/\Step σ s (σ.set l B') ⟨s.β.set l L',M',w',s.own⟩:=by
 have C:l<σ.length:=(bY.1 r).1;have D:l<s.β.length:=(bY.1 k).1;have a:∀i X,(s.β.set l L')[i]?=aa X->(i=l/\X=L')∨(i≠l/\s.β[i]?=aa X):=by grind
 have ex:Ext σ s (σ.set l B') ⟨s.β.set l L',M',w',s.own⟩:=by
  refine⟨m,λi X Y c n=>?_⟩;by_cases e:l=i
  .grind
  .exact⟨X,Y,by grind,by grind,.refl _ _⟩
 have out:∀i X,i≠l->s.β[i]?=aa X->∀b∈X.bs,b<s.w.heap.size/\b∉L.bs:=by intro i X hi c b f;exact⟨hh.lt X (bJ c) b f,λx=>hi (hh.eB i l X L c k b f x)⟩
 refine⟨⟨J,by simp[hh.len],?_,?_,?_,?_⟩,⟨y,?_,m,?_,?_,ex.box,I,G,K,rfl⟩⟩
 .intro i X Y c n;rcases a i Y n with⟨rfl,rfl⟩|⟨hi,n⟩
  .grind
  .rw[j7 (λe=>hi e.symm)]at c;refine(hh.box i X Y c n).carry ex hh.len λb f=>?_;grind
 .intro i z X A c h b f u;rcases a i X c with⟨rfl,rfl⟩|⟨hi,p⟩<;>rcases a z A h with⟨rfl,rfl⟩|⟨q,j⟩
  .rfl
  .grind
  .grind
  .exact hh.eB i z X A p j b f u
 .intro X c b f;obtain⟨i,hi,rfl⟩:=dL c;rcases a i _ (br hi)with⟨rfl,e⟩|⟨q,h⟩
  .grind
  grind
 .intro b f;obtain⟨N,O⟩:=hh.own b f;grind
 .grind
 .grind
 grind
def rR{a old bytes:Nat}(h:old<a)(b:a*bytes<=140737488355328):¬Builtin.nextslicecap a old*bytes>2 ^ 48:=by have:=growslice_fits h b;omega
section
variable {P:ar}{T:List (Nat×TI)}(hT:cO P T){σ:List aP}{s:St}{t g ty E:aj}{i i2 d:TI}
def jc(hi:dy P t i)(p:i.desc=.slice E)(j:dy P g i2)(h:i2.desc=.slice E)(q:dy P E d)(v:aF σ s){a:Option Addr}{n cap:Nat}(e:n<=cap){x:ah}{tx:Bool}{es':Nat->List C}(o:Rd s.M x (.sl tx d.size 0 es')):
  (Builtin.append_ #[t,g] ty #[.slice a n cap,x]).run P s.w=.ok (.slice a n cap) s.w:=by obtain⟨b,u,r,l⟩:=dY (P:=P) v o;have m:=hi.run_underlying (w:=s.w);have c:=j.run_underlying (w:=s.w);rw[p]at m;rw[h]at c;obtain⟨a',k,vs,rfl,_⟩:=o.flat;have f:b=[]:=jg (by simpa using u.len);subst f;cases a<;>simp[Builtin.append_,m,c,q.run_sizeOf,Builtin.lenOf,e,r,storeCells]
def iv(hi:dy P t i)(Q:i.desc=.slice E)(A:dy P g i2)(y:i2.desc=.slice E)(J:dy P E d)(U:aF σ s){a:Option Addr}{n cap m:Nat}{td tx:Bool}{es es':Nat->List C}{x:ah}(Y:Rd s.M (.slice a n cap) (.sl td d.size n es))(S:Rd s.M x (.sl tx d.size m es'))(hg:cap<n+m)(L:(n+m)*d.bytes<=140737488355328)(G:d.bytes≠0):
  ∃vs zs Ni,Flat s.M d.size (n+m) (cA n es es') vs/\n+m<=Ni/\Ni<=9223372036854775807/\(vs++zs).length=Ni*d.size /\
   (Builtin.append_ #[t,g] ty #[.slice a n cap,x]).run P s.w=.ok (.slice (aa ⟨s.w.heap.size,0,ae⟩) (n+m) Ni) (s.w.drew.alloc (.cells (vs++zs).toArray E)):=by
 have p:aF σ {s with w:=s.w.drew}:=U.same rfl;obtain⟨b,O,H,q⟩:=dY (P:=P) p (v:=x) S;obtain⟨c,j,h,V⟩:=dY (P:=P) p (v:=.slice a n cap) Y;have N:=hi.run_underlying (w:=s.w);have r:=A.run_underlying (w:=s.w);rw[Q]at N;rw[y]at r;obtain⟨l,z,K,z2,z3,W,z5,z6,z7⟩:=J.info;have R:n+m<=140737488355328:=iq (uX _ (Nat.pos_of_ne_zero G)) L;have D:z.cells.size=d.size:=by have:=dA List.length z5;grind
 refine⟨c++b,(Builtin.zeroCells z.cells (grownCap s.w (n+m) cap E-(n+m))).toList,grownCap s.w (n+m) cap E,j.append O,grownCap_ge _ _ _ _,?_,?_,?_⟩
 .have:=grownCap_le_maxLen s.w (n+m) cap E (by unfold maxLen;omega);unfold maxLen at this;omega
 .have X:=grownCap_ge s.w (n+m) cap E;simp only[cX,j.len,O.len,ji,size_zeroCells,D,<-iu];grind
 .have ZT:=rR hg L;have o:¬Builtin.nextslicecap (n+m) cap*l.bytes>2 ^ 48:=by grind
  have k:¬n+m<=cap:=by omega
  have B:¬((n+m:Nat):Int)>IntKind.i64.max:=by have e:IntKind.i64.max=9223372036854775807:=rfl;grind
  have I:∀u,(typeInfo E).run P u=.ok l u:=λu=>by simp[typeInfo,K]
  have F:∀u,(zeroValue E).run P u=.ok z u:=λu=>by simp[zeroValue,typeInfo,K,W]
  have f:(Builtin.lenOf x).run P s.w=.ok m s.w:=by rw[q];rfl
  replace H:(Builtin.firstCells d.size m x).run P s.w.drew=.ok b.toArray s.w.drew:=H;replace h:(Builtin.firstCells d.size n (.slice a n cap)).run P s.w.drew=.ok c.toArray s.w.drew:=h
  unfold Builtin.append_;simp only[ik,la,nV,bL,N,r,bU,J.run_sizeOf,dq,jA,b7,f,k,
   B,false_and,I,o,run_choose,Question.forced,run_askRoom,rP,World.drew_eq,h,H,oc,cj,F]
  simp[Go.newRow,grownCap];have e:∀Z:Array ah,(c++b).toArray++Z=(c++(b++Z.toList)).toArray:=λZ=>by grind
  rw[e];rfl
def kh(hi:dy P t i)(y:i.desc=.slice E)(o:dy P g i2)(l:i2.desc=.slice E)(z:dy P E d)(B:aF σ s){b n cap m:Nat}{q:aj}{c:List ah}(F:s.w.heap[b]?=aa (.cells c.toArray q (0,0)))(f:c.length=cap*d.size){tx:Bool}{es':Nat->List C}{x:ah}(A:Rd s.M x (.sl tx d.size m es'))(r:n+m<=cap):
  ∃a,Flat s.M d.size m es' a/\(Builtin.append_ #[t,g] ty #[.slice (aa ⟨b,0,ae⟩) n cap,x]).run P s.w=.ok (.slice (aa ⟨b,0,ae⟩) (n+m) cap) (s.w.setRow b (c.take (n*d.size)++a++c.drop (n*d.size+a.length)).toArray):=by
 obtain⟨a,p,D,j⟩:=dY (P:=P) B A;have u:=hi.run_underlying (w:=s.w);have h:=o.run_underlying (w:=s.w);rw[y]at u;rw[l]at h;have v:n*d.size+a.length<=c.length:=by rw[p.len,f,<-iu];exact eC _ r
 have k:=run_storeCells_at P b (n*d.size) q a 0 c.toArray s.w F (by grind) p.cell;simp only[ir]at k;have e:(Builtin.lenOf x).run P s.w=.ok m s.w:=by rw[j];rfl
 refine⟨a,p,?_⟩;unfold Builtin.append_;simp only[ik,la,nV,bL,u,h,bU,z.run_sizeOf,dq,jA,b7,e,r,cj,oc,D,dm,bC,k]
end
def Dz{α:Type}{P:ar}{x:Sem α}{w:aA}{es:Array Event}{e:Event}(h:e∈x.events P w es):e∈es∨e∈x.events P w #[]:=by grind[Sem.events_acc]
def ZU(s:St)(e:Event):Prop:=∃b o u,e=zx b o/\s.M b o=aa u
def g8{P:ar}{σ:List aP}{s:St}(D:aF σ s){v:ah}{t:Bool}{k n:Nat}{es:Nat->List C}(h:Rd s.M v (.sl t k n es)){w:aA}(z:w.heap=s.w.heap):
  ∀e∈(Builtin.firstCells k n v).events P w #[],ZU s e:=by
 obtain⟨a,cap,vs,rfl,q,F,I,A,y⟩:=h.flat;have G:vs.length=n*k:=A.len;intro e f;cases a with
 |none=>simp[Builtin.firstCells]at f
 |some ad =>
  simp only[Builtin.firstCells]at f;have c:∀j,j<n*k->∃b off u,ad=⟨b,off,ae⟩/\s.M b (off+j)=aa u:=by intro j o;obtain⟨b,off,H,m⟩:=y j (vs[j]'(by omega)) (br (by omega));grind
  by_cases r:n*k=0
  .rw[r]at f;simp[loadCells,loadCellsFrom]at f
  .obtain⟨b,off,_,rfl,_⟩:=c 0 (by omega);have B:∀j,j<n*k->∃v,w.cell? ⟨b,off+j,ae⟩=aa v:=by intro j o;obtain⟨x,l,u,p,m⟩:=c j o;cases p;have:=D.mem _ _ _ m;exact⟨u,by simp only[aV,z]at this⊢;exact this⟩
   rcases rS (P:=P) B e f with h|⟨j,o,rfl⟩
   .grind
   .obtain⟨x,l,u,p,m⟩:=c j o;cases p;exact⟨_,_,u,rfl,m⟩
theorem s9{s:St}{e:Event}(h:ZU s e):od s e:=by obtain⟨b,o,u,rfl,a⟩:=h;exact Bn a
section
variable {P:ar}{σ:List aP}{s:St}{t g ty E:aj}{i i2 d:TI}
def jE(hi:dy P t i)(v:i.desc=.slice E)(k:dy P g i2)(j:i2.desc=.slice E)(y:dy P E d)(r:aF σ s){a:Option Addr}{n cap:Nat}(f:n<=cap){x:ah}{tx:Bool}{es':Nat->List C}(m:Rd s.M x (.sl tx d.size 0 es')):
  eY s ((Builtin.append_ #[t,g] ty #[.slice a n cap,x]).events P s.w #[]):=by obtain⟨b,A,z,p⟩:=dY (P:=P) r m;have l:=g8 (P:=P) r m (w:=s.w) rfl;have q:=hi.run_underlying (w:=s.w);have c:=k.run_underlying (w:=s.w);rw[v]at q;rw[j]at c;obtain⟨a',o,vs,rfl,_⟩:=m.flat;have h:b=[]:=jg (by simpa using A.len);subst h;intro e u;refine s9 (l e ?_);cases a<;>simpa[Builtin.append_,q,c,y.run_sizeOf,Builtin.lenOf,f,z,storeCells]using u
def iW(hi:dy P t i)(Y:i.desc=.slice E)(H:dy P g i2)(F:i2.desc=.slice E)(Q:dy P E d)(G:aF σ s){a:Option Addr}{n cap m:Nat}{td tx:Bool}{es es':Nat->List C}{x:ah}(U:Rd s.M (.slice a n cap) (.sl td d.size n es))(R:Rd s.M x (.sl tx d.size m es'))(hg:cap<n+m)(W:(n+m)*d.bytes<=140737488355328)(L:d.bytes≠0):
  eY s ((Builtin.append_ #[t,g] ty #[.slice a n cap,x]).events P s.w #[]):=by
 have A:aF σ {s with w:=s.w.drew}:=G.same rfl;obtain⟨y,hF,N,b⟩:=dY (P:=P) A (v:=x) R;obtain⟨D,hFo,k,hlo⟩:=dY (P:=P) A (v:=.slice a n cap) U;have I5:=g8 (P:=P) G R (w:=s.w.drew) rfl;have V:=g8 (P:=P) G U (w:=s.w.drew) rfl;have X:=hi.run_underlying (w:=s.w);have B:=H.run_underlying (w:=s.w);rw[Y]at X;rw[F]at B;obtain⟨f,z,S,z2,z3,z4,z5,z6,z7⟩:=Q.info;have Z:n+m<=140737488355328:=iq (uX _ (Nat.pos_of_ne_zero L)) W;have ZT:=rR hg W;have q:¬Builtin.nextslicecap (n+m) cap*f.bytes>2 ^ 48:=by grind
 have p:¬n+m<=cap:=by omega
 have I:¬((n+m:Nat):Int)>IntKind.i64.max:=by have e:IntKind.i64.max=9223372036854775807:=rfl;grind
 have O:∀u,(typeInfo E).run P u=.ok f u:=λu=>by simp[typeInfo,S]
 have K:∀u,(zeroValue E).run P u=.ok z u:=λu=>by simp[zeroValue,typeInfo,S,z4]
 have j:(Builtin.lenOf x).run P s.w=.ok m s.w:=by rw[b];rfl
 have l:(Builtin.lenOf x).events P s.w #[]=#[]:=by rw[b];rfl
 replace N:(Builtin.firstCells d.size m x).run P s.w.drew=.ok y.toArray s.w.drew:=N;replace k:(Builtin.firstCells d.size n (.slice a n cap)).run P s.w.drew=.ok D.toArray s.w.drew:=k
 intro e o;unfold Builtin.append_ at o;simp only[ik,la,nV,aM,bL,X,B,bU,aO,Q.run_sizeOf,dq,jA,b7,j,l,p,
  I,false_and,O,q,run_choose,Question.forced,run_askRoom,rP,Sem.events_ite,World.drew_eq,k,N,oc,cj,K,events_underlying,events_sizeOf,events_typeInfo,events_choose,events_zeroValue,Sem.events_pure]at o
 have J:∀(x:Nat) (w:aA) (e:Event),e∈(askRoom x).events P w #[]->e=⟨.mark .noRoom,af,ab⟩:=by intro x w e h;unfold askRoom at h;simp_all
 rw[c7.newRow (P:=P)]at o;generalize(Go.newRow E _).run P s.w.drew=r at o;have c:e∈(Builtin.firstCells d.size m x).events P s.w.drew ((Builtin.firstCells d.size n (.slice a n cap)).events P s.w.drew ((askRoom ((Question.appendCap (n+m) cap E).cut (s.w.tape s.w.drawn (Question.appendCap (n+m) cap E))*f.bytes)).events P s.w.drew #[])):=by
  cases r with
  |ok v w'=>simpa using o
  |halt v w'=>simpa using o
 rcases Dz c with c|c
 .rcases Dz c with c|c
  .rw[J _ _ _ c];exact .inl rfl
  grind[s9]
 grind[s9]
def lU(hi:dy P t i)(K:i.desc=.slice E)(v:dy P g i2)(u:i2.desc=.slice E)(N:dy P E d)(F:aF σ s){b n cap m:Nat}{B:aj}{a:List ah}(J:s.w.heap[b]?=aa (.cells a.toArray B (0,0)))(p:a.length=cap*d.size){tx:Bool}{es':Nat->List C}{x:ah}(D:Rd s.M x (.sl tx d.size m es'))(G:n+m<=cap){L:Loc}(U:L∈s.β)(Q:b∈L.bs)(y:∀o,n*d.size<=o->s.M b o=ae):
  eY s ((Builtin.append_ #[t,g] ty #[.slice (aa ⟨b,0,ae⟩) n cap,x]).events P s.w #[]):=by
 obtain⟨c,A,R,f⟩:=dY (P:=P) F D;have O:=g8 (P:=P) F D (w:=s.w) rfl;have H:=hi.run_underlying (w:=s.w);have q:=v.run_underlying (w:=s.w);rw[K]at H;rw[u]at q;have I:n*d.size+c.length<=a.length:=by rw[A.len,p,<-iu];exact eC _ G
 have r:=run_storeCells_at P b (n*d.size) B c 0 a.toArray s.w J (by grind) A.cell;simp only[ir]at r;have k:(Builtin.lenOf x).run P s.w=.ok m s.w:=by rw[f];rfl
 have l:(Builtin.lenOf x).events P s.w #[]=#[]:=by rw[f];rfl
 intro e z;unfold Builtin.append_ at z;simp only[ik,la,nV,aM,bL,H,q,aO,N.run_sizeOf,dq,jA,b7,k,l,G,cj,oc,R,dm,bC,r,
  rP,Sem.events_ite,events_underlying,events_sizeOf,Sem.events_pure]at z
 rcases dE c 0 a.toArray s.w _ J (by grind) A.cell e z with h|⟨j,V,S,rfl⟩
 .grind [s9]
 grind[jF]
end
structure lz(P:ar)(o:au)(x y:ak)(E:aj)(d:TI):Prop where
 op:∃t g i i2,o.op=.call {callee:=.builtin .append,args:=#[x,y],argTypes:=#[t,g]}/\dy P t i/\i.desc=.slice E/\dy P g i2/\i2.desc=.slice E
 elem:dy P E d
 bytes:d.bytes≠0
 size:d.size≠0
def St.grown(s:St)(E:aj)(vs zs:List ah)(β:List Loc):St :=
 {β:=β,M:=λb o=>if b=s.w.heap.size then vs[o]? else s.M b o,w:=s.w.drew.alloc (.cells (vs++zs).toArray E),own:=s.own}
def yp{σ:List aP}{s:St}(h:aF σ s)(E:aj)(vs zs:List ah):∀b o v,(if b=s.w.heap.size then vs[o]? else s.M b o)=aa v->(s.w.drew.alloc (.cells (vs++zs).toArray E)).cell? ⟨b,o,ae⟩=aa v:=by
 intro b o v a;by_cases e:b=s.w.heap.size
 .subst e;simp only[cj]at a;unfold aV;have:(s.w.drew.alloc (.cells (vs++zs).toArray E)).heap[s.w.heap.size]?=aa (.cells (vs++zs).toArray E):=dG s.w.drew _;grind
 .simp only[e,b7]at a;have c:=h.block a;rw[<-h.mem b o v a];unfold aV;have:(s.w.drew.alloc (.cells (vs++zs).toArray E)).heap[b]?=s.w.heap[b]?:=cJ s.w.drew _ c;grind
def yq{σ:List aP}{s:St}(h:aF σ s)(vs:List ah):∀b o v,s.M b o=aa v->(if b=s.w.heap.size then vs[o]? else s.M b o)=aa v:=by intro b o v a;have:=h.block a;grind
theorem eH{P:ar}{s:St}{m:Sem ah}(h:eY s (m.events P s.w #[])):eY s ((do pure (.value (<-m)):Sem Next).events P s.w #[]):=by simp_all
theorem dg{o:au}{x y:ak}{t g:aj}(h:o.op=.call {callee:=.builtin .append,args:=#[x,y],argTypes:=#[t,g]})(a:ak->ah):
  aw a o=(do pure (.value (<-Builtin.append_ #[t,g] o.type #[a x,a y]))):=by simp[aw,h,resolve,invoke,builtin]
def Rd.loose{M:Mem}{v:ah}{t:Bool}{k n:Nat}{es:Nat->List C}(h:Rd M v (.sl t k n es)):Rd M v (.sl af k n es):=by
 cases h with
 |sl b off f a c e hk ha hm hr=>exact .sl b off f a c (by simp) hk ha hm hr
def Rd.Dx{M:Mem}{v:ah}{t:Bool}{k n:Nat}{es es':Nat->List C}(m:∀i,i<n->es i=es' i)(h:Rd M v (.sl t k n es)):Rd M v (.sl t k n es'):=by
 cases h with
 |sl b off f a l e hk ha hm hr=>exact .sl b off f a l e (λi hi=>by grind) ha (λi hi j c hj=>hm i hi j c (by grind)) (λi hi j c hj=>hr i hi j c (by grind))
def Rd.vb{M:Mem}{v:ah}{k k' n:Nat}{es:Nat->List C}(hk:k=k'∨n=0)(h:Rd M v (.sl ab k n es)):Rd M v (.sl ab k' n es):=by
 rcases hk with rfl|rfl
 .exact h
 .obtain⟨a,cap,vs,c,e,b,f,_⟩:=h.flat;grind[Rd.jG]
def pZ{σ:List aP}{s:St}{l:Nat}{E:aj}{k n:Nat}{es:Nat->List C}{L:Loc}(hB:σ[l]?=aa (.vec E k n es))(b:s.β[l]?=aa L)(h:et σ s (.vec E k n es) L):gn σ s L.v (.vec l k n es):=by refine⟨h.1,(bY.1 hB).1,λa k' n' es' he=>?_⟩;grind
def bF.oZ{P:ar}{o:au}{R:ak->D}{σ:List aP}{x y:ak}{E:aj}{d:TI}(h:lz P o x y E d){n m k:Nat}{tx:Bool}{es es':Nat->List C}(X:R x=.e (.one (.c (.sl ab k n es))))(hk:k=d.size∨n=0)(hy:∀s v,dk σ s v (R y)->Rd s.M v (.sl tx d.size m es'))(A:(n+m)*d.bytes<=140737488355328)(hz:n=0∨0<m):
  bF P o R σ (.e (.one (.vec σ.length d.size (n+m) (cA n es es')))) (σ++[.vec E d.size (n+m) (cA n es es')]):=by
 intro s ρ hh hr;obtain⟨t,g,i,i2,Q,hi,J,z,r⟩:=h.op;have h1:=hr x;rw[X]at h1;have l:=Rd.vb hk (eT h1);have h2:=hy s _ (hr y);obtain⟨a,cap,vs,hv,B,I6,Y,hF,W⟩:=l.flat;have O:cap=n:=Y rfl;subst O;rw[dg Q];rw[hv]at l⊢;by_cases Z:m=0
 .subst Z;have q:=jc (P:=P) (ty:=o.type) hi J z r h.elem hh (a:=a) B h2;simp only[ir];have l:=Rd.Dx (es':=cA cap es es') (λi hi=>by grind) l;have hB:et (σ++[.vec E d.size cap (cA cap es es')]) {s with β:=s.β++[⟨.slice a cap cap,[]⟩]} (.vec E d.size cap (cA cap es es')) ⟨.slice a cap cap,[]⟩:=⟨l.loose,.inl ⟨⟨rfl,by omega⟩,l⟩⟩
  obtain⟨K,L⟩:=hh.hO (.refl _ _) rfl hh hB (by simp);refine⟨.value (.slice a cap cap),_,?_,?_,K,L,eH (jE hi J z r h.elem hh B h2)⟩
  .simp[q]
  .exact pZ (by simp) (by simp[<-hh.len]) hB
 .have V:cap<cap+m:=by omega
  obtain⟨j,G,f,H,S,N,I,q⟩:=iv (P:=P) (ty:=o.type) hi J z r h.elem hh l h2 V A h.bytes;have F:aF σ (s.grown E j G s.β)/\Step σ s σ (s.grown E j G s.β) :=
   hh.grow (by simp) (λb A=>cJ s.w.drew _ A) (λb A o=>by grind)
    (λb A o v W=>yp hh E j G b o v W) rfl rfl rfl
  have U:Rd (s.grown E j G s.β).M (.slice (aa ⟨s.w.heap.size,0,ae⟩) (cap+m) f) (.sl af d.size (cap+m) (cA cap es es')) :=
   Rd.qR (H.mono F.2.mem) (b:=s.w.heap.size) (off:=0) (λ_=>rfl) S N (by simp) (λp u hp=>by simpa[St.grown]using hp)
  have hB:et (σ++[.vec E d.size (cap+m) (cA cap es es')]) {(s.grown E j G s.β)with β:=(s.grown E j G s.β).β++[⟨.slice (aa ⟨s.w.heap.size,0,ae⟩) (cap+m) f,[s.w.heap.size]⟩]} (.vec E d.size (cap+m) (cA cap es es')) ⟨.slice (aa ⟨s.w.heap.size,0,ae⟩) (cap+m) f,[s.w.heap.size]⟩:=by
   refine⟨U,.inr ⟨s.w.heap.size,f,j++G,rfl,dG s.w.drew _,I,λo Q=>?_⟩⟩;have hl:j.length<=o:=by rw[H.len];exact Q
   simp[St.grown,rG hl]
  obtain⟨K,L⟩:=F.1.hO F.2 rfl hh hB (λb A=>by simp at A;subst A;refine⟨bh _,?_⟩;simp[St.grown])
  refine⟨.value (.slice (aa ⟨s.w.heap.size,0,ae⟩) (cap+m) f),_,?_,?_,K,L,eH (iW hi J z r h.elem hh l h2 V A h.bytes)⟩
  .simp[q];rfl
  .exact pZ (by simp) (by simp[St.grown,<-hh.len]) hB
def bF.G8{P:ar}{o:au}{η:ak->D}{σ:List aP}{x y:ak}{E:aj}{d:TI}(h:lz P o x y E d){l n m:Nat}{tx:Bool}{es es':Nat->List C}(hx:η x=.e (.one (.vec l d.size n es)))(hl:σ[l]?=aa (.vec E d.size n es))(hy:∀s v,dk σ s v (η y)->Rd s.M v (.sl tx d.size m es'))(Q:(n+m)*d.bytes<=140737488355328):
  bF P o η σ (.e (.one (.vec l d.size (n+m) (cA n es es')))) (σ.set l (.vec E d.size (n+m) (cA n es es'))):=by
 intro s ρ hh hr;obtain⟨t,g,i,i2,ho,hi,Z,I,G⟩:=h.op;have QW:l<σ.length:=(bY.1 hl).1;have h1:=hr x;rw[hx]at h1;obtain⟨R,_,h1v⟩:=h1;obtain⟨L,U,hv⟩:=(h1v _ _ _ _ hl).2 rfl;have h2:=hy s _ (hr y);have QX:l<s.β.length:=(bY.1 U).1;have K:=hh.box l _ L hl U;obtain⟨a,cap,vs,Nj,V,I6,ht,hF,hm⟩:=R.flat;rw[dg ho,Nj];rw[Nj]at R;have S:L.v=.slice a n cap:=by grind
 by_cases h0:m=0
 .subst h0;have r:=jc (P:=P) (ty:=o.type) hi Z I G h.elem hh (a:=a) V h2;simp only[ir];have ha:∀i,i<n->es i=cA n es es' i:=λi hi=>by simp[cA,hi]
  have WR:et (σ.set l (.vec E d.size n (cA n es es'))) ⟨s.β.set l L,s.M,s.w,s.own⟩ (.vec E d.size n (cA n es es')) L:=by
   refine⟨K.1.Dx ha,?_⟩;rcases K.2 with⟨h3,h4⟩|h3
   .exact .inl ⟨h3,h4.Dx ha⟩
   grind
  have f:=hh.gz (M':=s.M) (w':=s.w) (B':=.vec E d.size n (cA n es es')) (L':=L) hl U ⟨λ_=>rfl,bh _⟩ (bh _) (λ_ _ _=>rfl) (λ_ _ _ _=>rfl) (λ_ _ _ h=>h) hh.mem
   (λb Q=>⟨.inl Q,hh.lt L (bJ U) b Q⟩) rfl rfl rfl WR
  refine⟨.value (.slice a n cap),_,?_,?_,f.1,f.2,eH (jE hi Z I G h.elem hh V h2)⟩
  .simp[r]
  .rw[<-S];exact pZ (E:=E) (by grind) (by grind) WR
 .have O:¬(n+m=n):=by omega
  by_cases k:n+m<=cap
  .rcases K.2 with⟨T8,F⟩|⟨b,Nk,q,rfl,hw,N,W⟩
   .rw[S]at F;obtain⟨_,_,_,e,_,_,ht2,_⟩:=F.flat;grind
   .simp only at S;cases S;obtain⟨c,MY,r⟩:=kh (P:=P) (ty:=o.type) hi Z I G h.elem hh hw N h2 k;have TC:c.length=m*d.size:=MY.len;have Xy:b<s.w.heap.size:=(ij.1 hw).1;let M':Mem:=λB o=>if B=b/\n*d.size<=o/\o<(n+m)*d.size then c[o-n*d.size]? else s.M B o;have G9:q.length=cap*d.size:=N;have hnm:(n+m)*d.size=n*d.size+m*d.size:=iu _ _ _;have ZV:(n+m)*d.size<=cap*d.size:=eC _ k;have T9:∀B o v,s.M B o=aa v->M' B o=aa v:=by grind
    have QV:∀p u,c[p]?=aa u->M' b (n*d.size+p)=aa u:=by grind
    have Y:Rd M' (.slice (aa ⟨b,0,ae⟩) (n+m) cap) (.sl af d.size (n+m) (cA n es es')):=by refine Rd.qR (vs:=vs++c) ((hF.append MY).mono T9) (b:=b) (off:=0) (λ_=>rfl) k I6 (by simp) (λp u hp=>?_);have PO:vs.length=n*d.size:=hF.len;grind
    have f:=hh.gz (M':=M') (w':=s.w.setRow b (q.take (n*d.size)++c++q.drop (n*d.size+c.length)).toArray) (B':=.vec E d.size (n+m) (cA n es es')) (L':=⟨.slice (aa ⟨b,0,ae⟩) (n+m) cap,[b]⟩) hl U
     ⟨λe=>absurd e O,by omega⟩ (by simp) (λB _ H=>setRow_other _ _ _ _ (by grind)) (λB _ H o=>by
      grind) T9 ?_ (λB H=>by simp at H;subst H;exact⟨.inl (by simp),by simpa using Xy⟩) rfl rfl rfl ?_
    .refine⟨.value (.slice (aa ⟨b,0,ae⟩) (n+m) cap),_,?_,?_,f.1,f.2,eH (lU hi Z I G h.elem hh hw N h2 k (bJ U) (by simp) W)⟩
     .simp[r]
     .exact pZ (L:=⟨.slice (aa ⟨b,0,ae⟩) (n+m) cap,[b]⟩) (E:=E) (by grind) (by grind) (f.1.box l _ _ (by grind) (by grind))
    .intro B o v J;by_cases H:B=b
     .subst H;have X:∀j,(s.w.setRow B (q.take (n*d.size)++c++q.drop (n*d.size+c.length)).toArray).cell? ⟨B,j,ae⟩=(q.take (n*d.size)++c++q.drop (n*d.size+c.length))[j]?:=by grind[cell_setRow_same]
      rw[X];simp only[M']at J;have hkl:(q.take (n*d.size)).length=n*d.size:=by rw[List.length_take];omega
      split at J
      .grind
      .rename_i hc;have h3:=hh.mem B o v J;have ho:o<n*d.size:=by grind
       rw[lS,jz (by omega),iN,bl ho];simp only[aV,hw]at h3;grind
     .simp only[M']at J;rw[aZ (by omega)]at J;rw[<-hh.mem B o v J];simp only[aV];grind[setRow_other]
    .refine⟨Y,.inr ⟨b,cap,_,rfl,setRow_heap _ _ _ _ _ _ hw,?_,λo ho=>?_⟩⟩
     .grind
     grind
  .have hg:cap<n+m:=by omega
   obtain⟨A,zs,z,Ng,WT,WU,hlen,r⟩:=iv (P:=P) (ty:=o.type) hi Z I G h.elem hh R h2 hg Q h.bytes;have hbl:∀b∈L.bs,b<s.w.heap.size:=hh.lt L (bJ U);have Y:Rd (λb o=>if b=s.w.heap.size then A[o]? else s.M b o) (.slice (aa ⟨s.w.heap.size,0,ae⟩) (n+m) z) (.sl af d.size (n+m) (cA n es es')) :=
    Rd.qR (Ng.mono (yq hh A)) (b:=s.w.heap.size) (off:=0) (λ_=>rfl) WT WU (by simp) (λp u hp=>by grind)
   have f:=hh.gz (M':=λb o=>if b=s.w.heap.size then A[o]? else s.M b o) (w':=s.w.drew.alloc (.cells (A++zs).toArray E)) (B':=.vec E d.size (n+m) (cA n es es')) (L':=⟨.slice (aa ⟨s.w.heap.size,0,ae⟩) (n+m) z,[s.w.heap.size]⟩) hl U
    ⟨λe=>absurd e O,by omega⟩ (by simp) (λb Q _=>cJ s.w.drew _ Q) (λb Q _ o=>by grind) (yq hh A) (yp hh E A zs) (λb Q=>by
     simp at Q;subst Q;exact⟨.inr (bh _),by simp⟩) rfl rfl rfl ⟨Y,.inr ⟨s.w.heap.size,z,A++zs,rfl,dG s.w.drew _,hlen,λo ho=>by
      have hl:A.length<=o:=by rw[Ng.len];exact ho
      grind⟩⟩
   refine⟨.value (.slice (aa ⟨s.w.heap.size,0,ae⟩) (n+m) z),_,?_,?_,f.1,f.2,eH (iW hi Z I G h.elem hh R h2 hg Q h.bytes)⟩
   .simp[r]
   .exact pZ (L:=⟨.slice (aa ⟨s.w.heap.size,0,ae⟩) (n+m) z,[s.w.heap.size]⟩) (E:=E) (by grind) (by grind) (f.1.box l _ _ (by grind) (by grind))
def jK{α:Type}:List Nat->List α->Option (List α)
 |[],_=>aa []
 |k::ks,l=>match du k l with
  |some x=>match jK ks l with
   |some r=>aa (x::r)
   |none=>ae
  |none=>ae
def ff{α:Type}:∀(n:Nat)(l:List α),du n l=l[n]?
 |_,[]=>by simp[du]
 |0,x::_=>by simp[du]
 |n+1,_::xs=>by simpa[du]using ff n xs
def iJ{α:Type}:∀{ks:List Nat}{l r:List α},jK ks l=aa r->r.length=ks.length/\∀(j k:Nat),ks[j]?=aa k->∃x,r[j]?=aa x/\l[k]?=aa x
 |[],l,r,h=>by cases h;simp
 |k::ks,l,r,h=>by
  simp only[jK]at h;cases b:du k l with
  |none=>grind
  |some x =>
   cases a:jK ks l with
   |none=>grind
   |some q =>
    simp[b,a]at h;subst h;obtain⟨d,c⟩:=iJ a;grind[bZ]
def vP{α d:Type}:∀{ks:List Nat}{l r:List α}{l':List d},jK ks l=aa r->l'.length=l.length->∃r',jK ks l'=aa r'
 |[],l,r,l',_,_=>⟨[],rfl⟩
 |k::ks,l,r,l',h,b=>by
  simp only[jK]at h;cases e:du k l with
  |none=>grind
  |some x =>
   cases c:jK ks l with
   |none=>grind
   |some q =>
    obtain⟨r',a⟩:=vP (l':=l') c b;have hk:k<l'.length:=by rw[b];exact(bY.1 (bZ e)).1
    exact⟨l'[k]::r',by simp[jK,ff,hk,a]⟩
def oN(ks:List Nat):A->A
 |.ptr l o=>match du l ks with|some k=>.ptr k o|none=>.any
 |.vec l k n es=>match du l ks with|some m=>.vec m k n es|none=>.c (.sl af k n es)
 |.ref l=>match du l ks with|some k=>.ref k|none=>.any
 |.bp l w=>match du l ks with|some k=>.bp k w|none=>.any
 |.c x=>.c x
 |.any=>.any
def By(ks:List Nat):List A->List A
 |[]=>[]
 |a::r=>oN ks a::By ks r
def zD(ks:List Nat):E1->E1
 |.one a=>.one (oN ks a)
 |.agg cs=>.agg (By ks cs)
def yt(ks:List Nat):List E1->List E1
 |[]=>[]
 |a::r=>zD ks a::yt ks r
def hZ(ks:List Nat):D->D
 |.e x=>.e (zD ks x)
 |.eX xs=>.eX (yt ks xs)
 |.any=>.any
def fI(ks:List Nat):List D->List D
 |[]=>[]
 |a::r=>hZ ks a::fI ks r
def DI:A->Bool
 |.c _|.any=>ab
 |_=>af
def zF:List A->Bool
 |[]=>ab
 |a::r=>match DI a with|true=>zF r|false=>af
def vQ:aP->Bool
 |.cells _ cs=>zF cs
 |.loop ..=>af
 |_=>ab
def cq:List aP->Bool
 |[]=>ab
 |a::r=>match vQ a with|true=>cq r|false=>af
def kK:∀{l:List aP},cq l=ab->∀B∈l,vQ B=ab
 |[],_,B,hB=>by grind
 |b::r,h,B,hB=>by
  simp only[cq]at h;cases a:vQ b with
  |false=>grind
  |true =>
   simp only[a]at h;rcases eE.1 hB with rfl|hB
   .exact a
   .exact kK h B hB
def dX.plain{σ σ':List aP}{s s':St}(e:s'.M=s.M):∀{vs:List ah}{cs:List A},zF cs=ab->dX σ s vs cs->dX σ' s' vs cs
 |[],[],_,_=>trivial
 |[],_::_,_,h=>h.elim
 |_::_,[],_,h=>h.elim
 |v::vs,a::al,b,h=>by
  simp only[zF]at b;cases d:DI a with
  |false=>grind
  |true =>
   simp only[d]at b;refine⟨?_,dX.plain e b h.2⟩;cases a with
   |c x=>have:=h.1;simp only[gn]at this⊢;grind
   |any=>exact h.1
   |_=>simp[DI]at d
def et.plain{σ σ':List aP}{s s':St}(a:s'.M=s.M)(c:s'.w=s.w){B:aP}{L:Loc}(d:vQ B=ab)(h:et σ s B L):et σ' s' B L:=by
 cases B with
 |cells E cs =>
  obtain⟨b,vs,h1,h2,e,f⟩:=h;exact⟨b,vs,h1,by grind,e.plain a d,λo=>by rw[a];grind⟩
 |vec E k n es=>simp only[et,a,c]at h⊢;exact h
 |b8 H=>simp only[et,a,c]at h⊢;exact h
 |dead=>trivial
 |loop N φ r=>simp[vQ]at d
 |qT=>simp only[et,a,c]at h⊢;exact h
 |buf E k n es=>simp only[et,a,c]at h⊢;exact h
def ia:Nat->List Nat->Bool
 |_,[]=>af
 |k,x::r=>match aB k x with|true=>ab|false=>ia k r
def dx:List Nat->Bool
 |[]=>ab
 |k::r=>match ia k r with|true=>af|false=>dx r
theorem vh:∀{k:Nat}{l:List Nat},k∈l->ia k l=ab
 |k,[],h=>by grind
 |k,x::r,h=>by
  simp only[ia];cases a:aB k x with
  |true=>rfl
  |false =>
   rcases eE.1 h with rfl|h
   .grind [Nat.beq_refl]
   .exact vh h
def vR:∀{l:List Nat},dx l=ab->∀(i j k:Nat),l[i]?=aa k->l[j]?=aa k->i=j
 |[],_,i,j,k,hi,_=>by grind
 |x::r,h,i,j,k,hi,a=>by
  simp only[dx]at h;cases c:ia x r with
  |true=>grind
  |false =>
   simp only[c]at h;have no:∀q,r[q]?=aa x->False:=λq b=>by have:=vh (bJ b);grind
   cases i with
   |zero =>
    grind
   |succ i =>
    cases j with
    |zero =>
     grind
    |succ j =>
     simp at hi a;rw[vR h i j k hi a]
def Hc(n:Nat):A->Bool
 |.ptr l _|.vec l _ _ _|.ref l|.bp l _=>bu (l+1) n
 |_=>ab
def FD(n:Nat):List A->Bool
 |[]=>ab
 |a::r=>match Hc n a with|true=>FD n r|false=>af
def Hd(n:Nat):E1->Bool
 |.one a=>Hc n a
 |.agg cs=>FD n cs
def x5(n:Nat):List E1->Bool
 |[]=>ab
 |a::r=>match Hd n a with|true=>x5 n r|false=>af
def vS(n:Nat):D->Bool
 |.e x=>Hd n x
 |.eX xs=>x5 n xs
 |.any=>ab
def ll(n:Nat):List D->Bool
 |[]=>ab
 |a::r=>match vS n a with|true=>ll n r|false=>af
section sub
variable {ks:List Nat}{σ σ':List aP}{s:St}{β':List Loc}
def gn.sub(u:jK ks σ=aa σ')(r:jK ks s.β=aa β'){v:ah}{a:A}(d:gn σ s v (oN ks a))(e:Hc ks.length a=ab):gn σ' {s with β:=β'} v a:=by
 obtain⟨C,j⟩:=iJ u;obtain⟨z,m⟩:=iJ r;cases a with
 |c x=>exact d
 |any=>exact d
 |ptr l o =>
  have hl:l<ks.length:=cV e;simp only[oN,ff,br hl]at d;obtain⟨h1,L,b,h2,f,q⟩:=d;obtain⟨x,i,t⟩:=j l _ (br hl);obtain⟨y,h,g⟩:=m l _ (br hl);rw[g]at h2;cases h2;exact⟨λB p=>h1 B (by grind),L,b,h,f,q⟩
 |vec l k n es =>
  have hl:l<ks.length:=cV e;simp only[oN,ff,br hl]at d;obtain⟨h1,h2,f⟩:=d;obtain⟨x,i,t⟩:=j l _ (br hl);obtain⟨y,h,g⟩:=m l _ (br hl);refine⟨h1,by grind,λE k' n' es' p=>?_⟩;grind
 |ref l =>
  have hl:l<ks.length:=cV e;simp only[oN,ff,br hl]at d;obtain⟨h1,L,h2,f,q⟩:=d;obtain⟨x,i,t⟩:=j l _ (br hl);obtain⟨y,h,g⟩:=m l _ (br hl);rw[g]at h2;cases h2;exact⟨λB p=>h1 B (by grind),L,h,f,q⟩
 |bp l w =>
  have hl:l<ks.length:=cV e;simp only[oN,ff,br hl]at d;obtain⟨lv,h1,h2,f⟩:=d;obtain⟨x,i,t⟩:=j l _ (br hl);obtain⟨y,h,g⟩:=m l _ (br hl);refine⟨lv,h1,(bY.1 i).1,λE k n es p=>?_⟩;grind
def gn.nj{σ2:List aP}{s2:St}(u:s2.M=s.M)(e:∀(j:Nat)(B:aP),σ[j]?=aa B->∃k,ks[j]?=aa k/\σ2[k]?=aa B)(h:∀(j:Nat)(L:Loc),s.β[j]?=aa L->∃k,ks[j]?=aa k/\s2.β[k]?=aa L)(t:s.β.length=σ.length){v:ah}{a:A}(f:gn σ s v a):gn σ2 s2 v (oN ks a):=by
 cases a with
 |c x=>simp only[oN,gn,u];exact f
 |any=>exact f
 |ptr l o =>
  obtain⟨h1,L,b,h2,g,m⟩:=f;obtain⟨k,k1,p⟩:=h l L h2;have hl:l<σ.length:=by grind
  obtain⟨k',d,q⟩:=e l _ (br hl);rw[k1]at d;cases d;simp only[oN,ff,k1];refine⟨λB i=>?_,L,b,p,g,m⟩;grind
 |vec l k n es =>
  obtain⟨h1,h2,g⟩:=f;obtain⟨k1,r,p2⟩:=e l _ (br h2);simp only[oN,ff,r];refine⟨by grind,(bY.1 p2).1,λE k' n' es' i=>?_⟩;grind
 |ref l =>
  obtain⟨h1,L,h2,g,m⟩:=f;obtain⟨k,k1,p⟩:=h l L h2;have hl:l<σ.length:=by grind
  obtain⟨k',d,q⟩:=e l _ (br hl);rw[k1]at d;cases d;simp only[oN,ff,k1];refine⟨λB i=>?_,L,p,g,m⟩;grind
 |bp l w =>
  obtain⟨lv,h1,h2,g⟩:=f;obtain⟨k1,r,p2⟩:=e l _ (br h2);simp only[oN,ff,r];refine⟨lv,h1,(bY.1 p2).1,λE k' n' es' i=>?_⟩;grind
def dX.sub(c:jK ks σ=aa σ')(b:jK ks s.β=aa β'):∀{vs:List ah}{cs:List A},dX σ s vs (By ks cs)->FD ks.length cs=ab->dX σ' {s with β:=β'} vs cs
 |[],[],_,_=>trivial
 |[],_::_,h,_=>h.elim
 |_::_,[],h,_=>h.elim
 |v::vs,a::al,h,d=>by
  simp only[FD]at d;cases e:Hc ks.length a with
  |false=>grind
  |true=>simp only[e]at d;exact⟨h.1.sub c b e,dX.sub c b h.2 d⟩
def m8.sub(c:jK ks σ=aa σ')(b:jK ks s.β=aa β'){v:ah}{x:E1}(h:m8 σ s v (zD ks x))(d:Hd ks.length x=ab):m8 σ' {s with β:=β'} v x:=by
 cases x with
 |one a=>exact gn.sub c b h d
 |agg cs=>obtain⟨vs,h1,h2⟩:=h;exact⟨vs,h1,h2.sub c b d⟩
def g6.sub(c:jK ks σ=aa σ')(b:jK ks s.β=aa β'):∀{vs:List ah}{xs:List E1},g6 σ s vs (yt ks xs)->x5 ks.length xs=ab->g6 σ' {s with β:=β'} vs xs
 |[],[],_,_=>trivial
 |[],_::_,h,_=>h.elim
 |_::_,[],h,_=>h.elim
 |v::vs,a::al,h,d=>by
  simp only[x5]at d;cases e:Hd ks.length a with
  |false=>grind
  |true=>simp only[e]at d;exact⟨h.1.sub c b e,g6.sub c b h.2 d⟩
def dk.sub(b:jK ks σ=aa σ')(a:jK ks s.β=aa β'){v:ah}{d:D}(h:dk σ s v (hZ ks d))(c:vS ks.length d=ab):dk σ' {s with β:=β'} v d:=by
 cases d with
 |e x=>exact m8.sub b a h c
 |eX xs=>obtain⟨vs,h1,h2⟩:=h;exact⟨vs,h1,h2.sub b a c⟩
 |any=>trivial
def cg.sub(c:jK ks σ=aa σ')(b:jK ks s.β=aa β'):∀{vs:List ah}{ds:List D},cg σ s vs (fI ks ds)->ll ks.length ds=ab->cg σ' {s with β:=β'} vs ds
 |[],[],_,_=>trivial
 |[],_::_,h,_=>h.elim
 |_::_,[],h,_=>h.elim
 |v::vs,a::al,h,d=>by
  simp only[ll]at d;cases e:vS ks.length a with
  |false=>grind
  |true=>simp only[e]at d;exact⟨h.1.sub c b e,cg.sub c b h.2 d⟩
variable {σ2:List aP}{s2:St}
def dX.nj(d:s2.M=s.M)(c:∀(j:Nat)(B:aP),σ[j]?=aa B->∃k,ks[j]?=aa k/\σ2[k]?=aa B)(b:∀(j:Nat)(L:Loc),s.β[j]?=aa L->∃k,ks[j]?=aa k/\s2.β[k]?=aa L)(a:s.β.length=σ.length):
  ∀{vs:List ah} {cs:List A},dX σ s vs cs->dX σ2 s2 vs (By ks cs)
 |[],[],_=>trivial
 |[],_::_,h=>h.elim
 |_::_,[],h=>h.elim
 |_::_,_::_,h=>⟨h.1.nj d c b a,dX.nj d c b a h.2⟩
def m8.nj(e:s2.M=s.M)(d:∀(j:Nat)(B:aP),σ[j]?=aa B->∃k,ks[j]?=aa k/\σ2[k]?=aa B)(c:∀(j:Nat)(L:Loc),s.β[j]?=aa L->∃k,ks[j]?=aa k/\s2.β[k]?=aa L)(b:s.β.length=σ.length){v:ah}{x:E1}(h:m8 σ s v x):m8 σ2 s2 v (zD ks x):=by
 cases x with
 |one a=>exact gn.nj e d c b h
 |agg cs=>obtain⟨vs,h1,h2⟩:=h;exact⟨vs,h1,h2.nj e d c b⟩
def g6.nj(d:s2.M=s.M)(c:∀(j:Nat)(B:aP),σ[j]?=aa B->∃k,ks[j]?=aa k/\σ2[k]?=aa B)(b:∀(j:Nat)(L:Loc),s.β[j]?=aa L->∃k,ks[j]?=aa k/\s2.β[k]?=aa L)(a:s.β.length=σ.length):
  ∀{vs:List ah} {xs:List E1},g6 σ s vs xs->g6 σ2 s2 vs (yt ks xs)
 |[],[],_=>trivial
 |[],_::_,h=>h.elim
 |_::_,[],h=>h.elim
 |_::_,_::_,h=>⟨h.1.nj d c b a,g6.nj d c b a h.2⟩
def dk.nj(f:s2.M=s.M)(c:∀(j:Nat)(B:aP),σ[j]?=aa B->∃k,ks[j]?=aa k/\σ2[k]?=aa B)(b:∀(j:Nat)(L:Loc),s.β[j]?=aa L->∃k,ks[j]?=aa k/\s2.β[k]?=aa L)(a:s.β.length=σ.length){v:ah}{d:D}(h:dk σ s v d):dk σ2 s2 v (hZ ks d):=by
 cases d with
 |e x=>exact m8.nj f c b a h
 |eX xs=>obtain⟨vs,h1,h2⟩:=h;exact⟨vs,h1,h2.nj f c b a⟩
 |any=>trivial
end sub
def dH.qB{α:Type}:Nat->α->List α->List α
 |_,_,[]=>[]
 |0,x,_::r=>x::r
 |k+1,x,y::r=>y::dH.qB k x r
def dH{α:Type}:List Nat->List α->List α->List α
 |[],new,old=>old++new
 |k::ks,x::new,old=>dH ks new (dH.qB k x old)
 |_::_,[],old=>old
theorem jd{α:Type}:∀(k:Nat)(x:α)(l:List α),dH.qB k x l=l.set k x
 |_,_,[]=>by simp[dH.qB]
 |0,x,_::r=>by simp[dH.qB]
 |k+1,x,y::r=>by simp[dH.qB,jd k x r]
def vT{α:Type}:∀{ks:List Nat}{new old:List α},dx ks=ab->(∀k∈ks,k<old.length)->ks.length<=new.length ->
  (dH ks new old).length=old.length+(new.length-ks.length)/\(∀(j k:Nat),ks[j]?=aa k->(dH ks new old)[k]?=new[j]?) /\
  (∀j,(dH ks new old)[old.length+j]?=new[ks.length+j]?)/\(∀l,l<old.length->l∉ks->(dH ks new old)[l]?=old[l]?)
 |[],new,old,_,_,_=>by
  refine⟨by simp[dH],by simp,λj=>?_,λl c _=>?_⟩
  .simp only[dH,gx,bC];grind
  .simp[dH,jz c]
 |k::ks,[],old,_,_,h=>by grind
 |k::ks,x::new,old,a,b,e=>by
  have d:=a;simp only[dx]at a;cases f:ia k ks with
  |true=>grind
  |false =>
   simp only[f]at a;have hk:k<old.length:=b k (by simp);have g:k∉ks:=λh=>by grind[vh]
   obtain⟨n,o,i,m⟩:=vT (ks:=ks) (new:=new) (old:=old.set k x) a (λk' Um=>by grind) (by grind);simp only[dH,jd];grind
def Ev{P:ar}(X:Cx P)(f:aJ)(args:List D)(σ:List aP)(res:D)(σ':List aP):Prop :=
 (∃fn,P.funcs[f]?=aa fn/\(fn.name== "runtime.NumGoroutine")=af/\fn.body.isNone=af) /\
 ∀s (vs:List ah),cg σ s vs args->aF σ s->∀(S:av->St->Prop) (cs:List aR),
  (∀a v s',uI P f a v s'->dk σ' s' v res->aF σ' s'->cR σ s σ' s'->fz X S (G a cs) s')->fz X S (G (Frame.enter P f vs.toArray .normal) cs) s
def eb{P:ar}{ι:Type}(X:Cx P)(f:aJ)(args:List D)(σ:List aP)(res:ι->D)(σ':ι->List aP):Prop :=
 (∃fn,P.funcs[f]?=aa fn/\(fn.name== "runtime.NumGoroutine")=af/\fn.body.isNone=af) /\
 ∀s (vs:List ah),cg σ s vs args->aF σ s->∀(S:av->St->Prop) (cs:List aR),
  (∀i a v s',uI P f a v s'->dk (σ' i) s' v (res i)->aF (σ' i) s'->cR σ s (σ' i) s'->fz X S (G a cs) s')->fz X S (G (Frame.enter P f vs.toArray .normal) cs) s
def Ev.te{P:ar}{X:Cx P}{f:aJ}{args:List D}{σ:List aP}{res:D}{σ':List aP}(h:Ev X f args σ res σ'):eb (ι:=Unit) X f args σ (λ_=>res) (λ_=>σ') :=
 ⟨h.1,λs vs hr hh S cs hS=>h.2 s vs hr hh S cs (hS ())⟩
def eb.DJ{P:ar}{X:Cx P}{f:aJ}{args:List D}{σ:List aP}{res:D}{σ':List aP}(h:eb (ι:=Unit) X f args σ (λ_=>res) (λ_=>σ')):Ev X f args σ res σ' :=
 ⟨h.1,λs vs hr hh S cs hS=>h.2 s vs hr hh S cs (λ_=>hS)⟩
def vU(s:St)(a:List Loc):Nat->Prop:=λb=>s.own b∨((∃L∈s.β,b∈L.bs)/\∀L∈a,b∉L.bs)
def kL(n:Nat):Nat->List Nat
 |0=>[]
 |m+1=>n::kL (n+1) m
def Bz:∀(m n j:Nat),(kL n m)[j]?=if j<m then aa (n+j)else ae
 |0,n,j=>by simp[kL]
 |m+1,n,0=>by simp[kL]
 |m+1,n,j+1=>by simp only[kL,nV,Bz m (n+1) j,Nat.add_lt_add_iff_right];grind
def frame{ks:List Nat}{σ O σ1:List aP}{s a:St}{n:List Loc}(q:aF σ s)(Q:jK ks σ=aa O)(Y:jK ks s.β=aa n)(hn:dx ks=ab)(hp:cq σ1=ab)(t:aF σ1 a)(st:cR O {s with β:=n,own:=vU s n} σ1 a)(N:ks.length<=σ1.length){v:ah}{res:D}(hr:dk σ1 a v res):
  ∃s2:St,s2.w=a.w/\dk (dH ks σ1 σ) s2 v (hZ (ks++kL σ.length (σ1.length-ks.length)) res)/\aF (dH ks σ1 σ) s2/\cR σ s (dH ks σ1 σ) s2/\s2.M=a.M/\s2.own=s.own/\∀L∈s2.β,L∈a.β∨(L∈s.β/\∀b∈L.bs,∀L'∈n,b∉L'.bs):=by
 have G:∀k∈ks,k<σ.length:=by intro k hk;obtain⟨j,m,rfl⟩:=dL hk;obtain⟨x,_,h2⟩:=(iJ Q).2 j _ (br m);grind
 have z:∀k∈ks,k<s.β.length:=by rw[q.len];exact G
 have I:ks.length<=a.β.length:=by rw[t.len];exact N
 obtain⟨a1,a2,a3,a4⟩:=vT (new:=σ1) (old:=σ) hn G N;obtain⟨b1,b2,b3,b4⟩:=vT (new:=a.β) (old:=s.β) hn z I;obtain⟨c1,c2⟩:=iJ Q;obtain⟨d1,d2⟩:=iJ Y;let J:=ks++kL σ.length (σ1.length-ks.length);have T:∀j,j<σ1.length->∃k,J[j]?=aa k/\(dH ks σ1 σ)[k]?=σ1[j]?/\(dH ks a.β s.β)[k]?=a.β[j]?:=by
  intro j m;rcases cC j ks.length with p|A
  .refine⟨ks[j],?_,a2 j _ (br p),b2 j _ (br p)⟩;grind
  .refine⟨σ.length+(j-ks.length),?_,?_,?_⟩
   .simp only[J];rw[fT A,Bz,bl (by omega)]
   .rw[a3];grind
   .rw[<-q.len,b3];grind
 have f:∀l L,(dH ks a.β s.β)[l]?=aa L->(∃j,j<σ1.length/\a.β[j]?=aa L/\(∀B,(dH ks σ1 σ)[l]?=aa B->σ1[j]?=aa B)/\(∀k,ks[j]?=aa k->k=l)/\(j≥ks.length->l=σ.length+(j-ks.length))) ∨
   (l<σ.length/\l∉ks/\s.β[l]?=aa L/\(dH ks σ1 σ)[l]?=σ[l]?):=by
  intro l L c;have hll:l<(dH ks a.β s.β).length:=(bY.1 c).1;rcases cC l σ.length with p|A
  .by_cases r:l∈ks
   .obtain⟨j,m,rfl⟩:=dL r;have hk:=br m;grind
   .exact .inr ⟨p,r,by rw[<-b4 l (by rw[q.len];exact p) r];exact c,a4 l p r⟩
  .rw[b1,t.len,q.len]at hll;refine .inl ⟨ks.length+(l-σ.length),by omega,?_,λB hB=>?_,λk hk=>?_,λ_=>by omega⟩
   .rw[<-b3,q.len,zt A];exact c
   .rw[<-a3,zt A];exact hB
   grind
 have E:∀L∈n,L∈s.β:=by
  intro L c;obtain⟨j,m,rfl⟩:=dL c;have C:j<ks.length:=by grind
  obtain⟨x,R,U⟩:=d2 j _ (br C);grind
 have other:∀l L,l∉ks->s.β[l]?=aa L->∀b∈L.bs,b<s.w.heap.size/\∀L'∈n,b∉L'.bs:=by
  intro l L u c b d;refine⟨q.lt L (bJ c) b d,λL' fe Dr=>?_⟩;obtain⟨j,m,rfl⟩:=dL fe;have C:j<ks.length:=by grind
  obtain⟨x,R,U⟩:=d2 j _ (br C);rw[br m]at R;cases R;have:=q.eB l ks[j] L _ c U b d Dr;grind
 have out:∀b,b<s.w.heap.size->(∀L∈s.β,b∉L.bs)->∀L∈n,b∉L.bs:=λb _ h L c=>h L (E L c);have ex:Ext σ s (dH ks σ1 σ) ⟨dH ks a.β s.β,a.M,a.w,s.own⟩:=by
  refine⟨st.mem,λl B L hB c=>?_⟩;have p:l<σ.length:=(bY.1 hB).1;by_cases r:l∈ks
  .obtain⟨j,m,rfl⟩:=dL r;have hk:=br m;obtain⟨x,R,U⟩:=c2 j _ hk;obtain⟨y,y1,y2⟩:=d2 j _ hk;rw[hB]at U;cases U;rw[c]at y2;cases y2;obtain⟨B',L',p1,p2,p3⟩:=st.box j B L R y1;grind
  .exact⟨B,L,by grind,by grind,.refl _ _⟩
 refine⟨⟨dH ks a.β s.β,a.M,a.w,s.own⟩,rfl,?_,⟨t.mem,?_,?_,?_,?_,?_⟩,⟨st.size,?_,st.mem,?_,?_,ex.box,st.os,st.tape,st.output,rfl⟩,rfl,rfl,?_⟩
 .refine dk.nj (s:=a) (s2:=⟨dH ks a.β s.β,a.M,a.w,s.own⟩) (σ2:=dH ks σ1 σ) (ks:=J) rfl (λj B hB=>?_) (λj L c=>?_) t.len hr
  .grind
  .obtain⟨k,k1,_,k3⟩:=T j (by rw[<-t.len];grind);grind
 .simp only;rw[a1,b1,t.len,q.len]
 .intro l B L hB c;rcases f l L c with⟨j,m,g,P,_⟩|⟨u,r,fe,X⟩
  .exact et.plain (σ:=σ1) (s:=a) (s':=⟨dH ks a.β s.β,a.M,a.w,s.own⟩) rfl rfl (kK hp B (bJ (P B hB))) (t.box j B L (P B hB) g)
  .rw[X]at hB;refine(q.box l B L hB fe).carry ex q.len λb d=>?_;obtain⟨Z,V⟩:=other l L r fe b d;exact⟨st.fb b (.inr ⟨⟨L,bJ fe,d⟩,V⟩),st.iV b Z V⟩
 .intro l l' L L' c fe b d Dr;rcases f l L c with⟨j,m,g,_,hjk,hjn⟩|⟨u,r,i,_⟩<;>rcases f l' L' fe with⟨j',C,H,_,ab0,ab1⟩|⟨Dq,hm',F,_⟩
  .have e:=t.eB j j' L L' g H b d Dr;grind
  .obtain⟨Z,V⟩:=other l' L' hm' F b Dr;rcases st.vd L (bJ g) b d with h|⟨L0,h0,K⟩
   .grind
   grind
  .obtain⟨Z,V⟩:=other l L r i b d;rcases st.vd L' (bJ H) b Dr with h|⟨L0,h0,K⟩
   .grind
   grind
  .exact q.eB l l' L L' i F b d Dr
 .intro L c b d;obtain⟨l,u,rfl⟩:=dL c;rcases f l _ (br u)with⟨j,m,g,_⟩|⟨_,_,i,_⟩
  .exact t.lt _ (bJ g) b d
  .have:=q.lt _ (bJ i) b d;have:=st.size;grind
 .intro b d;refine⟨?_,λL c S=>?_⟩
  .have:=(q.own b d).1;have:=st.size;grind
  .obtain⟨l,u,rfl⟩:=dL c;rcases f l _ (br u)with⟨j,m,g,_⟩|⟨_,_,i,_⟩
   .have ho:a.own b:=by rw[st.own];exact .inl d
    exact(t.own b ho).2 _ (bJ g) S
   .exact(q.own b d).2 _ (bJ i) S
 .intro b d;exact st.fb b (.inl d)
 .intro b d W o;exact st.iV b d (out b d W) o
 .intro L c b d;obtain⟨l,u,rfl⟩:=dL c;rcases f l _ (br u)with⟨j,m,g,_⟩|⟨_,_,i,_⟩
  .rcases st.vd _ (bJ g) b d with h|⟨L0,h0,K⟩
   .grind
   grind
  grind
 .intro L c;obtain⟨l,u,rfl⟩:=dL c;rcases f l _ (br u)with⟨j,m,g,_⟩|⟨_,r,i,_⟩
  .grind
  grind
def eG:D->Option (aJ×List C)
 |.e (.one (.c (.fn (.func f) [] cap)))=>aa (f,cap)
 |_=>ae
theorem lJ{σ:List aP}{s:St}{c:ak->ah}{b:ak->D}(a:∀y,dk σ s (c y) (b y)):∀l:List ak,cg σ s (l.map c) (l.map b)
 |[]=>trivial
 |x::r=>⟨a x,lJ a r⟩
def cg.append{σ:List aP}{s:St}:∀{vs vW:List ah}{ds FC:List D},cg σ s vs ds->cg σ s vW FC->cg σ s (vs++vW) (ds++FC)
 |[],_,[],_,_,h=>h
 |[],_,_::_,_,h,_=>h.elim
 |_::_,_,[],_,h,_=>h.elim
 |_::_,_,_::_,_,h,a=>⟨h.1,cg.append h.2 a⟩
def Q4:A->A
 |.vec _ k n es=>.c (.sl af k n es)
 |.c (.sl _ k n es)=>.c (.sl af k n es)
 |a=>a
def FE{σ:List aP}{s:St}{v:ah}{a:A}(h:gn σ s v a):gn σ s v (Q4 a):=by
 cases a with
 |vec l k n es=>exact h.1
 |c x=>cases x<;>first|exact h|exact Rd.loose h
 |_=>exact h
def Q5:List A->List A
 |[]=>[]
 |a::r=>Q4 a::Q5 r
def FF{σ:List aP}{s:St}:∀{vs:List ah}{cs:List A},dX σ s vs cs->dX σ s vs (Q5 cs)
 |[],[],_=>trivial
 |[],_::_,h=>h.elim
 |_::_,[],h=>h.elim
 |_::_,_::_,h=>⟨FE h.1,FF h.2⟩
def Un:D->D
 |.e (.one a)=>.e (.one (Q4 a))
 |.e (.agg cs)=>.e (.agg (Q5 cs))
 |d=>d
def Ny{σ:List aP}{s:St}{v:ah}{d:D}(h:dk σ s v d):dk σ s v (Un d):=by
 cases d with
 |e x=>cases x with
  |one a=>exact FE h
  |agg cs=>obtain⟨vs,c,b⟩:=h;exact⟨vs,c,FF b⟩
 |eX xs=>exact h
 |any=>trivial
def mx:List D->List D
 |[]=>[]
 |a::r=>Un a::mx r
theorem pb{σ:List aP}{s:St}:∀{vs:List ah}{ds:List D},cg σ s vs ds->cg σ s vs (mx ds)
 |[],[],_=>trivial
 |[],_::_,h=>h.elim
 |_::_,[],h=>h.elim
 |_::_,_::_,h=>⟨Ny h.1,pb h.2⟩
def fJ:List C->List D
 |[]=>[]
 |c::r=>.e (.one (.c c))::fJ r
theorem nk{σ:List aP}{s:St}:∀{vs:List ah}{cs:List C},(∀(j:Nat)(c:C),cs[j]?=aa c->∃v,vs[j]?=aa v/\Rd s.M v c)->vs.length=cs.length->cg σ s vs (fJ cs)
 |[],[],_,_=>trivial
 |[],_::_,_,h=>by grind
 |_::_,[],_,h=>by grind
 |v::vs,c::cs,h,e=>by obtain⟨u,a,b⟩:=h 0 c rfl;simp at a;subst a;exact⟨b,nk (λj c d=>by simpa using h (j+1) c (by grind)) (by grind)⟩
def zG{α:Type}{ks:List Nat}{l r:List α}(h:jK ks l=aa r):∀x∈r,x∈l:=by intro x b;obtain⟨c,a⟩:=iJ h;obtain⟨j,e,rfl⟩:=dL b;obtain⟨y,f,d⟩:=a j _ (br (by omega));grind
def aF.sub{ks:List Nat}{σ d:List aP}{s:St}{a:List Loc}(hh:aF σ s)(n:jK ks σ=aa d)(f:jK ks s.β=aa a)(v:cq d=ab)(t:dx ks=ab):
  aF d {s with β:=a,own:=vU s a}/\eu s {s with β:=a,own:=vU s a}:=by
 obtain⟨c1,c2⟩:=iJ n;obtain⟨d1,d2⟩:=iJ f;have e:∀L∈a,L∈s.β:=zG f;refine⟨⟨hh.mem,by grind,?_,?_,?_,?_⟩,⟨rfl,λ_ _ _ h=>h,λ_ _ _=>rfl,hh.mem,?_⟩⟩
 .intro j B L hB hL;have hj:j<ks.length:=by grind
  obtain⟨x,r,u⟩:=c2 j _ (br hj);obtain⟨y,g,q⟩:=d2 j _ (br hj);rw[hB]at r;cases r;simp only at hL;rw[hL]at g;cases g;exact et.plain (σ:=σ) (s:=s) (s':={s with β:=a,own:=vU s a}) rfl rfl (kK v B (bJ hB)) (hh.box _ B L u q)
 .intro j o L L' hL fe b c m;simp only at hL fe;have hj:j<ks.length:=by grind
  have p:o<ks.length:=by grind
  obtain⟨y,g,q⟩:=d2 j _ (br hj);obtain⟨w,i,l⟩:=d2 o _ (br p);rw[hL]at g;cases g;rw[fe]at i;cases i;have:=hh.eB _ _ L L' q l b c m;exact vR t j o ks[j] (br hj) (by grind)
 .intro L hL b c;exact hh.lt _ (e L hL) b c
 .rintro b (c|⟨⟨L,hL,c⟩,k⟩)
  .exact⟨(hh.own b c).1,λL hL=>(hh.own b c).2 L (e L hL)⟩
  .exact⟨hh.lt L hL b c,k⟩
 .rintro b ((c|⟨⟨L,hL,c⟩,_⟩)|⟨L,hL,c⟩)
  .grind
  .grind
  grind
def eu.back{σ e σ1:List aP}{s c s2:St}{a:List Loc}(hh:aF σ s)(h1:aF σ1 c)(st:cR e {s with β:=a,own:=vU s a} σ1 c)(j:s2.w=c.w)(g:s2.M=c.M)(l:s2.own=s.own)(f:∀L∈s2.β,L∈c.β∨(L∈s.β/\∀b∈L.bs,∀L'∈a,b∉L'.bs)):eu c s2:=by
 refine⟨j,λb o v h=>by grind,λb _ o=>by rw[g],λb o v h=>by rw[g]at h;exact h1.mem b o v h,?_⟩;rintro b (d|⟨L,k,d⟩)
 .left;rw[st.own];exact .inl (by grind)
 .rcases f L k with h|⟨h,i⟩
  .grind
  .left;rw[st.own];exact .inr ⟨⟨L,h,d⟩,i b d⟩
def tf{P:ar}{ι:Type}{X:Cx P}{S:av->St->Prop}{b:aR}{k:List Item}{cs:List aR}{a:Act}{s:St}{ops:Array au}{i:Nat}{rest:List Nat}{o:au}{ks:List Nat}{σ e:List aP}{σ1:ι->List aP}{f:aJ}{d:List D}{res:ι->D}{vs:List ah}(hb:b.kind≠.early)(ho:ops[i]?=aa o)(hw:bd o (yielded ops a.tmps)=ab)(hh:aF σ s)(z:∀w,(aw a.eval o).run P w=.ok (.enter f vs.toArray) w)(H:∀w,(aw a.eval o).events P w #[]=#[])(M:eb X f d e res σ1)(t:cg σ s vs (fI ks d))(I:ll ks.length d=ab)(p:jK ks σ=aa e)(hp:cq e=ab)(Q:∀j,cq (σ1 j)=ab)(hn:dx ks=ab)(J:∀j,ks.length<=(σ1 j).length)(h:∀j v s',dk (dH ks (σ1 j) σ) s' v (hZ (ks++kL σ.length ((σ1 j).length-ks.length)) (res j))->aF (dH ks (σ1 j) σ) s'->cR σ s (dH ks (σ1 j) σ) s'->fz X S (G (b.aT (a.put o.dst v) (.inRegion ops rest::k)) cs) s'):
  fz X S (G (b.aT a (.inRegion ops (i::rest)::k)) cs) s:=by
 obtain⟨_,x⟩:=M;refine .next rfl λn K=>?_;have T:=X.iw K;have g:=hh.rely T;obtain⟨m,r⟩:=vP (l':=n.β) p g.len;obtain⟨E,R⟩:=g.sub p r hp hn;have q:cg σ n vs (fI ks d):=t.mono T.stepW.ext hh.len;have y:cg e {n with β:=m,own:=vU n m} vs d:=(q.sub (s:=n) p r I).mono (σ:=e) (s:={n with β:=m}) (σ':=e) (s':={n with β:=m,own:=vU n m}) ⟨λ_ _ _ h=>h,λl B L hB hL=>⟨B,L,hB,hL,.refl _ _⟩⟩ E.len;refine⟨_,n,_,o0 ho hw hb (z n.w),?_,.ghost R (x _ vs y E S _ λj fr v s2 hl ml IP mg=>?_)⟩
 .refine⟨⟨σ,σ,g,g,.refl _ _⟩,eY.seen ?_⟩;rw[H];exact .nil
 refine qb (cs:=cs) (c:=b.aT a (.inRegion ops (i::rest)::k)) IP hl λs3 u=>?_;have C:=IP.rely u;have F:=mg.trans u.stepW;obtain⟨s4,W,N,U,Z,V,O,A⟩:=frame g p r hn (Q j) C F (J j) (ml.mono u.stepW.ext IP.len);refine .ghost (eu.back g C F W V O A) ?_;have Y:=ki (b:=b) (a:=a) (k:=k) ops i rest v;rw[ho]at Y;simp only[n3]at Y;rw[Y];exact h j v s4 N U (T.stepW.trans Z)
def Ji{P:ar}{X:Cx P}{S:av->St->Prop}{b:aR}{k:List Item}{cs:List aR}{a:Act}{s:St}{ops:Array au}{i:Nat}{rest:List Nat}{o:au}{ks:List Nat}{σ e:List aP}{σ1:List aP}{f:aJ}{c:List D}{res:D}{vs:List ah}(r:b.kind≠.early)(x:ops[i]?=aa o)(y:bd o (yielded ops a.tmps)=ab)(z:aF σ s)(j:∀w,(aw a.eval o).run P w=.ok (.enter f vs.toArray) w)(g:∀w,(aw a.eval o).events P w #[]=#[])(q:Ev X f c e res σ1)(d:cg σ s vs (fI ks c))(l:ll ks.length c=ab)(p:jK ks σ=aa e)(u:cq e=ab)(m:cq σ1=ab)(t:dx ks=ab)(n:ks.length<=σ1.length)(h:∀v s',dk (dH ks σ1 σ) s' v (hZ (ks++kL σ.length (σ1.length-ks.length)) res)->aF (dH ks σ1 σ) s'->cR σ s (dH ks σ1 σ) s'->fz X S (G (b.aT (a.put o.dst v) (.inRegion ops rest::k)) cs) s'):
  fz X S (G (b.aT a (.inRegion ops (i::rest)::k)) cs) s :=
 tf r x y z j g q.te d l p u (λ_=>m) t (λ_=>n) (λ_=>h)
theorem ju{P:ar}{o:au}{j:ak}{xs:Array ak}{g:Array aj}(k:o.op=.call {callee:=.value j,args:=xs,argTypes:=g}){f:aJ}{fn:Func}(d:P.funcs[f]?=aa fn)(l:(fn.name== "runtime.NumGoroutine")=af)(e:fn.body.isNone=af){a:Act}{cs:List ah}(i:a.eval j=.func (.func f) #[] cs.toArray)(w:aA):
  (aw a.eval o).run P w=.ok (.enter f (xs.toList.map a.eval++cs).toArray) w/\(aw a.eval o).events P w #[]=#[]:=by
 have h:(xs.map a.eval++cs.toArray)=(xs.toList.map a.eval++cs).toArray:=by grind
 have c:fn.name≠ "runtime.NumGoroutine":=by grind
 have b:fn.body≠ae:=by grind
 constructor
 .simp[aw,k,resolve,i,Deferred.ofValue,invoke,callFunc,d,c,b,h]
 .simp[aw,k,resolve,i,Deferred.ofValue,invoke,callFunc,d,c,b]
def ib.BA{P:ar}{ι:Type}{X:Cx P}{N:Nat}{all rest:List au}{Q:Fr->List aP->Prop}{φ:Fr}{σ:List aP}{o:au}{A:ak}{xs:Array ak}{O:Array aj}(hg:∀σ s a,cm N σ s φ a->bd o (yielded all.toArray a.tmps)=ab)(T:o.op=.call {callee:=.value A,args:=xs,argTypes:=O}){f:aJ}{cap:List C}(B:eG (bM φ A)=aa (f,cap))(ks:List Nat){e:List D}{p:List aP}{σ1:ι->List aP}{res:ι->D}(x:eb X f e p res σ1)(n:∀s vs,cg σ s vs (xs.toList.map (bM φ)++fJ cap)->cg σ s vs (fI ks e))(E:ll ks.length e=ab)(K:jK ks σ=aa p)(hp:cq p=ab)(M:∀j,cq (σ1 j)=ab)(Y:dx ks=ab)(F:∀j,ks.length<=(σ1 j).length)(d:Option Nat)(U:o.dst=d)(hN:∀t,d=aa t->t<N)(k:∀j,ib X N all rest Q (km d (hZ (ks++kL σ.length ((σ1 j).length-ks.length)) (res j)) φ) (dH ks (σ1 j) σ)):ib X N all (o::rest) Q φ σ:=by
 subst U;intro s a h hh b kk cs S idx hb jm hQ;cases idx with
 |nil=>exact jm.elim
 |cons i idx =>
 obtain⟨hi,jm⟩:=jm;have y:=cY h A;unfold eG at B;split at B
 case h_2=>cases B
 case h_1 f' Nk he =>
  cases B;rw[he]at y;have l:=eT y;generalize R:a.eval A=fv at l;cases l with
  |fn fs nb hl Dq f1 f2 h1 h2 r1 r2 =>
   have G:fs=[]:=jg hl;subst G;have r:cg σ s nb (fJ cap):=nk (λj c hj=>⟨f2 j,h2 j (by grind),r2 j c hj⟩) Dq;have z:cg σ s (xs.toList.map a.eval++nb) (fI ks e):=by exact n _ _ ((lJ (cY h) xs.toList).append r)
   obtain⟨fn,u,m,g⟩:=x.1;refine tf hb hi (hg _ _ _ h) hh (λw=>(ju T u m g R w).1) (λw=>(ju T u m g R w).2) x z E K hp M Y F λj v s' hr iY st=>?_;refine k j s' _ ?_ iY b kk cs S idx hb jm λH L W a3 q Z V J=>hQ H L W a3 q Z V (st.trans J);cases I:o.dst with
   |none=>exact h.mono st hh.len
   |some t=>exact(h.mono st hh.len).put (hN t I) hr
def ib.PQ{P:ar}{ι:Type}{X:Cx P}{N:Nat}{all rest:List au}{Q:Fr->List aP->Prop}{φ:Fr}{σ:List aP}{o:au}{q:ak}{xs:Array ak}{m:Array aj}(r:∀σ s a,cm N σ s φ a->bd o (yielded all.toArray a.tmps)=ab)(x:o.op=.call {callee:=.value q,args:=xs,argTypes:=m}){f:aJ}{cap:List C}(y:eG (bM φ q)=aa (f,cap))(ks:List Nat){b:List D}{c:List aP}{σ1:ι->List aP}{res:ι->D}(n:eb X f b c res σ1)(g:mx (xs.toList.map (bM φ)++fJ cap)=fI ks b)(e:ll ks.length b=ab)(p:jK ks σ=aa c)(w:cq c=ab)(i:∀j,cq (σ1 j)=ab)(u:dx ks=ab)(l:∀j,ks.length<=(σ1 j).length)(d:Option Nat)(v:o.dst=d)(z:∀t,d=aa t->t<N)(k:∀j,ib X N all rest Q (km d (hZ (ks++kL σ.length ((σ1 j).length-ks.length)) (res j)) φ) (dH ks (σ1 j) σ)):ib X N all (o::rest) Q φ σ :=
 ib.BA r x y ks n (λs vs h=>by grind[pb]) e p w i u l d v z k
theorem ib.call{P:ar}{X:Cx P}{N:Nat}{all rest:List au}{Q:Fr->List aP->Prop}{φ:Fr}{σ:List aP}{o:au}{n:ak}{xs:Array ak}{j:Array aj}(p:∀σ s a,cm N σ s φ a->bd o (yielded all.toArray a.tmps)=ab)(v:o.op=.call {callee:=.value n,args:=xs,argTypes:=j}){f:aJ}{cap:List C}(w:eG (bM φ n)=aa (f,cap))(ks:List Nat){b:List D}{e σ1:List aP}{res:D}(l:Ev X f b e res σ1)(c:mx (xs.toList.map (bM φ)++fJ cap)=fI ks b)(g:ll ks.length b=ab)(m:jK ks σ=aa e)(u:cq e=ab)(h:cq σ1=ab)(q:dx ks=ab)(i:ks.length<=σ1.length)(d:Option Nat)(r:o.dst=d)(x:∀t,d=aa t->t<N)(k:ib X N all rest Q (km d (hZ (ks++kL σ.length (σ1.length-ks.length)) res) φ) (dH ks σ1 σ)):ib X N all (o::rest) Q φ σ :=
 ib.PQ p v w ks l.te c g m u (λ_=>h) q (λ_=>i) d r x (λ_=>k)
def Names.range(all:List au):Names all (bg all.toArray.size) all:=by
 have key:∀(l:List au) (n:Nat),(∀j o,l[j]?=aa o->all[n+j]?=aa o)->Names all (List.range' n l.length) l:=by
  intro l;induction l with
  |nil=>intro n _;trivial
  |cons o r b =>
   intro n h;rw[eU,List.range'_succ];refine⟨by simpa using h 0 o rfl,b (n+1) λj a hj=>?_⟩;have:=h (j+1) a (by grind);grind
 grind[List.range_eq_range']
theorem AW.region{P:ar}{X:Cx P}{N:Nat}{Q:Post}{φ:Fr}{σ:List aP}{id:Nat}{ops:Array au}(h:ib X N ops.toList ops.toList (λφ σ=>Q .normal φ σ) φ σ):AW X N (.region id ops af) Q φ σ:=by intro s a f hh b k cs S c d;refine .ctl hh rfl (λ_=>p9) λi h1=>?_;have:=h i a (f.rely h1 hh) (hh.rely h1) b k cs S (bg ops.size) c (by simpa using Names.range ops.toList) λφ' σ' s' a' q g e st=>d .normal φ' σ' s' a' q g e (h1.stepW.trans st);simpa using this
def ib.nil{P:ar}{X:Cx P}{N:Nat}{all:List au}{Q:Fr->List aP->Prop}{φ:Fr}{σ:List aP}(h:Q φ σ):ib X N all [] Q φ σ:=by
 intro s a f hh b k cs S idx _ c e;cases idx with
 |cons i idx=>exact c.elim
 |nil=>exact .ctl hh rfl (λ_=>iX) λd h1=>e φ σ d a h (f.rely h1 hh) (hh.rely h1) h1.stepW
def ib.mono{P:ar}{X:Cx P}{N:Nat}{all rest:List au}{Q c:Fr->List aP->Prop}{φ:Fr}{σ:List aP}(h:ib X N all rest Q φ σ)(d:∀φ σ,Q φ σ->c φ σ):ib X N all rest c φ σ :=
 λs a f hh b k cs S idx hb hi hQ=>h s a f hh b k cs S idx hb hi λφ' σ' s' a' q e g st=>hQ φ' σ' s' a' (d _ _ q) e g st
def ib.le{P:ar}{X:Cx P}{N:Nat}{all rest:List au}{Q:Fr->List aP->Prop}{φ φ':Fr}{σ:List aP}(h:ib X N all rest Q φ' σ)(hl:oi φ φ'):ib X N all rest Q φ σ :=
 λs a f hh b k cs S idx hb hi hQ=>h s a (f.le hl) hh b k cs S idx hb hi hQ
def iZ:Nat->List D->Fr
 |_,[]=>[]
 |i,d::r=>(i,d)::iZ (i+1) r
def om:∀(ds:List D)(i t:Nat),look (iZ i ds) t=if i<=t then(ds[t-i]?).getD .any else .any
 |[],i,t=>by simp[iZ,look]
 |d::r,i,t=>by
  simp only[iZ,look];by_cases e:i=t
  .grind [Nat.beq_refl]
  .have:aB i t=af:=by grind[Nat.eq_of_beq_eq_true]
   rw[this];simp only[cond,om r (i+1) t];grind
theorem cg.get{σ:List aP}{s:St}:∀{vs:List ah}{ds:List D},cg σ s vs ds->vs.length=ds.length/\∀(j:Nat),dk σ s ((vs[j]?).getD ai) ((ds[j]?).getD .any)
 |[],[],_=>⟨rfl,λj=>by simp[dk]⟩
 |[],_::_,h=>h.elim
 |_::_,[],h=>h.elim
 |v::vs,d::ds,h=>by
  obtain⟨h1,h2⟩:=cg.get h.2;refine⟨by grind,λj=>?_⟩;cases j with
  |zero=>simpa using h.1
  |succ j=>grind
def x6(φ:Fr):List ResultVar->Option (List D)
 |[]=>aa []
 |.tmp t::r=>match x6 φ r with
  |some q=>aa (look φ t::q)
  |none=>ae
 |.cell _ _::_=>ae
def ud:List D->Option (List E1)
 |[]=>aa []
 |.e x::r=>match ud r with
  |some q=>aa (x::q)
  |none=>ae
 |_::_=>ae
def rX:List D->Option D
 |[d]=>aa d
 |ds=>match ud ds with
  |some es=>aa (.eX es)
  |none=>ae
def gb(a:Act):ResultVar->Sem ah
 |ResultVar.tmp t=>pure (a.tmps.getD t ai)
 |ResultVar.cell ad t=>do loadVar t (<-asAddr (a.tmps.getD ad ai))
def FG(P:ar){N:Nat}{σ:List aP}{s:St}{φ:Fr}{a:Act}(f:cm N σ s φ a):∀{rs:List ResultVar}{ds:List D},x6 φ rs=aa ds ->
  ∃vs,(∀w,(rs.mapM (gb a)).run P w=Result.ok vs w)/\cg σ s vs ds/\c7 P (rs.mapM (gb a))
 |[],ds,h=>by cases h;exact⟨[],by simp,ay,by rw[List.mapM_nil];exact .pure⟩
 |.tmp t::r,ds,h=>by
  simp only[x6]at h;cases b:x6 φ r with
  |none=>grind
  |some q =>
   simp[b]at h;subst h;obtain⟨vs,e,d,c⟩:=FG P f b;refine⟨a.tmps.getD t ai::vs,?_,⟨f.slot t,d⟩,?_⟩
   .intro w;simp only[n6,bL,gb,dq,bU,e]
   .rw[n6];exact .bind .pure λ_=>.bind c λ_=>.pure
 |.cell ad t::r,ds,h=>by simp[x6]at h
def BC{σ:List aP}{s:St}:∀{vs:List ah}{ds:List D}{es:List E1},ud ds=aa es->cg σ s vs ds->g6 σ s vs es
 |[],[],es,h,_=>by cases h;trivial
 |[],_::_,_,_,h=>h.elim
 |_::_,[],_,_,h=>h.elim
 |v::vs,.e x::r,es,h,b=>by
  simp only[ud]at h;cases a:ud r with
  |none=>grind
  |some q=>simp[a]at h;subst h;exact⟨b.1,BC a b.2⟩
 |_::_,.eX _::_,es,h,_=>by simp[ud]at h
 |_::_,.any::_,es,h,_=>by simp[ud]at h
def BD{σ:List aP}{s:St}{vs:List ah}{ds:List D}{d:D}(h:rX ds=aa d)(a:cg σ s vs ds):dk σ s (if h:vs.length=1 then vs[0]else .tuple vs.toArray) d:=by
 unfold rX at h;split at h
 .rename_i g;cases h
  match vs,a with
  |[v],a=>simpa using a.1
 .rename_i f;cases b:ud ds with
  |none=>grind
  |some es =>
   simp[b]at h;subst h;have c:vs.length≠1:=by
    intro e;rw[(cg.get a).1]at e
    match ds,e with
    |[x],_=>grind
   rw[dif_neg c];exact⟨vs,rfl,BC b a⟩
def zH(P:ar)(fn:Func)(φ:Fr)(d:D):Prop:=∀{N:Nat}{σ:List aP}{s:St}{a:Act},cm N σ s φ a->∃v,dk σ s v d/\∀w,(∀b o u,s.M b o=aa u->w.cell? ⟨b,o,ae⟩=aa u)->(results fn a.tmps).run P w=.ok v w/\∀e∈(results fn a.tmps).events P w #[],∃b o u,e=⟨.cell ⟨b,o,ae⟩,af,af⟩/\s.M b o=aa u
def ue{P:ar}{N:Nat}{σ:List aP}{s:St}{φ:Fr}{a:Act}(f:cm N σ s φ a){fn:Func}{ds:List D}{d:D}(h:x6 φ fn.results.toList=aa ds)(b:rX ds=aa d):
  ∃v,(∀w,(results fn a.tmps).run P w=.ok v w)/\dk σ s v d/\c7 P (results fn a.tmps):=by
 obtain⟨vs,i,g,c⟩:=FG P f h;refine⟨_,λw=>?_,BD b g,?_⟩
 .have e:(fn.results.mapM (gb a)).run P w=Result.ok vs.toArray w:=by grind[Array.mapM_eq_mapM_toList,Sem.run_map,Go.Result.andThen_ok]
  unfold results;rw[bL];refine(dA (λr=>Result.andThen r _) (Eq.trans ?_ e)).trans ?_
  .congr 2
  .simp
 .unfold results;have e:c7 P (fn.results.mapM (gb a)):=by rw[qO];exact .map c
  exact .bind e λ_=>.pure
theorem zH.of{P:ar}{fn:Func}{φ:Fr}{ds:List D}{d:D}(h:x6 φ fn.results.toList=aa ds)(hj:rX ds=aa d):zH P fn φ d:=by intro N σ s a f;obtain⟨v,h1,h2,c⟩:=ue (P:=P) f h hj;exact⟨v,h2,λw _=>⟨h1 w,λe b=>by rw[c w #[]]at b;grind⟩⟩
section
def aF.lI{σ:List aP}{s:St}(h:aF σ s):aF (σ.map λ_=>.dead) s:=by
 refine⟨h.mem,by simp[h.len],λl B L hB hL=>?_,h.eB,h.lt,h.own⟩;simp only[mV]at hB;cases a:σ[l]? with
 |none=>grind
 |some x=>rw[a]at hB;cases hB;trivial
structure PS(ls:List Nat)(s s':St):Prop where
 β:s'.β=s.β
 M:s'.M=s.M
 own:s'.own=s.own
 size:s.w.heap.size<=s'.w.heap.size
 fb:∀b,(s.own b∨∃(l:Nat) (L:Loc),s.β[l]?=aa L/\l∉ls/\b∈L.bs)->s'.w.heap[b]?=s.w.heap[b]?
 mem:∀b o v,s.M b o=aa v->s'.w.cell? ⟨b,o,ae⟩=aa v
 os:s'.w.os=s.w.os
 tape:s'.w.tape=s.w.tape
 output:s'.w.output=s.w.output
def ck.unR{s s':St}(h:ck s s')(ls:List Nat):PS ls s s' :=
 ⟨h.β,h.M,h.own,h.size,λb a=>h.fb b (a.imp id λ⟨l,L,h1,_,c⟩=>⟨L,bJ h1,c⟩),h.mem,h.os,h.tape,h.output⟩
theorem PS.cat{l:Nat}{ls:List Nat}{s a s2:St}(h:PS [l] s a)(k:PS ls a s2):PS (l::ls) s s2:=by refine⟨k.β.trans h.β,k.M.trans h.M,k.own.trans h.own,iq h.size k.size,λb d=>?_,λb o v c=>k.mem b o v (by rw[h.M];exact c),k.os.trans h.os,k.tape.trans h.tape,k.output.trans h.output⟩;rw[k.fb b,h.fb b (d.imp id λ⟨l',L,h1,h2,e⟩=>⟨l',L,h1,λf=>h2 (by grind),e⟩)];rw[h.own,h.β];grind
def Jn{P:ar}{w:aA}{r:Nat}(a:w.heap[r]?=aa (.deferred (aa []))):
  (Instr.takeDeferred r).run P w=.ok [] {w with heap:=w.heap.setIfInBounds r (.deferred ae)}/\(Instr.takeDeferred r).events P w #[]=#[⟨.obj r,af,af⟩,⟨.obj r,ab,af⟩]:=by
 have b:(getObj r).run P w=.ok (.deferred (aa [])) w:=by simp only[getObj,Sem.run,a]
 have e:(setObj r (.deferred ae)).run P w=.ok () {w with heap:=w.heap.setIfInBounds r (.deferred ae)}:=by simp only[setObj,Sem.run,a]
 have d:∀es,(getObj r).events P w es=es.push ⟨.obj r,af,af⟩:=λes=>by simp only[getObj,Sem.events,Sem.runT,a];rfl
 have c:∀es,(setObj r (.deferred ae)).events P w es=es.push ⟨.obj r,ab,af⟩:=λes=>by simp only[setObj,Sem.events,Sem.runT,a];rfl
 constructor
 .simp[Instr.takeDeferred,b,e]
 .simp[Instr.takeDeferred,b,d,c]
variable {P:ar}{X:Cx P}{S:av->St->Prop}{cs:List aR}{main:Bool}
def Nz{a:aR}{r:Nat}{ds:List Deferred}{w:aA}(e:a.mode=.returning)(b:a.defers={target:=.collected r,args:=#[]}::ds)(c:w.heap[r]?=aa (.deferred (aa []))):
  aH P main (G a cs) w=.go (G {a with defers:=ds} cs) {w with heap:=w.heap.setIfInBounds r (.deferred ae)} (seen P a.fn #[⟨.obj r,af,af⟩,⟨.obj r,ab,af⟩]):=by obtain⟨d,f⟩:=Jn (P:=P) c;simp[G,aH,unwind,e,b,d,f,GStep.after]
def wh(s:St):List Deferred->List Nat->Prop
 |[],[]=>True
 |d::ds,l::ls=>(∃r:Nat,s.β[l]?=aa ⟨.int .i64 r,[r]⟩/\s.w.heap[r]?=aa (.deferred (aa []))/\(∀o,s.M r o=ae)/\d={target:=.collected r,args:=#[]})/\l∉ls/\wh s ds ls
 |_,_=>False
def oO.taken{σ:List aP}{s:St}(hh:aF σ s):∀{ds:List Deferred}{ls:List Nat},oO σ s ds ls->wh s ds ls
 |[],[],_=>trivial
 |[],_::_,r=>r.elim
 |_::_,[],r=>r.elim
 |d::ds,l::ls,⟨⟨h1,L,r,h2,b,a⟩,h,c⟩=>by
  obtain⟨r',k1,g,f⟩:=hh.box l _ L h1 h2;subst k1;simp at b;have e:r'=r:=by omega
  subst e;exact⟨⟨r',h2,g,f,a⟩,h,oO.taken hh c⟩
def wh.mono{s s':St}{b:Nat}(h:PS [b] s s'):∀{ds:List Deferred}{ls:List Nat},b∉ls->wh s ds ls->wh s' ds ls
 |[],[],_,_=>trivial
 |[],_::_,_,r=>r.elim
 |_::_,[],_,r=>r.elim
 |d::ds,l::ls,a,⟨⟨r,h1,h2,g,c⟩,f,e⟩=>by simp only[eE,not_or]at a;refine⟨⟨r,by rw[h.β];exact h1,by rw[h.fb r (.inr ⟨l,_,h1,by grind,by simp⟩)];exact h2,λo=>by rw[h.M];grind,c⟩,f,wh.mono h a.2 e⟩
def q8:∀(ls:List Nat)(f:aR)(s:St)(σ:List aP),aF σ s->(∀B∈σ,B=.dead)->f.mode=.returning->wh s f.defers ls ->
  (∀s',PS ls s s'->fz X S (G {f with defers:=[]} cs) s')->fz X S (G f cs) s
 |[],f,s,σ,q,n,E,m,k=>by
  have p:f.defers=[]:=by
   cases p:f.defers with
   |nil=>rfl
   |cons d ds=>rw[p]at m;exact m.elim
  have:=k s ((ck.refl q).unR _);have e:{f with defers:=[]}=f:=by cases f;simp_all
  grind
 |l::ls,f,s,σ,q,n,E,m,k=>by
  cases p:f.defers with
  |nil=>rw[p]at m;exact m.elim
  |cons d ds =>
   rw[p]at m;obtain⟨⟨r,y,I,Q,N⟩,K,O⟩:=m;subst N;refine .next rfl λi A=>?_;have c:=X.iw A;have a:=q.rely c;have C:i.β[l]?=aa ⟨.int .i64 r,[r]⟩:=by rw[c.β];exact y
   have F:i.w.heap[r]?=aa (.deferred (aa [])):=by rw[c.fb r (.inr ⟨_,bJ y,by simp⟩)];exact I
   have J:∀o,i.M r o=ae:=λo=>by rw[c.M];grind
   let s2:St:={i with w:={i.w with heap:=i.w.heap.setIfInBounds r (.deferred ae)}}
   have hk:∀b,b≠r->s2.w.heap[b]?=i.w.heap[b]?:=λb g=>by grind
   have j:∀b o v,i.M b o=aa v->s2.w.cell? ⟨b,o,ae⟩=aa v:=by
    intro b o v D;have u:b≠r:=by grind
    rw[<-a.mem b o v D];simp only[aV];grind
   have x:aF σ s2:=by
    refine⟨j,a.len,λl' B L hB hL=>?_,a.eB,λL hL b g=>?_,λb g=>⟨?_,(a.own b g).2⟩⟩
    .rw[n B (bJ hB)];trivial
    .have:=a.lt L hL b g;grind
    .have:=(a.own b g).1;grind
   have t:∃L∈i.β,r∈L.bs:=⟨_,bJ C,by simp⟩
   have st:Step σ i σ s2:=by refine⟨by grind,λb _ g=>hk b ?_,λ_ _ _ h=>h,λ_ _ _ _=>rfl,λL hL b g=>.inr ⟨L,hL,g⟩,λ_ B L h H=>⟨B,L,h,H,.refl _ _⟩,rfl,rfl,rfl,rfl⟩;grind
   have un:PS [l] s s2:=by
    refine⟨c.β,c.M,c.own,iq c.size (by grind),λb g=>?_,λb o v D=>j b o v (by rw[c.M];exact D),c.os,c.tape,c.output⟩;have u:b≠r:=by
     rintro rfl;rcases g with g|⟨l',L',z,p2,p3⟩
     .exact(q.own b g).2 _ (bJ y) (by simp)
     .exact p2 (by simp;exact q.eB l' l L' _ z y b p3 (by simp))
    rw[hk b u];exact c.fb b (g.imp id λ⟨l',L',z,_,p3⟩=>⟨L',bJ z,p3⟩)
   refine⟨_,s2,_,Nz E p F,⟨⟨σ,σ,a,x,st⟩,eY.seen (.two ?_ ?_)⟩,?_⟩
   .exact⟨rfl,.inr t⟩
   .exact⟨rfl,.inr t⟩
   refine q8 ls {f with defers:=ds} s2 σ x n E (O.mono un K) λs' hu=>?_;exact k s' (un.cat hu)
end
def cv(n:Nat)(f g:Nat->List C):Prop:=∀i,i<n->f i=g i
def Flat.Dx{M:Mem}{k n:Nat}{es es':Nat->List C}{vs:List ah}(h:Flat M k n es vs)(a:cv n es es'):Flat M k n es' vs :=
 ⟨h.len,λi hi=>by rw[<-a i hi];exact h.width i hi,λi hi j c hj=>h.rd i hi j c (by rw[a i hi];exact hj)⟩
def Yx:C->C->Option (List Prop)
 |.int k n,.int k' n'=>match Ht k k' with|true=>aa [n=n']|false=>ae
 |.bool b,.bool b'=>aa [b=b']
 |.str s,.str s'=>aa [s=s']
 |.sl t k n es,.sl t' k' n' es'=>match aB k k' with
  |true=>match t,t' with
   |false,ab=>ae
   |_,_=>aa [n=n',cv n es es']
  |false=>match t,t' with
   |true,_=>aa [n=0,n'=0]
   |_,_=>ae
 |.val x,.val y=>aa [x=y]
 |x,y=>aa [x=y]
def RH{M:Mem}{v:ah}{x y:C}{ps:List Prop}(h:Yx x y=aa ps)(c:az ps)(r:Rd M v x):Rd M v y:=by
 unfold Yx at h;split at h
 .rename_i k n k' n';cases hk:Ht k k'<;>simp[hk]at h
  subst h;cases Ab hk;cases(show n=n' from c);exact r
 .cases h;rename_i b d;cases(show b=d from c);exact r
 .cases h;rename_i b d;cases(show b=d from c);exact r
 .rename_i t k n es t' k' n' es';cases hk:aB k k' with
  |true =>
   simp only[hk]at h;have e:=bP hk;subst e;cases t<;>cases t'<;>simp at h
   all_goals (subst h;obtain⟨rfl,f⟩:=(show n=n'/\cv n es es' from c);first|exact r.Dx f|exact r.loose.Dx f)
  |false =>
   simp only[hk]at h;cases t<;>simp at h
   subst h;obtain⟨rfl,rfl⟩:=(show n=0/\n'=0 from c)
   obtain⟨a,cap,vs,rfl,_,_,g,_⟩:=r.flat;grind[Rd.jG]
 .cases h;rename_i x y;cases(show x=y from c);exact r
 .cases h;cases c;exact r
def UR:A->A->Option (List Prop)
 |.c x,.c y=>Yx x y
 |.vec _ k n es,.c (.sl af k' n' es')=>match aB k k' with|true=>aa [n=n',cv n es es']|false=>ae
 |.vec l k n es,.vec l' k' n' es'=>match aB l l' with
  |true=>match aB k k' with|true=>aa [n=n',cv n es es']|false=>ae
  |false=>ae
 |.ptr l o,.ptr l' o'=>match aB l l' with|true=>(match aB o o' with|true=>aa []|false=>ae)|false=>ae
 |.ref l,.ref l'=>match aB l l' with|true=>aa []|false=>ae
 |.bp l w,.bp l' w'=>match aB l l' with|true=>aa [w=w']|false=>ae
 |_,.any=>aa []
 |_,_=>ae
def J3{σ:List aP}{s:St}{v:ah}{x y:A}{ps:List Prop}(h:UR x y=aa ps)(b:az ps)(r:gn σ s v x):gn σ s v y:=by
 unfold UR at h;split at h
 .exact RH h b r
 .rename_i k n es k' n' es';cases hk:aB k k'<;>simp[hk]at h
  subst h;have e:=bP hk;subst e;obtain⟨rfl,c⟩:=(show n=n'/\cv n es es' from b)
  exact r.1.Dx c
 .rename_i l k n es l' k' n' es';cases a:aB l l'<;>simp[a]at h
  cases hk:aB k k'<;>simp[hk]at h
  subst h;have e:=bP hk;have d:=bP a;subst e d;obtain⟨rfl,c⟩:=(show n=n'/\cv n es es' from b)
  exact⟨r.1.Dx c,r.2.1,r.2.2⟩
 .grind [Nat.eq_of_beq_eq_true]
 .grind [Nat.eq_of_beq_eq_true]
 .rename_i l w l' w';cases a:aB l l'<;>simp[a]at h
  have d:=bP a;subst d;subst h;cases(show w=w' from b);exact r
 .exact gn.cell r
 grind
def kM:List Prop->List Prop->List Prop
 |[],q=>q
 |p::r,q=>p::kM r q
@[simp] theorem az.cat{p q:List Prop}:az (kM p q)↔az p/\az q:=by
 induction p with
 |nil=>simp[kM]
 |cons x r a=>simp only[kM,az.cons,a,and_assoc]
def Qb:List A->List A->Option (List Prop)
 |[],[]=>aa []
 |a::al,b::bs=>match UR a b with
  |some p=>match Qb al bs with
   |some q=>aa (kM p q)
   |none=>ae
  |none=>ae
 |_,_=>ae
def D5{σ:List aP}{s:St}:∀{vs:List ah}{xs ys:List A}{ps:List Prop},Qb xs ys=aa ps->az ps->dX σ s vs xs->dX σ s vs ys
 |[],[],[],_,_,_,_=>trivial
 |_::_,[],_,_,_,_,h=>h.elim
 |[],_::_,_,_,_,_,h=>h.elim
 |[],[],_::_,_,h,_,_=>by simp[Qb]at h
 |_::_,_::_,[],_,h,_,_=>by simp[Qb]at h
 |v::vs,a::al,b::bs,ps,h,c,e=>by
  simp only[Qb]at h;cases f:UR a b with
  |none=>grind
  |some p =>
   cases d:Qb al bs with
   |none=>grind
   |some q =>
    simp[f,d]at h;subst h;rw[az.cat]at c;exact⟨J3 f c.1 e.1,D5 d c.2 e.2⟩
def US:E1->E1->Option (List Prop)
 |.one a,.one b=>UR a b
 |.agg al,.agg bs=>Qb al bs
 |_,_=>ae
def J4{σ:List aP}{s:St}{v:ah}{x y:E1}{ps:List Prop}(h:US x y=aa ps)(a:az ps)(r:m8 σ s v x):m8 σ s v y:=by
 cases x<;>cases y<;>simp only[US,reduceCtorEq]at h
 .exact J3 h a r
 .obtain⟨vs,c,b⟩:=r;exact⟨vs,c,D5 h a b⟩
def D8:List E1->List E1->Option (List Prop)
 |[],[]=>aa []
 |a::al,b::bs=>match US a b with
  |some p=>match D8 al bs with
   |some q=>aa (kM p q)
   |none=>ae
  |none=>ae
 |_,_=>ae
def FZ{σ:List aP}{s:St}:∀{vs:List ah}{xs ys:List E1}{ps:List Prop},D8 xs ys=aa ps->az ps->g6 σ s vs xs->g6 σ s vs ys
 |[],[],[],_,_,_,_=>trivial
 |_::_,[],_,_,_,_,h=>h.elim
 |[],_::_,_,_,_,_,h=>h.elim
 |[],[],_::_,_,h,_,_=>by simp[D8]at h
 |_::_,_::_,[],_,h,_,_=>by simp[D8]at h
 |v::vs,a::al,b::bs,ps,h,c,e=>by
  simp only[D8]at h;cases f:US a b with
  |none=>grind
  |some p =>
   cases d:D8 al bs with
   |none=>grind
   |some q =>
    simp[f,d]at h;subst h;rw[az.cat]at c;exact⟨J4 f c.1 e.1,FZ d c.2 e.2⟩
def Ds:D->D->Option (List Prop)
 |.e x,.e y=>US x y
 |.eX xs,.eX ys=>D8 xs ys
 |_,.any=>aa []
 |_,_=>ae
theorem oo{σ:List aP}{s:St}{v:ah}{x y:D}{ps:List Prop}(h:Ds x y=aa ps)(a:az ps)(r:dk σ s v x):dk σ s v y:=by
 cases x<;>cases y<;>simp only[Ds,reduceCtorEq]at h
 .exact J4 h a r
 .trivial
 .obtain⟨vs,c,b⟩:=r;exact⟨vs,c,FZ h a b⟩
 .trivial
 .trivial
def nA(φ:Fr):Fr->Option (List Prop)
 |[]=>aa []
 |(i,d)::r=>match Ds (look φ i) d with
  |some p=>match nA φ r with
   |some q=>aa (kM p q)
   |none=>ae
  |none=>ae
def cE{φ:Fr}:∀{φ':Fr}{ps:List Prop},nA φ φ'=aa ps->az ps->oi φ φ'
 |[],_,_,_=>λ_ _ _ _ _=>trivial
 |(i,d)::r,ps,h,a=>by
  simp only[nA]at h;cases e:Ds (look φ i) d with
  |none=>grind
  |some p =>
   cases b:nA φ r with
   |none=>grind
   |some q =>
    simp[e,b]at h;subst h;rw[az.cat]at a;intro σ s v t c;simp only[look];cases f:aB i t with
    |true =>
     grind[Nat.eq_of_beq_eq_true,oo]
    |false=>exact cE b a.2 σ s v t c
def ko(σ:List aP):Bool:=match cq σ with|true=>lA σ|false=>af
def yy{σ:List aP}(h:ko σ=ab):cq σ=ab/\lA σ=ab:=by unfold ko at h;grind
def oO.BU{σ:List aP}{s:St}:∀{ds:List Deferred}{ls:List Nat},oO σ s ds ls->∀l∈ls,σ[l]?=aa .qT
 |[],[],_,l,hl=>by grind
 |[],_::_,r,_,_=>r.elim
 |_::_,[],r,_,_=>r.elim
 |d::ds,b::ls,⟨⟨h1,_⟩,_,a⟩,l,hl=>by
  rcases eE.1 hl with rfl|hl
  .exact h1
  .exact oO.BU a l hl
def cp(fn:Func)(a:Nat)(res:D)(σ':List aP):Post:=λe φ σ1 =>
 (e=.ret∨e=.normal)/\∃ks ds d ps,x6 φ fn.results.toList=aa ds/\rX ds=aa d/\Ds d (hZ ks res)=aa ps/\az ps/\vS ks.length res=ab /\
  jK ks σ1=aa σ'/\ko σ'=ab/\dx ks=ab/\(∀j,j<a->ks[j]?=aa j)
def qV(P:ar)(fn:Func)(a:Nat)(res:D)(σ':List aP):Post:=λe φ σ1 =>
 (e=.ret∨e=.normal)/\∃ks d ps,zH P fn φ d/\Ds d (hZ ks res)=aa ps/\az ps/\vS ks.length res=ab /\
  jK ks σ1=aa σ'/\ko σ'=ab/\dx ks=ab/\(∀j,j<a->ks[j]?=aa j)
def cp.toJ{P:ar}{fn:Func}{a:Nat}{res:D}{σ':List aP}{e:Exit}{φ:Fr}{σ1:List aP}(h:cp fn a res σ' e φ σ1):qV P fn a res σ' e φ σ1:=by obtain⟨b,ks,ds,d,ps,h1,h2,c⟩:=h;exact⟨b,ks,d,ps,zH.of h1 h2,c⟩
def eb.D1{P:ar}{ι:Type}{X:Cx P}{f:aJ}{fn:Func}{c:Code}{args:List D}{σ:List aP}{σ':ι->List aP}{res:ι->D}(hf:P.funcs[f]?=aa fn)(I:(fn.name== "runtime.NumGoroutine")=af)(m:fn.body=aa c)(hlen:args.length<=fn.ntmps)(h:∀s a,cm fn.ntmps σ s (iZ 0 args) a->aF σ s->∀(b:aR) (k:List Item) (cs:List aR) (S:av->St->Prop),b.kind≠.early->b.roundOf=ae ->
  (∀e φ' σ1 s' a',(∃j,qV P fn σ.length (res j) (σ' j) e φ' σ1)->cm fn.ntmps σ1 s' φ' a'->aF σ1 s'->cR σ s σ1 s'->ends X S b k cs e a' s')->fz X S (G (b.aT a (.code c::k)) cs) s):eb X f args σ res σ':=by
 refine⟨⟨fn,hf,I,by grind⟩,λs vs hr hh S cs hS=>?_⟩;obtain⟨hl,hg⟩:=cg.get hr;let b:aR:={fn:=f,tmps:=#[],todo:=[],defers:=[],mode:=.run,kind:=.normal,roundOf:=ae}
 have z:Frame.enter P f vs.toArray .normal=b.aT {tmps:=vs.toArray++Array.replicate (fn.ntmps-vs.toArray.size) ai,defers:=[]} [.code c]:=by simp[Frame.enter,Frame.aT,hf,m,b]
 rw[z];refine h s {tmps:=vs.toArray++Array.replicate (fn.ntmps-vs.toArray.size) ai,defers:=[]} ⟨by grind,⟨[],ay⟩,λt=>?_⟩ hh b [] cs S (by simp[b]) rfl ?_
 .rw[om];simp only[lk,cj,lG];have:=hg t;rcases cC t vs.length with ta|TK
  .have e:(vs.toArray++Array.replicate (fn.ntmps-vs.toArray.size) ai).getD t ai=(vs[t]?).getD ai:=by simp only[dM];grind
   grind
  .rw[rG (by omega)];trivial
 .rintro e φ' σ1 s1 a1 ⟨Q,V,ks,d,ps,h1,h3,h4,h5,O,T,h8,h9⟩ f' N st;obtain⟨h7,R⟩:=yy T;have fin:∀(fr:aR) s2,ck s1 s2->fr.fn=f->fr.tmps=a1.tmps->fr.defers=a1.defers->fr.mode=.returning->fr.kind=.normal->fz X S (G fr cs) s2:=by
   intro fr s2 sX e1 e2 e3 e4 e5;have Y:=f'.rely sX N;have p:=N.rely sX;have g:=st.trans sX.stepW;obtain⟨v,r2,W⟩:=h1 Y;obtain⟨i,r⟩:=vP (l':=s2.β) O p.len;have r4:=(oo h3 h4 r2).sub O r h5;obtain⟨c1,c2⟩:=iJ O;obtain⟨d1,d2⟩:=iJ r;have A:∀L∈i,L∈s2.β:=zG r;have F:aF (σ' Q) {s2 with β:=i}:=by obtain⟨C,_⟩:=p.sub O r h7 h8;refine⟨C.mem,C.len,λj B L hB hL=>?_,C.eB,C.lt,λb m=>⟨(p.own b m).1,λL hL=>(p.own b m).2 L (A L hL)⟩⟩;exact et.plain (σ:=σ' Q) (s:={s2 with β:=i,own:=vU s2 i}) (s':={s2 with β:=i}) rfl rfl (kK h7 B (bJ hB)) (C.box j B L hB hL)
   have U:cR σ s (σ' Q) {s2 with β:=i}:=by refine⟨g.size,g.fb,g.mem,g.iV,λL hL b m=>g.vd _ (A L hL) b m,λl B L hB hL=>?_,g.os,g.tape,g.output,g.own⟩;have hl:l<σ.length:=(bY.1 hB).1;obtain⟨B',L',p1,p2,p3⟩:=g.box l B L hB hL;grind
   obtain⟨ls,J⟩:=Y.defers;refine q8 ls fr s2 _ p.lI (by simp) e4 (by rw[e3];exact J.taken p) λE n=>?_;have q:ck {s2 with β:=i} {E with β:=i}:=by
    refine⟨rfl,n.M,n.own,n.size,λb m=>n.fb b (m.imp id ?_),n.mem,n.os,n.tape,n.output⟩;rintro⟨L,hL,m⟩;obtain⟨j,hj,rfl⟩:=dL hL;have K:j<ks.length:=by grind
    obtain⟨y,Z,y2⟩:=d2 j _ (br K);obtain⟨x,x1,x2⟩:=c2 j _ (br K);rw[br hj]at Z;cases Z;refine⟨_,_,y2,λhc=>?_,m⟩;rw[J.BU _ hc]at x2;cases x2;exact nq R _ (bJ x1) rfl
   have hG:eu E {E with β:=i}:=⟨rfl,λ_ _ _ h=>h,λ_ _ _=>rfl,λb o v hv=>n.mem b o v (by rw[<-n.M];exact hv),λb m=>m.imp id λ⟨L,hL,m⟩=>⟨L,by rw[n.β];grind,m⟩⟩
   refine .ghost hG (hS Q _ v _ ⟨e1,e4,rfl,e5,fn,by grind,λw hw=>?_⟩ (r4.mono q.stepW.ext F.len) (F.rely q) (U.trans q.stepW));show(results fn fr.tmps).run P w=_/\∀e∈(results fn fr.tmps).events P w #[],_;rw[e2];have H:∀b o u,s2.M b o=aa u->w.cell? ⟨b,o,ae⟩=aa u:=λb o u h=>hw b o u (by show E.M b o=aa u;rw[n.M];exact h);refine⟨(W w H).1,λe V=>?_⟩;obtain⟨b,o,u,q1,q2⟩:=(W w H).2 e V;exact⟨b,o,u,q1,by show E.M b o=aa u;rw[n.M];exact q2⟩
  rcases V with rfl|rfl
  .intro pre;exact .ctl N rfl (λ_=>DC rfl) λs2 sX=>fin _ s2 sX rfl rfl (iQ _) rfl rfl
  .exact .ctl N rfl (λ_=>DD rfl) λs2 sX=>fin _ s2 sX rfl rfl (iQ _) rfl rfl
def eb.Qa{P:ar}{ι:Type}{X:Cx P}{f:aJ}{fn:Func}{c:Code}{args:List D}{σ:List aP}{σ':ι->List aP}{res:ι->D}(i:P.funcs[f]?=aa fn)(d:(fn.name== "runtime.NumGoroutine")=af)(l:fn.body=aa c)(g:args.length<=fn.ntmps)(h:∀s a,cm fn.ntmps σ s (iZ 0 args) a->aF σ s->∀(b:aR) (k:List Item) (cs:List aR) (S:av->St->Prop),b.kind≠.early->b.roundOf=ae ->
  (∀e φ' σ1 s' a',(∃j,cp fn σ.length (res j) (σ' j) e φ' σ1)->cm fn.ntmps σ1 s' φ' a'->aF σ1 s'->cR σ s σ1 s'->ends X S b k cs e a' s')->fz X S (G (b.aT a (.code c::k)) cs) s):eb X f args σ res σ' :=
 eb.D1 i d l g λs a f hh b k cs S h1 h2 hQ=>h s a f hh b k cs S h1 h2 λe φ' σ1 s' a' ⟨j,q⟩=>hQ e φ' σ1 s' a' ⟨j,q.toJ⟩
def eb.Jk{P:ar}{ι:Type}{X:Cx P}{f:aJ}{fn:Func}{c:Code}{args:List D}{σ:List aP}{σ':ι->List aP}{res:ι->D}(m:P.funcs[f]?=aa fn)(g:(fn.name== "runtime.NumGoroutine")=af)(i:fn.body=aa c)(d:args.length<=fn.ntmps)(h:AW X fn.ntmps c (λe φ σ1=>∃j,qV P fn σ.length (res j) (σ' j) e φ σ1) (iZ 0 args) σ):eb X f args σ res σ' :=
 eb.D1 m g i d λs a f hh b k cs S hk _ l=>h s a f hh b k cs S hk l
def eb.intro{P:ar}{ι:Type}{X:Cx P}{f:aJ}{fn:Func}{c:Code}{args:List D}{σ:List aP}{σ':ι->List aP}{res:ι->D}(m:P.funcs[f]?=aa fn)(g:(fn.name== "runtime.NumGoroutine")=af)(i:fn.body=aa c)(d:args.length<=fn.ntmps)(h:AW X fn.ntmps c (λe φ σ1=>∃j,cp fn σ.length (res j) (σ' j) e φ σ1) (iZ 0 args) σ):eb X f args σ res σ' :=
 eb.Qa m g i d λs a f hh b k cs S hk _ l=>h s a f hh b k cs S hk l
def Ev.intro{P:ar}{X:Cx P}{f:aJ}{fn:Func}{c:Code}{args:List D}{σ σ':List aP}{res:D}(d:P.funcs[f]?=aa fn)(a:(fn.name== "runtime.NumGoroutine")=af)(e:fn.body=aa c)(b:args.length<=fn.ntmps)(h:AW X fn.ntmps c (cp fn σ.length res σ') (iZ 0 args) σ):Ev X f args σ res σ' :=
 (eb.intro d a e b (AW.mono h λ_ _ _ q=>⟨(),q⟩)).DJ
inductive It where
 |code (c:Code)
 |blk (id:Nat)
 |ops (all rest:List au)
def AK{P:ar}(X:Cx P)(N:Nat)(Qf:Post):List It->Post
 |[],e,φ,σ=>Qf e φ σ
 |.code c::K,.normal,φ,σ=>AW X N c (AK X N Qf K) φ σ
 |.code _::K,e,φ,σ=>AK X N Qf K e φ σ
 |.blk id::K,.exit IX,φ,σ=>if IX=id then AK X N Qf K .normal φ σ else AK X N Qf K (.exit IX) φ σ
 |.blk _::K,e,φ,σ=>AK X N Qf K e φ σ
 |.ops all rest::K,.normal,φ,σ=>ib X N all rest (AK X N Qf K .normal) φ σ
 |.ops _ _::K,e,φ,σ=>AK X N Qf K e φ σ
section
variable {P:ar}{X:Cx P}{N:Nat}{Qf:Post}{K:List It}{φ:Fr}{σ:List aP}
def AK.of_code{c:Code}(h:AK X N Qf [.code c] .normal φ σ):AW X N c Qf φ σ:=h
theorem AK.skip(h:AK X N Qf K .normal φ σ):AK X N Qf (.code .skip::K) .normal φ σ:=AW.skip h
theorem AK.seq{x y:Code}(h:AK X N Qf (.code x::.code y::K) .normal φ σ):AK X N Qf (.code (.seq x y)::K) .normal φ σ:=by refine AW.seq (AW.mono h ?_);intro e φ' σ' q;cases e<;>exact q
theorem AK.block{id:Nat}{c:Code}(h:AK X N Qf (.code c::.blk id::K) .normal φ σ):AK X N Qf (.code (.block id c)::K) .normal φ σ:=by refine AW.block (AW.mono h ?_);intro e φ' σ' q;cases e<;>exact q
theorem AK.RV{id:Nat}(h:AK X N Qf K .normal φ σ):AK X N Qf (.blk id::K) .normal φ σ:=h
theorem AK.region{id:Nat}{ops:Array au}(h:AK X N Qf (.ops ops.toList ops.toList::K) .normal φ σ):AK X N Qf (.code (.region id ops af)::K) .normal φ σ:=AW.region h
theorem AK.Kn{all:List au}(h:AK X N Qf K .normal φ σ):AK X N Qf (.ops all []::K) .normal φ σ:=ib.nil h
def AK.sr:∀{K:List It},Qf .ret φ σ->AK X N Qf K .ret φ σ
 |[],h=>h
 |.code _::K,h=>AK.sr (K:=K) h
 |.blk _::K,h=>AK.sr (K:=K) h
 |.ops _ _::K,h=>AK.sr (K:=K) h
def AK.ret(h:Qf .ret φ σ):AK X N Qf (.code .ret::K) .normal φ σ:=AW.ret (AK.sr h)
def jQ(id:Nat):List It->Option (List It)
 |[]=>ae
 |.blk i::K=>match aB id i with|true=>aa K|false=>jQ id K
 |_::K=>jQ id K
def AK.wL{id:Nat}:∀{K a:List It},jQ id K=aa a->AK X N Qf a .normal φ σ->AK X N Qf K (.exit id) φ σ
 |[],_,h,_=>by cases h
 |.blk i::K,a,h,q=>by
  simp only[jQ]at h;cases c:aB id i with
  |true =>
   simp[c]at h;subst h;have e:=bP c;simp only[AK,e,cj];exact q
  |false =>
   simp[c]at h;have b:id≠i:=λe=>by grind[Nat.beq_refl]
   simp only[AK,b,b7];exact AK.wL h q
 |.code _::K,a,h,q=>AK.wL (K:=K) h q
 |.ops _ _::K,a,h,q=>AK.wL (K:=K) h q
theorem AK.exit{id:Nat}{a:List It}(hk:jQ id K=aa a)(h:AK X N Qf a .normal φ σ):AK X N Qf (.code (.exit id)::K) .normal φ σ:=AW.exit (AK.wL hk h)
theorem AK.cond{c:ak}{x y:Code}{b:Bool}{t:Nat}(d:c=.tmp t)(hl:look φ t=.e (.one (.c (.bool b))))(f:b=ab->AK X N Qf (.code x::K) .normal φ σ)(a:b=af->AK X N Qf (.code y::K) .normal φ σ):AK X N Qf (.code (.cond c x y)::K) .normal φ σ:=AW.cond d hl f a
def AK.loop{S:Type}{c:Code}(I:S->Prop)(fr:S->Fr)(st:S->List aP)(b:S->Nat)(x:S)(f:I x)(a:oi φ (fr x))(d:st x=σ)(round:∀x,I x->AK X N (λe φ' σ'=>match e with
   |.normal=>∃y,I y/\b y<b x/\oi φ' (fr y)/\σ'=st y
   |e=>AK X N Qf K e φ' σ') [.code c] .normal (fr x) (st x)):AK X N Qf (.code (.loop c)::K) .normal φ σ:=by refine AW.loop I fr st b x f a d λy g=>AW.mono (round y g) ?_;intro e φ' σ' q;cases e<;>exact q
end
def dv{α a:Type}:List α->(List α->Option a)->Option a
 |[],k=>k []
 |x::r,k=>dv r λq=>k (x::q)
theorem cZ{α b:Type}(l:List α)(k:List α->Option b):dv l k=k l:=by
 induction l generalizing k with
 |nil=>rfl
 |cons x r a=>simp[dv,a]
def zV(φ:Fr)(all:List au)(j:Nat):Option (Option Bool) :=
 match du j all with
 |some oj=>match oj.dst with
  |some d=>match look φ d with
   |.e (.one (.c (.bool ab)))=>aa (aa ab)
   |.e (.one (.c (.bool af)))=>aa (aa af)
   |.eX []=>aa ae
   |_=>ae
  |none=>ae
 |none=>ae
def qi{N:Nat}{φ:Fr}{all:List au}{j:Nat}{r:Option Bool}(h:zV φ all j=aa r){σ:List aP}{s:St}{a:Act}(f:cm N σ s φ a):yielded all.toArray a.tmps j=r:=by
 unfold zV at h;rw[ff]at h;unfold yielded;cases k:all[j]? with
 |none=>grind
 |some oj =>
  simp only[k]at h;simp only[ik,k,n3];cases l:oj.dst with
  |none=>grind
  |some d =>
   simp only[l]at h;simp only[n3];have c:=f.slot d;have key:∀v,a.tmps.getD d ai=v->v≠ai->a.tmps[d]?=aa v:=by intro v e m;simp only[dM]at e;grind
   split at h
   .rename_i g;cases h;rw[g]at c;have b:=eT c;generalize e:a.tmps.getD d ai=v at b;cases b;rw[key _ e (by simp[ai])]
   .rename_i g;cases h;rw[g]at c;have b:=eT c;generalize e:a.tmps.getD d ai=v at b;cases b;rw[key _ e (by simp[ai])]
   .rename_i g;cases h;rw[g]at c;obtain⟨vs,n,o⟩:=c;have i:vs=[]:=by cases vs with
     |nil=>rfl
     |cons _ _=>exact o.elim
    subst i;simp only[dM]at n;grind
   grind
def W7(T:List (Nat×TI))(φ:Fr)(σ:List aP)(o:au):Option (D×List aP×List Prop) :=
 match o.op with
 |.move x|.assign x=>aa (bM φ x,σ,[])
 |.pick c a b=>match bM φ c with
  |.e (.one (.c (.bool ab)))=>aa (bM φ a,σ,[])
  |.e (.one (.c (.bool af)))=>aa (bM φ b,σ,[])
  |_=>ae
 |.binOp op _ x y _=>match bM φ x,bM φ y with
  |.e (.one (.c a)),.e (.one (.c b))=>match ND op a b with
   |some (c,obs)=>aa (.e (.one (.c c)),σ,obs)
   |none=>ae
  |_,_=>ae
 |.unOp op _ x=>match bM φ x with
  |.e (.one (.c a))=>match W6 op a with
   |some c=>aa (.e (.one (.c c)),σ,[])
   |none=>ae
  |_=>ae
 |.extract x j=>match bM φ x with
  |.eX xs=>match du j xs with
   |some e=>aa (.e e,σ,[])
   |none=>ae
  |_=>ae
 |.alloc E=>match bD T E with
  |some i=>dv (σ++[.cells E (i.zero.map A.c)]) λσ'=>aa (.e (.one (.ptr σ.length 0)),σ',[])
  |none=>ae
 |.box E x=>match kn (bM φ x)with
  |some cs=>dv (σ++[.cells E cs]) λσ'=>aa (.e (.one (.ptr σ.length 0)),σ',[])
  |none=>ae
 |.load t x=>match bD T t with
  |some i=>match bM φ x with
   |.e (.one (.ptr l off))=>match du l σ with
    |some (.cells _ cs)=>match kN i (fK off cs)with
     |some e=>aa (.e e,σ,[])
     |none=>ae
    |_=>ae
   |.e (.one (.c (.rp cs)))=>match kN i (cs.map A.c)with
    |some e=>aa (.e e,σ,[])
    |none=>ae
   |_=>ae
  |none=>ae
 |.store t x y=>match bD T t with
  |some i=>match bM φ x with
   |.e (.one (.ptr l off))=>match du l σ with
    |some (.cells E cs)=>match kn (bM φ y)with
     |some new=>match aB new.length i.size with
      |true=>match fi off new cs with
       |some nb=>dv (dH.qB l (.cells E nb) σ) λσ'=>aa (.any,σ',[])
       |none=>ae
      |false=>ae
     |none=>ae
    |_=>ae
   |_=>ae
  |none=>ae
 |.fieldAddr t x f=>match jM T t f with
  |some (k,_)=>match bM φ x with
   |.e (.one (.ptr l off))=>aa (.e (.one (.ptr l (off+k))),σ,[])
   |.e (.one (.c (.rp cs)))=>aa (.e (.one (.c (.rp (fK k cs)))),σ,[])
   |_=>ae
  |none=>ae
 |.field t x f=>match jM T t f with
  |some (k,j)=>match bM φ x with
   |.e (.agg cs)=>match kN j (fK k cs)with
    |some e=>aa (.e e,σ,[])
    |none=>ae
   |_=>ae
  |none=>ae
 |.nilCheck x=>match bM φ x with
  |.e (.one (.ptr l off))=>aa (.e (.one (.ptr l off)),σ,[])
  |.e (.one (.c (.rp cs)))=>aa (.e (.one (.c (.rp cs))),σ,[])
  |_=>ae
 |.build t parts=>match zT T (bM φ) t parts.toList with
  |some cs=>aa (.e (.agg cs),σ,[])
  |none=>ae
 |.buildSlice t n parts=>match NF T (bM φ) t n parts.toList with
  |some (k,es)=>aa (.e (.one (.c (.sl ab k n λi=>es.getD i []))),σ,[])
  |none=>ae
 |_=>ae
theorem DU{P:ar}{T:List (Nat×TI)}(hT:cO P T){φ:Fr}{σ σ':List aP}{o:au}{x:D}{obs:List Prop}(h:W7 T φ σ o=aa (x,σ',obs))(m:az obs):bF P o (bM φ) σ x σ':=by
 unfold W7 at h;split at h
 .grind [bF.move]
 .grind [bF.assign]
 .rename_i c a b d;split at h
  .rename_i e;cases h;exact bF.pick d e
  .rename_i e;cases h;exact bF.pick d e
  grind
 .grind [bF.binOp]
 .grind [bF.unOp]
 .grind [bF.extract,bZ]
 .grind [cZ,bF.alloc]
 .grind [cZ,bF.box]
 .rename_i t y d;split at h
  .grind [bF.FN,bZ,bF.JF]
  grind
 .rename_i t y z d;split at h
  .rename_i i hi;split at h
   .rename_i l off hx;split at h
    .grind [cZ,jd,bF.store,bZ,Nat.eq_of_beq_eq_true]
    grind
   grind
  grind
 .rename_i t y f d;split at h
  .rename_i k j g;split at h
   .rename_i l off hx;cases h;exact bF.sh hT d hx g
   .grind [bF.ug]
   grind
  grind
 .grind [bF.field]
 .grind [bF.uh,bF.wC]
 .grind [bF.build]
 .grind [bF.buildSlice]
 grind
def fR(N:Nat):Option Nat->Bool
 |some d=>bu (d+1) N
 |none=>ab
def gA{N:Nat}{d:Option Nat}(h:fR N d=ab):∀t,d=aa t->t<N:=by intro t a;subst a;exact cV h
theorem dC{all:List au}{o:au}(h:o.guard=ae){a:Act}:bd o (yielded all.toArray a.tmps)=ab:=by simp[bd,h]
section
variable {P:ar}{T:List (Nat×TI)}{o:au}{g:ak->D}{σ:List aP}
def rf(g:ak->D):Option ak->Option (Option Int)
 |none=>aa ae
 |some x=>match g x with
  |.e (.one (.c (.int _ j)))=>aa (aa j)
  |_=>ae
def gu{s:St}{a:ak->ah}(c:∀y,dk σ s (a y) (g y)){x:Option ak}{b:Option Int}(h:rf g x=aa b):(x.map a=ae/\b=ae)∨∃k j,x.map a=aa (.int k j)/\b=aa j:=by
 cases x with
 |none=>cases h;grind
 |some y =>
  right;simp only[rf]at h;split at h
  .rename_i k j d;cases h;have:=c y;rw[d]at this;have:=eT this;generalize e:a y=v at this;cases this;grind
  grind
def dc(d:Nat):Option Int->Nat
 |none=>d
 |some j=>j.toNat
def fM(n:Nat):Option Int->Option Int->List Prop
 |none,ae=>[]
 |some l,ae=>[0<=l,l<=n]
 |none,aa h=>[0<=h,h<=n]
 |some l,aa h=>[0<=l,l<=h,h<=n]
def lX{isS:Bool}{n cap:Nat}(p:n<=cap){lo hi:Option ah}{l h:Option Int}(i:(lo=ae/\l=ae)∨∃k j,lo=aa (.int k j)/\l=aa j)(m:(hi=ae/\h=ae)∨∃k j,hi=aa (.int k j)/\h=aa j)(b:az (fM n l h))(w:aA):(bc isS n cap lo hi ae).run P w=.ok (dc 0 l,dc n h,cap) w/\dc 0 l<=dc n h/\dc n h<=n:=by
 rcases i with⟨rfl,rfl⟩|⟨f,l,rfl,rfl⟩<;>rcases m with⟨rfl,rfl⟩|⟨d,h,rfl,rfl⟩
 .exact⟨by simp[bc,dc],by simp[dc],by simp[dc]⟩
 .obtain⟨a,c⟩:0<=h/\h<=(n:Int):=b;refine⟨?_,by simp[dc],by simp only[dc];omega⟩;simp[bc,dc,run_sliceBound (P:=P) w d h cap _ a (by omega)]
 .obtain⟨a,c⟩:0<=l/\l<=(n:Int):=b;refine⟨?_,by simp only[dc];omega,by simp[dc]⟩;simp[bc,dc,run_sliceBound (P:=P) w f l n _ a c]
 .obtain⟨a,c,q⟩:0<=l/\l<=h/\h<=(n:Int):=b;have e:((h.toNat:Nat):Int)=h:=rI (by omega);refine⟨?_,by simp only[dc];omega,by simp only[dc];omega⟩;simp[bc,dc,run_sliceBound (P:=P) w d h cap _ (by omega) (by omega),run_sliceBound (P:=P) w f l h.toNat _ a (by omega)]
def dF(w:aA)(k:IntKind)(i:Int)(y:Nat)(code:BoundsCode)(b:0<=i)(a:i<=(y:Int))(es:Array Event):(Instr.sliceBound (.int k i) y code).events P w es=es:=by simp[Instr.sliceBound,asIntOf,b,a]
def nh{isS:Bool}{n cap:Nat}{lo hi:Option ah}{l h:Option Int}(q:n<=cap)(m:(lo=ae/\l=ae)∨∃k j,lo=aa (.int k j)/\l=aa j)(p:(hi=ae/\h=ae)∨∃k j,hi=aa (.int k j)/\h=aa j)(c:az (fM n l h))(w:aA)(es:Array Event):(bc isS n cap lo hi ae).events P w es=es:=by
 have s:∀(isS:Bool) (v:Option ah) (d:Nat) (w:aA) (es:Array Event),v=ae->(bc isS n cap ae ae ae).events P w es=es:=λisS v d w es _=>by simp[bc]
 rcases m with⟨rfl,rfl⟩|⟨i,l,rfl,rfl⟩<;>rcases p with⟨rfl,rfl⟩|⟨b,h,rfl,rfl⟩
 .simp[bc]
 .obtain⟨a,f⟩:0<=h/\h<=(n:Int):=c;simp[bc,dF (P:=P) w b h cap _ a (by omega)]
 .obtain⟨a,f⟩:0<=l/\l<=(n:Int):=c;simp[bc,dF (P:=P) w i l n _ a f]
 .obtain⟨a,f,r⟩:0<=l/\l<=h/\h<=(n:Int):=c;have e:((h.toNat:Nat):Int)=h:=rI (by omega);simp[bc,run_sliceBound (P:=P) w b h cap _ (by omega) (by omega),dF (P:=P) w b h cap _ (by omega) (by omega),dF (P:=P) w i l h.toNat _ a (by omega)]
def sd(s:List UInt8):Option Int->Option Int->List UInt8
 |none,ae=>s
 |some l,ae=>s.drop l.toNat
 |none,aa h=>s.take h.toNat
 |some l,aa h=>(s.take h.toNat).drop l.toNat
theorem bF.JC(hT:cO P T){t:aj}{x:ak}{lo hi:Option ak}(h:o.op=.slice t x lo hi ae){i:TI}(m:bD T t=aa i)(y:i.desc=.string){s:List UInt8}{l u:Option Int}(z:g x=.e (.one (.c (.str s))))(hl:rf g lo=aa l)(r:rf g hi=aa u)(A:az (fM s.length l u)):bF P o g σ (.e (.one (.c (.str (sd s l u))))) σ:=by
 refine .quiet λst ρ hh hr=>?_;have h1:=hr x;rw[z]at h1;replace h1:=eT h1;generalize f:ρ x=vx at h1;cases h1 with
 |@str sb _ p q =>
 have j:sb.size=s.length:=by rw[<-p];exact ji.symm
 obtain⟨v,b,d⟩:=lX (P:=P) (isS:=af) (n:=sb.size) (cap:=sb.size) (bh _) (gu hr hl) (gu hr r) (by grind) st.w;have a:=(hT t i m).run_underlying (w:=st.w);rw[y]at a;have k:=nh (P:=P) (isS:=af) (n:=sb.size) (cap:=sb.size) (bh _) (gu hr hl) (gu hr r) (by grind) st.w;refine⟨.string (sb.extract (dc 0 l) (dc sb.size u)),?_,Rd.str ?_ ?_,by simp[aw,h,f,Instr.sliceAt,a,Instr.slice,k]⟩
 .simp[aw,h,f,Instr.sliceAt,a,Instr.slice,v]
 .rw[Lib.extract_data,p,j];rw[j]at b d;cases l<;>cases u<;>simp only[sd,dc]at b d⊢
  .simp
  .simp
  .grind [List.take_of_length_le]
  .rw[List.drop_take]
 .cases l<;>cases u<;>simp only[sd,rJ,List.length_take]<;>omega
def lZ(l:Nat)(f:Nat->List C):Nat->List C:=λi=>f (l+i)
def Rf(tt:Bool):Option Int->Bool
 |none=>tt
 |some _=>af
theorem bF.NN(hT:cO P T){t:aj}{x:ak}{lo hi:Option ak}(h:o.op=.slice t x lo hi ae){i p:TI}{E:aj}(q:bD T t=aa i)(F:i.desc=.slice E)(G:bD T E=aa p){tt:Bool}{n:Nat}{es:Nat->List C}{l u:Option Int}(H:∀s v,dk σ s v (g x)->Rd s.M v (.sl tt p.size n es))(hl:rf g lo=aa l)(A:rf g hi=aa u)(y:az (fM n l u)):
  bF P o g σ (.e (.one (.c (.sl (Rf tt u) p.size (dc n u-dc 0 l) (lZ (dc 0 l) es))))) σ:=by
 refine .quiet λst ρ hh hr=>?_;have h1:=H st _ (hr x);obtain⟨a,cap,vs,r,k,K,I,O,N⟩:=h1.flat;rw[r]at h1;obtain⟨z,J,L⟩:=lX (P:=P) (isS:=ab) k (gu hr hl) (gu hr A) y st.w;have d:=(hT t i q).run_underlying (w:=st.w);rw[F]at d;refine⟨.slice (if cap=dc 0 l then a else a.map (·.add (dc 0 l*p.size))) (dc n u-dc 0 l) (cap-dc 0 l),?_,?_,by simp[aw,h,r,Instr.sliceAt,d,Instr.slice,z,nh (P:=P) (isS:=ab) k (gu hr hl) (gu hr A) y st.w]⟩
 .simp[aw,h,r,Instr.sliceAt,d,Instr.slice,z,(hT E p G).run_sizeOf]
 .cases h1 with
  |sl b off f _ _ _ hk ha hm' M3 =>
   refine Rd.sl b (off+dc 0 l*p.size) (λi j=>f (dc 0 l+i) j) (by omega) (by omega) ?_ (λi hi=>hk _ (by omega)) (λB=>?_) (λi hi j c hj=>?_) (λi hi j c hj=>M3 _ (by omega) j c hj)
   .intro m;cases u with
    |none=>simp only[Rf]at m;have:=I m;simp only[dc];omega
    |some u=>cases m
   .rw[aZ (by omega),ha (by omega)];simp[dm]
   .have:=hm' (dc 0 l+i) (by omega) j c hj;grind
def bF.NL(hT:cO P T){b dst:aj}{x:ak}(h:o.op=.convert b dst x){i i2:TI}{k k':IntKind}{j:Int}(hi:bD T b=aa i)(l:bD T dst=aa i2)(n:i2.desc=.int k')(p:g x=.e (.one (.c (.int k j))))(m:bA k' j):
  bF P o g σ (.e (.one (.c (.int k' j)))) σ:=by refine .quiet λst ρ hh hr=>?_;have h1:=hr x;rw[p]at h1;replace h1:=eT h1;generalize f:ρ x=vx at h1;cases h1;have d:=(hT b i hi).run_underlying (w:=st.w);have a:=(hT dst i2 l).run_underlying (w:=st.w);rw[n]at a;exact⟨.int k' j,by simp[aw,h,f,convert,d,a,Conv.intToInt,mv m],Rd.int m,by simp[aw,h,f,convert,d,a,Conv.intToInt]⟩
theorem bF.NM(hT:cO P T){b dst:aj}{x:ak}(h:o.op=.convert b dst x){i i2:TI}{s:List UInt8}(hi:bD T b=aa i)(k:bD T dst=aa i2)(l:i2.desc=.string)(m:g x=.e (.one (.c (.str s)))):
  bF P o g σ (.e (.one (.c (.str s)))) σ:=by refine .quiet λst ρ hh hr=>?_;have h1:=hr x;rw[m]at h1;have d:=eT h1;generalize j:ρ x=vx at d;cases d;have f:=(hT b i hi).run_underlying (w:=st.w);have a:=(hT dst i2 k).run_underlying (w:=st.w);rw[l]at a;exact⟨_,by simp[aw,h,j,convert,f,a];rfl,by grind,by simp[aw,h,j,convert,f,a]⟩
def wy(f:Nat->List C):Nat->Nat->Option (List UInt8)
 |_,0=>aa []
 |i,n+1=>match f i with
  |[.int .u8 v]=>match wy f (i+1) n with
   |some r=>aa (UInt8.ofNat v.toNat::r)
   |none=>ae
  |_=>ae
def yE{M:Mem}{f:Nat->List C}:∀{n i:Nat}{r:List UInt8}{vs:List ah},wy f i n=aa r->vs.length=n->(∀j,j<n->∀c,(f (i+j))[0]?=aa c->∃v,vs[j]?=aa v/\Rd M v c) ->
  ∃xs:List Int,vs=xs.map (Value.int .u8)/\r=xs.map (λx=>UInt8.ofNat x.toNat)
 |0,i,r,vs,h,a,_=>by cases h;exact⟨[],by grind,rfl⟩
 |n+1,i,r,[],h,a,_=>by grind
 |n+1,i,r,v::vs,h,a,b=>by
  simp only[wy]at h;split at h
  .rename_i x t;split at h
   .rename_i q e;cases h;obtain⟨u,d,k⟩:=b 0 (by omega) (.int .u8 x) (by grind)
    simp at d;subst d;cases k;obtain⟨xs,l,m⟩:=yE (vs:=vs) e (by grind) (λj p c s=>by
     have:=b (j+1) (by omega) c (by grind)
     simpa using this)
    exact⟨x::xs,by grind,by grind⟩
   grind
  grind
def oI{P:ar}(w:aA){F:ah->ByteArray->Sem (ForInStep ByteArray)}(a:∀x s,F (.int .u8 x) s=pure (.yield (s.push (UInt8.ofNat x.toNat)))):∀(xs:List Int)(s:ByteArray),
  (forIn (m:=Sem) (xs.map (Value.int .u8)) s F).run P w=.ok ⟨s.data++(xs.map λx=>UInt8.ofNat x.toNat).toArray⟩ w
 |[],s=>by simp
 |x::xs,s=>by simp only[pX,List.forIn_cons,a,bL,dq,bU];rw[oI w a xs];congr 2;apply Array.ext';simp[ByteArray.push]
end
def Ki(P:ar):List TypeDesc->List Field->Nat->Prop
 |[],[],_=>True
 |d::ds,f::fs,i=>f.name≠ "_"/\f.offset=i/\P.underlying f.type=aa d/\(match d with|.int _|.string|.bool=>True|_=>False)/\Ki P ds fs (i+1)
 |_,_,_=>False
def UZ(d:Nat)(xs ys:Array ah)(f:Field)(_:Option Bool×Unit):Sem (ForInStep (Option Bool×Unit)) :=
 if f.name= "_" then pure (ForInStep.yield (ae,()))
 else do
  let a<-part f.type xs f.offset;let b<-part f.type ys f.offset;let r<-aY d f.type a b
  if r=af then pure (ForInStep.done (aa af,()))else pure (ForInStep.yield (ae,()))
def sv{P:ar}(w:aA)(d:Nat)(xs ys:Array ah):∀{ds:List TypeDesc}{fs:List Field}{i:Nat}{vs ws:List ah}{b:Bool},Ki P ds fs i->jR ds vs ws=aa b->(∀j v,vs[j]?=aa v->xs[i+j]?=aa v)->(∀j v,ws[j]?=aa v->ys[i+j]?=aa v) ->
  (Op.eqFields (d+1) xs ys fs).run P w=.ok b w/\∀es,(forIn fs (ae,()) (UZ (d+1) xs ys)).events P w es=es
 |[],[],i,[],[],b,_,h,_,_=>by cases h;simp[Op.eqFields]
 |[],[],i,_::_,_,b,_,h,_,_=>by cases h
 |[],[],i,[],_::_,b,_,h,_,_=>by cases h
 |[],_::_,i,_,_,b,y,_,_,_=>y.elim
 |_::_,[],i,_,_,b,y,_,_,_=>y.elim
 |t::ds,f::fs,i,[],_,b,_,h,_,_=>by cases h
 |t::ds,f::fs,i,_::_,[],b,_,h,_,_=>by cases h
 |t::ds,f::fs,i,v::vs,u::us,b,⟨C,A,q,J,I⟩,h,B,G=>by
  simp only[jR]at h;cases n:rm t v u with
  |none=>grind
  |some a =>
   cases F:jR ds vs us with
   |none=>grind
   |some b' =>
    simp[n,F]at h;subst h;obtain⟨K,s⟩:=sv w d xs ys I F (λj v H=>by have:=B (j+1) v (by grind);grind) (λj v H=>by have:=G (j+1) v (by grind);grind);have e:xs[i]?=aa v:=by simpa using B 0 v rfl
    have c:ys[i]?=aa u:=by simpa using G 0 u rfl
    have l:(isAgg f.type).run P w=.ok af w:=by unfold isAgg underlying;cases t<;>simp at J<;>simp[q]
    have p:∀(k:Array ah) (z:ah),k[i]?=aa z->(part f.type k f.offset).run P w=.ok z w:=by intro k z x;unfold part;simp[l,A,x]
    have m:∀(k:Array ah) (z:ah),k[i]?=aa z->∀es,(part f.type k f.offset).events P w es=es:=by intro k z x es;unfold part;simp[l,A,x]
    have r:∀es,(aY (d+1) f.type v u).events P w es=es:=by
     intro es;unfold rm at n;split at n<;>first
      |(cases n;done)
      |(unfold aY;simp[underlying,q];done)
      |(unfold aY;simp[underlying,q];split<;>rfl)
    have E:(aY (d+1) f.type v u).run P w=.ok a w:=by unfold rm at n;grind[run_equalIn_int,run_equalIn_string,run_equalIn_bool]
    refine⟨?_,λes=>?_⟩
    .rw[Op.eqFields.eq_2,bl C];simp only[bL,p xs v e,p ys u c,E,bU];cases a
     .simp
     grind
    .rw[List.forIn_cons];simp only[UZ,C,b7,aM,bL,p xs v e,p ys u c,E,bU,aO,m xs v e,m ys u c,r];cases a
     .simp
     .simpa using s es
def kV{P:ar}{t:aj}{fs:List Field}{ds:List TypeDesc}(d:P.underlying t=aa (.struct fs.toArray))(c:P.stoodInHeld t=af)(e:P.eqGuardType P.depth t=af)(k:Ki P ds fs 0):
  P.eqGuardType P.depth t=af/\∀(w:aA) (vs ws:List ah) (b:Bool),jR ds vs ws=aa b->(Op.equal t (.agg vs.toArray) (.agg ws.toArray)).run P w=.ok b w/\∀es,(Op.equal t (.agg vs.toArray) (.agg ws.toArray)).events P w es=es:=by
 refine⟨e,λw vs ws b h=>?_⟩;have f:P.fieldsOf t=fs.toArray:=by unfold Program.fieldsOf;rw[d]
 have key:=sv w 9998 vs.toArray ws.toArray k h (λj v l=>by grind) (λj v l=>by grind);refine⟨?_,λes=>?_⟩
 rotate_left
 .show (aY (9999+1) t _ _).events P w es=es;have i:=key.2 es;unfold aY;simp[underlying,d,c];show Result.evThen ((forIn fs (ae,()) (UZ 9999 vs.toArray ws.toArray)).run P w) ((forIn fs (ae,()) (UZ (9998+1) vs.toArray ws.toArray)).events P w es) _=es;rw[i];cases(forIn fs (ae,()) (UZ 9999 vs.toArray ws.toArray)).run P w with
  |ok a w'=>obtain⟨o,_⟩:=a;cases o<;>rfl
  |halt x w'=>rfl
 show(aY (9999+1) t _ _).run P w=_;grind[run_equalIn_agg]
def PY:List TypeDesc->List A->List A->Option Bool
 |[],[],[]=>aa ab
 |.int _::ds,.c (.int k a)::cs,.c (.int k' b)::es=>match Ht k k' with
  |true=>match PY ds cs es with
   |some r=>aa ((a==b)&&r)
   |none=>ae
  |false=>ae
 |.string::ds,.c (.str a)::cs,.c (.str b)::es=>match PY ds cs es with
  |some r=>aa ((a==b)&&r)
  |none=>ae
 |.bool::ds,.c (.bool a)::cs,.c (.bool b)::es=>match PY ds cs es with
  |some r=>aa ((a==b)&&r)
  |none=>ae
 |_,_,_=>ae
def Eb{σ:List aP}{s:St}:∀{ds:List TypeDesc}{cs es:List A}{b:Bool}{vs ws:List ah},PY ds cs es=aa b->dX σ s vs cs->dX σ s ws es->jR ds vs ws=aa b:=by
 intro ds;induction ds with
 |nil =>
  intro cs es b vs ws h c e;cases cs<;>cases es<;>simp only[PY,reduceCtorEq]at h
  cases vs<;>cases ws<;>first|exact c.elim|exact e.elim|(simpa[jR]using h)
 |cons d ds ih =>
  intro cs es b vs ws h c e;unfold PY at h;split at h
  .grind
  .rename_i m i k a f k' b' es' heq;cases heq;split at h
   .rename_i hk;cases Ab hk;split at h
    .rename_i r j;cases h;cases vs with
     |nil=>exact c.elim
     |cons v vs=>cases ws with
      |nil=>exact e.elim
      |cons w ws =>
       obtain⟨v1,l⟩:=c;obtain⟨w1,w2⟩:=e;cases(show Rd s.M v (.int k a)from v1);cases(show Rd s.M w (.int k b')from w1);simp[jR,rm,ih j l w2]
    grind
   grind
  .rename_i i a f b' es' heq;cases heq;split at h
   .rename_i r j;cases h;cases vs with
    |nil=>exact c.elim
    |cons v vs=>cases ws with
     |nil=>exact e.elim
     |cons w ws =>
      obtain⟨v1,l⟩:=c;obtain⟨w1,w2⟩:=e;cases(show Rd s.M v (.str a)from v1)with
      |str hx _ =>
      cases(show Rd s.M w (.str b')from w1)with
      |str hy _ =>
      simp only[jR,rm,ih j l w2];grind[ByteArray.toList_eq]
   grind
  .rename_i i a f b' es' heq;cases heq;split at h
   .rename_i r j;cases h;cases vs with
    |nil=>exact c.elim
    |cons v vs=>cases ws with
     |nil=>exact e.elim
     |cons w ws =>
      obtain⟨v1,l⟩:=c;obtain⟨w1,w2⟩:=e;cases(show Rd s.M v (.bool a)from v1);cases(show Rd s.M w (.bool b')from w1);simp[jR,rm,ih j l w2]
   grind
  grind
section
variable {P:ar}{T:List (Nat×TI)}{o:au}{g:ak->D}{σ:List aP}
def jb:BinOp->Bool->Option Bool
 |.eql,b=>aa b
 |.neq,b=>aa (!b)
 |_,_=>ae
def um{op:BinOp}{t:aj}{x y:ah}{w:aA}{b c:Bool}(d:match x,y with|.agg _,.agg _=>True|.bool _,.bool _=>True|_,_=>False)(a:(Op.equal t x y).run P w=.ok b w)(h:jb op b=aa c):
  (binOp op t x y).run P w=.ok (.bool c) w:=by
 cases op<;>simp only[jb,reduceCtorEq,dn]at h
 .subst h;cases x<;>cases y<;>simp only at d<;>simp[binOp,a]
 .subst h;cases x<;>cases y<;>simp only at d<;>simp[binOp,a]
def px{op:BinOp}{t:aj}{x y:ah}{w:aA}{b c:Bool}(d:match x,y with|.agg _,.agg _=>True|.bool _,.bool _=>True|_,_=>False)(e:(Op.equal t x y).run P w=.ok b w)(a:∀es,(Op.equal t x y).events P w es=es)(h:jb op b=aa c)(es:Array Event):
  (binOp op t x y).events P w es=es:=by cases op<;>simp only[jb,reduceCtorEq,dn]at h<;>(cases x<;>cases y<;>simp only at d<;>simp[binOp,a])
def wV(op:BinOp)(t:aj)(x y:ak)(xs ys:Array ah)(w:aA)(a:P.eqGuardType P.depth t=af)(es:Array Event):(eqGuard op t x y (.agg xs) (.agg ys)).events P w es=es:=by cases op<;>simp[eqGuard,a]
theorem bF.structEq(hT:cO P T){op:BinOp}{t ty:aj}{x y:ak}(h:o.op=.binOp op t x y ty){i:TI}(hi:bD T t=aa i)(n:i.eq≠[]){cs es:List A}{b c:Bool}(v:g x=.e (.agg cs))(u:g y=.e (.agg es))(l:PY i.eq cs es=aa b)(r:jb op b=aa c):bF P o g σ (.e (.one (.c (.bool c)))) σ:=by refine .quiet λs z hh hr=>?_;have h1:=hr x;have h2:=hr y;rw[v]at h1;rw[u]at h2;obtain⟨vs,p,f⟩:=h1;obtain⟨k,q,j⟩:=h2;obtain⟨m,heq⟩:=(hT t i hi).eqs n;have a:=um (x:=.agg vs.toArray) (y:=.agg k.toArray) ay (heq s.w vs k b (Eb l f j)).1 r;have d:=px (x:=.agg vs.toArray) (y:=.agg k.toArray) ay (heq s.w vs k b (Eb l f j)).1 (heq s.w vs k b (Eb l f j)).2 r;refine⟨.bool c,?_,Rd.bool,by simp only[aw,h,p,q,aM,run_eqGuard_agg s.w op t x y _ _ m,wV op t x y _ _ s.w m,aO,bL,bU,a,d,Sem.events_pure]⟩;simp only[aw,h,p,q,bL,run_eqGuard_agg s.w op t x y _ _ m,bU,a,dq]
theorem bF.Rl(hT:cO P T){op:BinOp}{t ty:aj}{x y:ak}(h:o.op=.binOp op t x y ty){i:TI}(hi:bD T t=aa i)(q:i.desc=.bool){a b c:Bool}(u:g x=.e (.one (.c (.bool a))))(r:g y=.e (.one (.c (.bool b))))(p:jb op (a==b)=aa c):bF P o g σ (.e (.one (.c (.bool c)))) σ:=by
 refine .quiet λs n hh hr=>?_;have h1:=hr x;have h2:=hr y;rw[u]at h1;rw[r]at h2;replace h1:=eT h1;replace h2:=eT h2;generalize j:n x=vx at h1;generalize k:n y=vy at h2;cases h1;cases h2;have m:P.underlying t=aa .bool:=by rw[(hT t i hi).TE,q]
 have d:=um (P:=P) (w:=s.w) (x:=.bool a) (y:=.bool b) ay (run_equal_bool s.w t a b m) p;have l:∀es,(Op.equal t (.bool a) (.bool b)).events P s.w es=es:=λes=>by show(aY (9999+1) t _ _).events P s.w es=es;unfold aY;simp[underlying,m]
 have f:=px (P:=P) (w:=s.w) (x:=.bool a) (y:=.bool b) ay (run_equal_bool s.w t a b m) l p;refine⟨.bool c,?_,Rd.bool,by simp only[aw,h,j,k,aM,eqGuard_at_bool,Sem.events_pure,dq,aO,bL,bU,d,f]⟩;simp only[aw,h,j,k,bL,eqGuard_at_bool,dq,bU,d]
def bF.Uz{t ty:aj}{x y:ak}(h:o.op=.binOp .xor t x y ty){a b:Int}(q:g x=.e (.one (.c (.int .i64 a))))(n:g y=.e (.one (.c (.int .i64 b))))(r:0<=a)(h1:0<=b):
  bF P o g σ (.e (.one (.c (.int .i64 ((a.toNat ^^^ b.toNat:Nat):Int))))) σ:=by
 refine .quiet λs m hh hr=>?_;have e1:=hr x;have e2:=hr y;rw[q]at e1;rw[n]at e2;replace e1:=eT e1;replace e2:=eT e2;generalize f:m x=vx at e1;generalize i:m y=vy at e2;cases e1 with|int ha =>
 cases e2 with|int hb =>
 have p:a.toNat ^^^ b.toNat<2 ^ 63:=by apply Nat.xor_lt_two_pow<;>simp only[bA]at ha hb<;>omega
 have k:bA .i64 ((a.toNat ^^^ b.toNat:Nat):Int):=by simp only[bA];omega
 refine⟨.int .i64 ((a.toNat ^^^ b.toNat:Nat):Int),?_,.int k,?_⟩
 rotate_left
 .simp only[aw,h,f,i,aM,gN,jH,aO,Go.binOp,dr,fa,b7,Op.intBits,bL,bU,dq,Sem.events_pure]
 have d:((BitVec.ofInt 64 a) ^^^ (BitVec.ofInt 64 b)).toNat=a.toNat ^^^ b.toNat:=by rw[BitVec.toNat_xor,BitVec.toNat_ofInt,BitVec.toNat_ofInt];simp only[bA]at ha hb;congr 1<;>omega
 have j:(BitVec.ofInt IntKind.i64.bits a ^^^ BitVec.ofInt IntKind.i64.bits b).toNat=a.toNat ^^^ b.toNat:=d;have l:(Go.binOp .xor t (.int .i64 a) (.int .i64 b)).run P s.w=.ok (.int .i64 ((a.toNat ^^^ b.toNat:Nat):Int)) s.w:=by simp only[Go.binOp,dr,fa,b7,Op.intBits,dq];grind[mv]
 simp only[aw,h,f,i,bL,gN,bU,l,dq]
def bF.Hg(hT:cO P T){l dst:aj}{x:ak}(h:o.op=.convert l dst x){i i2 ie:TI}{E:aj}(hi:bD T l=aa i)(B:bD T dst=aa i2)(N:i.desc=.slice E)(z:i2.desc=.string)(O:bD T E=aa ie)(A:ie.desc=.int .u8){tt:Bool}{n:Nat}{es:Nat->List C}{r:List UInt8}(R:∀s v,dk σ s v (g x)->Rd s.M v (.sl tt 1 n es))(U:wy es 0 n=aa r):bF P o g σ (.e (.one (.c (.str r)))) σ:=by
 refine .og λs W hh hr=>?_;have h1:=R s _ (hr x);obtain⟨vs,L,b⟩:=dY (P:=P) hh h1;obtain⟨a,cap,Q,q,J,S,_⟩:=h1.flat;have K:n<=9223372036854775807:=by omega
 have H:vs.length=n:=by rw[L.len];omega
 obtain⟨xs,e1,e2⟩:=yE (M:=s.M) (vs:=vs) U H (λj hj c X=>by
  obtain⟨v,V,p2⟩:=L.rd j hj 0 c (by grind)
  grind)
 have G:=(hT l i hi).run_underlying (w:=s.w);have m:=(hT dst i2 B).run_underlying (w:=s.w);have k:=(hT E ie O).run_underlying (w:=s.w);rw[N]at G;rw[z]at m;rw[A]at k;have I:r.length<=9223372036854775807:=by grind
 have f:∃y:ByteArray,(Conv.bytesToString (.slice a n cap)).run P s.w=.ok (.string y) s.w/\y.data.toList=r:=by
  cases a with
  |none =>
   have p:r=[]:=by
    have:vs=[]:=by rw[q]at b;have h2:=b.1;simp[Builtin.firstCells]at h2;grind
    grind
   exact⟨ByteArray.empty,by simp[Conv.bytesToString],by rw[p];rfl⟩
  |some ad =>
   rw[q]at b;have h2:=b.1;simp only[Builtin.firstCells,Nat.mul_one]at h2;refine⟨⟨#[]++(xs.map λx=>UInt8.ofNat x.toNat).toArray⟩,?_,by grind⟩;simp only[Conv.bytesToString,bL,h2,bU,e1];rw[List.forIn_toArray,oI (P:=P) s.w (λ_ _=>rfl) xs ByteArray.empty];rfl
 obtain⟨y,t,F⟩:=f;refine⟨.string y,?_,Rd.str F I,?_⟩
 rotate_left
 .intro e d;simp only[aw,h,q,aM,convert,G,m,aO,bU,k,t,bL,events_underlying,Sem.events_pure]at d;cases a with
  |none=>simp[Conv.bytesToString]at d
  |some ad =>
   have u:=g8 (P:=P) hh (h1.Dx (λ_ _=>rfl)) (w:=s.w) rfl;rw[q]at b u;have h2:=b.1;simp only[Builtin.firstCells,Nat.mul_one]at h2 u;unfold Conv.bytesToString at d;simp only at d;rw[aM,h2,aO,c7.bind (P:=P) ?_ λ_=>.pure]at d
   .grind [s9]
   .rw[List.forIn_toArray];refine c7.Jx (λx s=>?_) _ _;split
    .exact .pure
    .exact .bind .stuck λ_=>.pure
 simp only[aw,h,q,bL,convert,G,m,bU,k,t,dq]
end
def wz(g:ak->D):List ak->Option (List C)
 |[]=>aa []
 |x::r=>match g x with
  |.e (.one (.c c))=>match wz g r with
   |some q=>aa (c::q)
   |none=>ae
  |_=>ae
def wW{σ:List aP}{s:St}{a:ak->ah}{g:ak->D}(b:∀y,dk σ s (a y) (g y)):∀{xs:List ak}{cs:List C},wz g xs=aa cs->xs.length=cs.length/\∀(j:Nat)(c:C),cs[j]?=aa c->∃v,(xs.map a)[j]?=aa v/\Rd s.M v c
 |[],cs,h=>by cases h;grind
 |x::r,cs,h=>by
  simp only[wz]at h;split at h
  .rename_i c f;split at h
   .rename_i q e;cases h;obtain⟨k,l⟩:=wW b e;refine⟨by grind,λj i d=>?_⟩;cases j with
    |zero =>
     simp at d;subst d;have:=b x;rw[f]at this;exact⟨a x,by simp,eT this⟩
    |succ j=>grind
   grind
  grind
section
variable {P:ar}{T:List (Nat×TI)}{o:au}{g:ak->D}{σ:List aP}
theorem bF.makeFunc{fn:Fn}{a b:Array ak}(h:o.op=.makeFunc fn a b){f i:List C}(m:wz g a.toList=aa f)(k:wz g b.toList=aa i):bF P o g σ (.e (.one (.c (.fn fn f i)))) σ:=by
 refine .quiet λs d hh hr=>?_;obtain⟨a1,a2⟩:=wW hr m;obtain⟨p,q⟩:=wW hr k;have n:a.map d=(a.toList.map d).toArray:=by grind
 have l:b.map d=(b.toList.map d).toArray:=by grind
 refine⟨.func fn (a.toList.map d).toArray (b.toList.map d).toArray,?_,?_,by simp only[aw,h,Instr.makeFunc];rfl⟩
 .simp only[aw,h,Instr.makeFunc,n,l];rfl
 .refine Rd.fn _ _ (by grind) (by grind) (λj=>((a.toList.map d)[j]?).getD ai) (λj=>((b.toList.map d)[j]?).getD ai) ?_ ?_ ?_ ?_
  .grind
  .grind
  .grind
  grind
def ph:TypeDesc->Bool
 |.interface _=>ab
 |_=>af
def vn(t:aj):D->Option C
 |.e (.one (.c c))=>aa (.ifs t c)
 |.e (.agg cs)=>match gC cs with
  |some q=>aa (.FH t q)
  |none=>ae
 |_=>ae
def Ec{s:St}{v:ah}{t:aj}{d:D}{c:C}(h:vn t d=aa c)(r:dk σ s v d):Rd s.M (.iface t v) c:=by
 unfold vn at h;split at h
 .cases h;exact Rd.ifs (eT r) (eT r).cell
 .split at h
  .rename_i q f;cases h;obtain⟨vs,rfl,e⟩:=r;have b:=lQ f e;refine Rd.FH (by have:=b.length;grind) (λj=>(vs[j]?).getD ai) (λj l=>by grind) λj c l=>?_;obtain⟨v,i,k⟩:=b.get (j:=j) (a:=.c c) (by grind);rw[i];exact k
  grind
 grind
theorem bF.makeInterface(hT:cO P T){t:aj}{x:ak}(h:o.op=.makeInterface t x){i:TI}(hi:bD T t=aa i)(b:ph i.desc=af){c:C}(j:vn t (g x)=aa c):bF P o g σ (.e (.one (.c c))) σ:=by
 refine .quiet λs f hh hr=>?_;have d:=(hT t i hi).run_underlying (w:=s.w);refine⟨.iface t (f x),?_,Ec j (hr x),?_⟩
 rotate_left
 .simp only[aw,h,Instr.makeInterface,aM,bL,d,aO,bU,events_underlying];cases a:i.desc<;>rw[a]at b<;>first|(cases b;done)|simp
 simp only[aw,h,Instr.makeInterface,bL,d,bU];cases a:i.desc<;>rw[a]at b<;>first|(cases b;done)|simp
def yF(i:TI):Option E1:=match i.agg with
 |true=>aa (.agg (i.zero.map A.c))
 |false=>ae
def Kj{i:TI}{t:aj}(f:dy P t i){s:St}{e:E1}(b:yF i=aa e):∃z,(zeroValue t).run P s.w=.ok z s.w/\m8 σ s z e:=by
 obtain⟨z,k,a⟩:=f.B5 σ s;refine⟨z,k,?_⟩;obtain⟨n,h,l,r,q,j,u,⟨cs,d⟩,p⟩:=f.info;have c:h=z:=by
  have:(zeroValue t).run P s.w=.ok h s.w:=by simp[zeroValue,typeInfo,l,j]
  grind
 subst c;unfold yF at b;cases m:i.agg with
 |true =>
  rw[m]at b d;simp only[cj]at d;cases b;rw[d]at a⊢;exact⟨cs.toList,by simp,by simpa[Value.cells]using a⟩
 |false=>grind
def qh(t:aj)(i:TI):C->Option (E1×Bool)
 |.ifs t' c=>match aB t' t with
  |true=>aa (.one (.c c),ab)
  |false=>match yF i with
   |some e=>aa (e,af)
   |none=>ae
 |.FH t' cs=>match aB t' t with
  |true=>aa (.agg (cs.map A.c),ab)
  |false=>match yF i with
   |some e=>aa (e,af)
   |none=>ae
 |.iy=>match yF i with
  |some e=>aa (e,af)
  |none=>ae
 |_=>ae
theorem bF.typeAssert(hT:cO P T){x:ak}{E t:aj}(h:o.op=.typeAssert x E t ab){i:TI}(hi:bD T t=aa i)(H:ph i.desc=af){c:C}(K:g x=.e (.one (.c c))){e:E1}{b:Bool}(k:qh t i c=aa (e,b)):
  bF P o g σ (.eX [e,.one (.c (.bool b))]) σ:=by
 refine .quiet λs y hh hr=>?_;have h1:=hr x;rw[K]at h1;replace h1:=eT h1;generalize B:y x=vx at h1;have r:=(hT t i hi).run_underlying (w:=s.w);have key:∀(v:ah) (b:Bool),(Instr.typeAssert vx E t ab).run P s.w=.ok (.tuple #[v,.bool b]) s.w->m8 σ s v e->(Instr.typeAssert vx E t ab).events P s.w #[]=#[]->∃v,(aw y o).run P s.w=.ok (.value v) s.w/\dk σ s v (.eX [e,.one (.c (.bool b))])/\(aw y o).events P s.w #[]=#[]:=by intro v b h1 h2 h3;refine⟨.tuple #[v,.bool b],?_,⟨[v,.bool b],rfl,h2,Rd.bool,ay⟩,by simp only[aw,h,B,aM,h1,h3,aO,Sem.events_pure]⟩;simp only[aw,h,B,bL,h1,bU,dq]
 have fail:∀q,yF i=aa q->(∀z,(zeroValue t).run P s.w=.ok z s.w->(Instr.typeAssert vx E t ab).run P s.w=.ok (.tuple #[z,.bool af]) s.w/\(Instr.typeAssert vx E t ab).events P s.w #[]=#[])->e=q->b=af->∃v,(aw y o).run P s.w=.ok (.value v) s.w/\dk σ s v (.eX [e,.one (.c (.bool b))])/\(aw y o).events P s.w #[]=#[]:=by intro q n I F l;subst F l;obtain⟨z,h3,N⟩:=Kj (σ:=σ) (hT t i hi) (s:=s) n;grind
 have d:∀m,i.desc≠.interface m:=by intro m e;rw[e]at H;cases H
 cases h1 with
 |@ifs t' v c h2 hc =>
  simp only[qh]at k;cases l:aB t' t with
  |true =>
   rw[l]at k;cases k;have G:=bP l;subst G;refine key v ab ?_ h2 ?_<;>
   .unfold Instr.typeAssert;simp only[bL,r,bU,aM,aO,events_underlying];cases a:i.desc<;>first|(exact absurd a (d _))|simp
  |false =>
   rw[l]at k;have p:t'≠t:=λe=>by grind[Nat.beq_refl]
   simp only at k;split at k
   .rename_i q n;cases k;refine fail _ n (λz h3=>⟨?_,?_⟩) rfl rfl<;>
    .unfold Instr.typeAssert;simp only[bL,r,bU,aM,aO,events_underlying];cases a:i.desc<;>first|(exact absurd a (d _))|simp[p,h3]
   grind
 |@FH t' vs cs hl f O L =>
  simp only[qh]at k;cases l:aB t' t with
  |true =>
   rw[l]at k;cases k;have G:=bP l;subst G;refine key (.agg vs.toArray) ab ?_ ⟨vs,rfl,?_⟩ ?_
   rotate_left 2
   .unfold Instr.typeAssert;simp only[r,aM,aO,events_underlying];cases a:i.desc<;>first|(exact absurd a (d _))|simp
   .unfold Instr.typeAssert;simp only[bL,r,bU];cases a:i.desc<;>first|(exact absurd a (d _))|simp
   .have go:∀(vs:List ah) (cs:List C),vs.length=cs.length->(∀(j:Nat) (c:C),cs[j]?=aa c->∃v,vs[j]?=aa v/\Rd s.M v c)->dX σ s vs (cs.map A.c):=by
     intro vs;induction vs with
     |nil=>intro cs hl _;cases cs with|nil=>trivial|cons _ _=>grind
     |cons v vs ih =>
      intro cs hl hg;cases cs with
      |nil=>grind
      |cons c cs =>
       obtain⟨u,J,p2⟩:=hg 0 c rfl;simp at J;subst J;exact⟨p2,ih cs (by grind) (λj c hj=>by simpa using hg (j+1) c (by grind))⟩
    grind
  |false =>
   rw[l]at k;have p:t'≠t:=λe=>by grind[Nat.beq_refl]
   simp only at k;split at k
   .rename_i q n;cases k;refine fail _ n (λz h3=>⟨?_,?_⟩) rfl rfl<;>
    .unfold Instr.typeAssert;simp only[bL,r,bU,aM,aO,events_underlying];cases a:i.desc<;>first|(exact absurd a (d _))|simp[p,h3]
   grind
 |iy =>
  simp only[qh]at k;split at k
  .rename_i q n;cases k;refine fail _ n (λz h3=>⟨?_,?_⟩) rfl rfl<;>
   .unfold Instr.typeAssert;simp only[bL,r,bU,aM,aO,events_underlying];cases a:i.desc<;>first|(exact absurd a (d _))|simp[h3]
  grind
 |_=>simp[qh]at k
end
def OA{P:ar}(X:Cx P)(N:Nat)(all:List au)(o:au)(φ:Fr)(σ:List aP)(x:D)(σ':List aP):Prop :=
 ∀s a,cm N σ s φ a->aF σ s->∀(b:aR) (k:List Item) (cs:List aR) (S:av->St->Prop) (i:Nat) (rest:List Nat),b.kind≠.early->all.toArray[i]?=aa o ->
  (∀v s',dk σ' s' v x->aF σ' s'->cR σ s σ' s'->fz X S (G (b.aT (a.put o.dst v) (.inRegion all.toArray rest::k)) cs) s')->fz X S (G (b.aT a (.inRegion all.toArray (i::rest)::k)) cs) s
section
variable {P:ar}{X:Cx P}{N:Nat}{all rest:List au}{φ φ':Fr}{σ σ':List aP}{o:au}{x:D}
theorem OA.kQ(p:∀σ s a,cm N σ s φ a->bd o (yielded all.toArray a.tmps)=ab)(h:bF P o (bM φ) σ x σ'):OA X N all o φ σ x σ':=by
 intro s a f hh b k cs S i rest q hi hK;refine rh q hi (p _ _ _ f) λg c=>?_;have d:=hh.rely c;obtain⟨n,s',h1,h2,e,j,r⟩:=h g a.eval d (cY (f.rely c hh));have l:=c.stepW.trans (j.na d);have m:qS g s' ((aw a.eval o).events P g.w #[]):=⟨⟨σ,σ',d,e,j⟩,r⟩;cases n with
 |value v=>exact⟨_,s',v,h1,.inl rfl,m,hK v s' h2 e l⟩
 |skip=>simp only[RJ]at h2;subst h2;exact⟨_,s',ai,h1,.inr ⟨rfl,rfl⟩,m,hK ai s' ay e l⟩
 |_=>exact h2.elim
def OA.pass(e:∀σ s a,cm N σ s φ a->bd o (yielded all.toArray a.tmps)=af):OA X N all o φ σ (.eX []) σ:=by intro s a f hh b k cs S i rest g hi hK;exact .ctl hh rfl (λ_=>Nl hi (e _ _ _ f)) λd c=>hK ai d ⟨[],rfl,ay⟩ (hh.rely c) c.stepW
def ib.Aa{Q:Fr->List aP->Prop}(h:OA X N all o φ σ x σ')(d:∀t,o.dst=aa t->t<N)(k:ib X N all rest Q (km o.dst x φ) σ'):ib X N all (o::rest) Q φ σ:=by
 intro s a f hh b kk cs S idx hb jm hQ;cases idx with
 |nil=>exact jm.elim
 |cons i idx =>
 refine h s a f hh b kk cs S i idx hb jm.1 λv s' hv iY st=>k s' _ ?_ iY b kk cs S idx hb jm.2 λc σ2 s2 a2 q e h2 mg=>hQ c σ2 s2 a2 q e h2 (st.trans mg);cases g:o.dst with
 |none=>exact f.mono st hh.len
 |some t=>exact(f.mono st hh.len).put (d t g) hv
end
abbrev dt:=List D->List aP->Option (D×List aP×List Prop)
def yz:List (Nat×dt)->Nat->Option dt
 |[],_=>ae
 |(i,g)::r,f=>cond (aB i f) (aa g) (yz r f)
def ef{P:ar}(X:Cx P)(f:aJ)(g:dt):Prop:=∀args σ res σ' obs,g args σ=aa (res,σ',obs)->az obs->Ev X f args σ res σ'
def bE{P:ar}(X:Cx P)(CT:List (Nat×dt)):Prop:=∀f g,yz CT f=aa g->ef X f g
def bE.nil{P:ar}{X:Cx P}:bE X []:=λ_ _ h=>by cases h
def bE.cons{P:ar}{X:Cx P}{f:aJ}{g:dt}{CT:List (Nat×dt)}(h:ef X f g)(r:bE X CT):bE X ((f,g)::CT):=by
 intro a c h2;simp only[yz]at h2;cases b:aB f a with
 |true=>grind[Nat.eq_of_beq_eq_true]
 |false=>rw[b]at h2;exact r a c h2
def bxA:A->List Nat->List Nat
 |.ptr l _,ks=>cond (ia l ks) ks (ks++[l])
 |.vec l _ _ _,ks=>cond (ia l ks) ks (ks++[l])
 |.ref l,ks=>cond (ia l ks) ks (ks++[l])
 |.bp l _,ks=>cond (ia l ks) ks (ks++[l])
 |_,ks=>ks
def bxL:List A->List Nat->List Nat
 |[],ks=>ks
 |a::r,ks=>bxL r (bxA a ks)
def bxD:D->List Nat->List Nat
 |.e (.one a),ks=>bxA a ks
 |.e (.agg cs),ks=>bxL cs ks
 |_,ks=>ks
def UX:List D->List Nat->List Nat
 |[],ks=>ks
 |a::r,ks=>UX r (bxD a ks)
def BI(l:Nat):List Nat->Nat->Option Nat
 |[],_=>ae
 |k::r,i=>match aB k l with|true=>aa i|false=>BI l r (i+1)
def su{l:Nat}:∀{ks:List Nat}{i j:Nat},BI l ks i=aa j->i<=j/\ks[j-i]?=aa l
 |[],_,_,h=>by cases h
 |k::r,i,j,h=>by
  simp only[BI]at h;cases a:aB k l with
  |true=>rw[a]at h;cases h;exact⟨bh _,by grind[Nat.eq_of_beq_eq_true]⟩
  |false =>
   rw[a]at h;obtain⟨c,b⟩:=su h;grind
def TN(ks:List Nat):A->Option A
 |.ptr l o=>match BI l ks 0 with|some i=>aa (.ptr i o)|none=>ae
 |.ref l=>match BI l ks 0 with|some i=>aa (.ref i)|none=>ae
 |.bp l w=>match BI l ks 0 with|some i=>aa (.bp i w)|none=>ae
 |.vec _ _ _ _=>ae
 |.c x=>aa (.c x)
 |.any=>aa .any
def Xh(ks:List Nat):List A->Option (List A)
 |[]=>aa []
 |a::r=>match TN ks a with
  |some b=>match Xh ks r with
   |some q=>aa (b::q)
   |none=>ae
  |none=>ae
def YB(ks:List Nat):D->Option D
 |.e (.one a)=>match TN ks a with|some b=>aa (.e (.one b))|none=>ae
 |.e (.agg cs)=>match Xh ks cs with|some b=>aa (.e (.agg b))|none=>ae
 |.eX _=>ae
 |.any=>aa .any
def Hu(ks:List Nat):List D->Option (List D)
 |[]=>aa []
 |a::r=>match YB ks a with
  |some b=>match Hu ks r with
   |some q=>aa (b::q)
   |none=>ae
  |none=>ae
def J8{ks:List Nat}{a b:A}(h:TN ks a=aa b):oN ks b=a/\Hc ks.length b=ab:=by
 cases a with
 |ptr l o =>
  simp only[TN]at h;split at h
  .rename_i i hi;cases h;obtain⟨_,d⟩:=su hi;simp only[lG]at d;have e:i<ks.length:=(bY.1 d).1;exact⟨by simp[oN,ff,d],rF e⟩
  grind
 |ref l =>
  simp only[TN]at h;split at h
  .rename_i i hi;cases h;obtain⟨_,d⟩:=su hi;simp only[lG]at d;have e:i<ks.length:=(bY.1 d).1;exact⟨by simp[oN,ff,d],rF e⟩
  grind
 |bp l w =>
  simp only[TN]at h;split at h
  .rename_i i hi;cases h;obtain⟨_,d⟩:=su hi;simp only[lG]at d;have e:i<ks.length:=(bY.1 d).1;exact⟨by simp[oN,ff,d],rF e⟩
  grind
 |vec l k n es=>cases h
 |c x=>cases h;exact⟨rfl,rfl⟩
 |any=>cases h;exact⟨rfl,rfl⟩
def J9{ks:List Nat}:∀{a b:List A},Xh ks a=aa b->By ks b=a/\FD ks.length b=ab
 |[],b,h=>by cases h;exact⟨rfl,rfl⟩
 |a::r,b,h=>by
  simp only[Xh]at h;split at h
  .rename_i x i;split at h
   .rename_i q e;cases h;obtain⟨g,f⟩:=J8 i;obtain⟨c,d⟩:=J9 e;exact⟨by simp[By,g,c],by simp[FD,f,d]⟩
   grind
  grind
def RK{ks:List Nat}{a b:D}(h:YB ks a=aa b):hZ ks b=a/\vS ks.length b=ab:=by
 unfold YB at h;split at h
 .rename_i a;split at h
  .rename_i x c;cases h;obtain⟨e,d⟩:=J8 c;exact⟨by simp[hZ,zD,e],by simp[vS,Hd,d]⟩
  grind
 .rename_i cs;split at h
  .rename_i x c;cases h;obtain⟨e,d⟩:=J9 c;exact⟨by simp[hZ,zD,e],by simp[vS,Hd,d]⟩
  grind
 .cases h
 .cases h;exact⟨rfl,rfl⟩
def F2{ks:List Nat}:∀{a b:List D},Hu ks a=aa b->fI ks b=a/\ll ks.length b=ab
 |[],b,h=>by cases h;exact⟨rfl,rfl⟩
 |a::r,b,h=>by
  simp only[Hu]at h;split at h
  .rename_i x i;split at h
   .rename_i q e;cases h;obtain⟨g,f⟩:=RK i;obtain⟨c,d⟩:=F2 e;exact⟨by simp[fI,g,c],by simp[ll,f,d]⟩
   grind
  grind
def JA(CT:List (Nat×dt))(φ:Fr)(σ:List aP)(a:ak)(xs:List ak):Option (D×List aP×List Prop) :=
 match eG (bM φ a)with
 |none=>ae
 |some (f,cap)=>match yz CT f with
  |none=>ae
  |some g =>
   let args:=mx (xs.map (bM φ)++fJ cap);let ks:=UX args []
   match Hu ks args with
   |none=>ae
   |some Ka=>match jK ks σ with
    |none=>ae
    |some σs=>match g Ka σs with
     |none=>ae
     |some (res,σ1,obs)=>match cq σs,cq σ1,dx ks,bu ks.length σ1.length with
      |true,ab,ab,ab=>aa (hZ (ks++kL σ.length (σ1.length-ks.length)) res,dH ks σ1 σ,obs)
      |_,_,_,_=>ae
theorem OA.Qd{P:ar}{X:Cx P}{N:Nat}{all:List au}{φ:Fr}{σ:List aP}{o:au}{CT:List (Nat×dt)}(hC:bE X CT){z:ak}{xs:Array ak}{J:Array aj}(Q:∀σ s a,cm N σ s φ a->bd o (yielded all.toArray a.tmps)=ab)(M:o.op=.call {callee:=.value z,args:=xs,argTypes:=J}){f:aJ}{cap:List C}(A:eG (bM φ z)=aa (f,cap)){g:dt}(I:yz CT f=aa g){ks:List Nat}{d:List D}{m σ1:List aP}{res:D}{obs:List Prop}(K:Hu ks (mx (xs.toList.map (bM φ)++fJ cap))=aa d)(G:jK ks σ=aa m)(r:g d m=aa (res,σ1,obs))(T:cq m=ab)(H:cq σ1=ab)(O:dx ks=ab)(E:ks.length<=σ1.length)(u:az obs):OA X N all o φ σ (hZ (ks++kL σ.length (σ1.length-ks.length)) res) (dH ks σ1 σ):=by
 obtain⟨l,B⟩:=F2 K;intro s a n hh b kk cs S i rest R hi hK;have t:=hC f g I _ _ _ _ _ r u;have v:=cY n z;unfold eG at A;split at A
 case h_2=>cases A
 case h_1 f' Nk he =>
  cases A;rw[he]at v;have h:=eT v;generalize L:a.eval z=fv at h;cases h with
  |fn fs nb hl Dq f1 f2 h1 h2 r1 r2 =>
   have F:fs=[]:=jg hl;subst F;have p:cg σ s nb (fJ cap):=nk (λj c hj=>⟨f2 j,h2 j (by grind),r2 j c hj⟩) Dq;have y:cg σ s (xs.toList.map a.eval++nb) (fI ks d):=by rw[l];exact pb ((lJ (cY n) xs.toList).append p)
   obtain⟨fn,q,k,e⟩:=t.1;exact Ji R hi (Q _ _ _ n) hh (λw=>(ju M q k e L w).1) (λw=>(ju M q k e L w).2) t y B G T H O E hK
theorem OA.call{P:ar}{X:Cx P}{N:Nat}{all:List au}{φ:Fr}{σ σ':List aP}{o:au}{CT:List (Nat×dt)}(hC:bE X CT){d:ak}{xs:Array ak}{c:Array aj}{x:D}{obs:List Prop}(i:∀σ s a,cm N σ s φ a->bd o (yielded all.toArray a.tmps)=ab)(j:o.op=.call {callee:=.value d,args:=xs,argTypes:=c})(b:JA CT φ σ d xs.toList=aa (x,σ',obs))(e:az obs):OA X N all o φ σ x σ':=by
 unfold JA at b;split at b
 .cases b
 rename_i f cap hf;split at b
 .cases b
 rename_i g h;simp only at b;split at b
 .cases b
 grind[OA.Qd,Nat.le_of_ble_eq_true]
def BW{d:D}(h:vS 0 d=ab):hZ [] d=d:=by
 have g:∀{a:A},Hc 0 a=ab->oN [] a=a:=by intro a b;cases a<;>simp only[Hc]at b<;>first|rfl|(simp at b)
 have j:∀{l:List A},FD 0 l=ab->By [] l=l:=by
  intro l;induction l with
  |nil=>intro _;rfl
  |cons a r f =>
   intro h;simp only[FD]at h;cases b:Hc 0 a with
   |false=>grind
   |true=>simp only[b]at h;simp[By,g b,f h]
 have i:∀{a:E1},Hd 0 a=ab->zD [] a=a:=by
  intro a b;cases a with
  |one a=>simp[zD,g b]
  |agg cs=>simp[zD,j b]
 have c:∀{l:List E1},x5 0 l=ab->yt [] l=l:=by
  intro l;induction l with
  |nil=>intro _;rfl
  |cons a r f =>
   intro h;simp only[x5]at h;cases b:Hd 0 a with
   |false=>grind
   |true=>simp only[b]at h;simp[yt,i b,f h]
 cases d with
 |e x=>simp[hZ,i h]
 |eX xs=>simp[hZ,c h]
 |any=>rfl
def BG(CT:List (Nat×dt))(φ:Fr)(a:ak)(xs:List ak):Option (D×List Prop) :=
 match eG (bM φ a)with
 |none=>ae
 |some (f,cap)=>match yz CT f with
  |none=>ae
  |some g=>match Hu [] (mx (xs.map (bM φ)++fJ cap))with
   |none=>ae
   |some Ka=>match g Ka []with
    |some (res,[],obs)=>match vS 0 res with
     |true=>aa (res,obs)
     |false=>ae
    |_=>ae
theorem OA.BG{P:ar}{X:Cx P}{N:Nat}{all:List au}{φ:Fr}{σ:List aP}{o:au}{CT:List (Nat×dt)}(hC:bE X CT){k:ak}{xs:Array ak}{h:Array aj}{x:D}{obs:List Prop}(l:∀σ s a,cm N σ s φ a->bd o (yielded all.toArray a.tmps)=ab)(m:o.op=.call {callee:=.value k,args:=xs,argTypes:=h})(b:AM.BG CT φ k xs.toList=aa (x,obs))(c:az obs):OA X N all o φ σ x σ:=by
 unfold AM.BG at b;split at b
 .cases b
 rename_i f cap hf;split at b
 .cases b
 rename_i g e;split at b
 .cases b
 rename_i j i;split at b
 case h_2=>cases b
 rename_i res adb YC;split at b
 case h_2=>cases b
 rename_i d;cases b;have:=OA.Qd (σ:=σ) hC l m hf e i rfl YC rfl rfl rfl (bh _) c;simpa[kL,BW d,dH]using this
def pj(i:Nat)(ci:List C)(es:Nat->List C):Nat->List C:=λj=>if j=i then ci else es j
def tj(lo hi:Nat)(z:List C)(es:Nat->List C):Nat->List C:=λj=>if lo<=j/\j<hi then z else es j
section
variable {P:ar}{T:List (Nat×TI)}{o:au}{B:ak->D}{σ:List aP}{s:St}{l g:Nat}{E:aj}{k n:Nat}{es:Nat->List C}
def Ku(A:aF σ s)(e:σ[l]?=aa (.buf E k n es)){k' i f:Nat}{v:ah}(j:gn σ s v (.bp l (.el g k' i f)))(p:g=n):
  ∃b c vs zs,s.β[l]?=aa ⟨.slice (aa ⟨b,0,ae⟩) 0 c,[b]⟩/\v=.pointer (aa ⟨b,i*k'+f,ae⟩)/\s.w.heap[b]?=aa (.cells (vs++zs).toArray E (0,0))/\(vs++zs).length=c*k/\n<=c/\c<=9223372036854775807/\Flat s.M k n es vs/\∀o,s.M b o=ae:=by
 obtain⟨G,⟨b,c,d,y⟩,_,x⟩:=j;obtain⟨L,h,a⟩:=(x _ _ _ _ e).2 p;rw[d]at a;rcases A.box l _ L e h with⟨_,rfl⟩|⟨F,c1,vs,zs,rfl,r,t,q,u,m,z⟩
 .cases a
 .cases a;exact⟨b,c,vs,zs,h,y,r,t,q,u,m,z⟩
def Ee{g:Nat->ah}:∀{ds:List C}{m:Nat},(∀j c,ds[j]?=aa c->Rd s.M (g (m+j)) c)->dX σ s ((bg ds.length).map λj=>g (m+j)) (ds.map A.c)
 |[],m,_=>trivial
 |d::ds,m,h=>by rw[eU,uZ];refine⟨h 0 d rfl,?_⟩;have:=Ee (ds:=ds) (m:=m+1) (λj c a=>by have:=h (j+1) c (by grind);rwa [show m+1+j=m+(j+1) by omega]);grind[Function.comp_def]
theorem bF.XV(hT:cO P T){t:aj}{x y:ak}(h:o.op=.indexAddr t x y){i p:TI}{E:aj}(hi:bD T t=aa i)(J:i.desc=.slice E)(K:bD T E=aa p){q m:Nat}{j:Int}{kk:IntKind}(M:B x=.e (.one (.bp l (.sl g p.size q m))))(R:B y=.e (.one (.c (.int kk j))))(U:0<=j)(h1:j<m):bF P o B σ (.e (.one (.bp l (.el g p.size (q+j.toNat) 0)))) σ:=by
 refine .quiet λs H hh hr=>?_;have f:=hr x;rw[M]at f;have h2:=hr y;rw[R]at h2;replace h2:=eT h2;generalize z:H y=vy at h2;cases h2;have d:=f;change gn σ s (H x) (.bp l _)at d;obtain⟨lv,⟨a,a0,cap,S,N,O,Q,L,v,A⟩,F,G⟩:=d;obtain⟨b,rfl,rfl⟩:=A (by omega);have I:=(hT t i hi).run_underlying (w:=s.w);rw[J]at I;obtain⟨r,rfl⟩:∃r:Nat,j=r:=⟨j.toNat,by omega⟩
 have u:r<m:=by omega
 refine⟨.pointer (aa ⟨b,(q+r)*p.size,ae⟩),?_,⟨lv,⟨b,S,v,by simp⟩,F,G⟩,?_⟩<;>
 simp[aw,h,N,z,Instr.indexAt,asIntOf,I,(hT E p K).run_sizeOf,dm,u,iu]
def bF.Rn(hT:cO P T){t:aj}{x:ak}{f:Nat}(h:o.op=.fieldAddr t x f){m i q off:Nat}{j:TI}(y:B x=.e (.one (.bp l (.el g m i q))))(u:jM T t f=aa (off,j)):bF P o B σ (.e (.one (.bp l (.el g m i (q+off))))) σ:=by refine .quiet λs v hh hr=>?_;have h1:=hr x;rw[y]at h1;have a:=h1;change gn σ s (v x) (.bp l _)at a;obtain⟨lv,⟨b,w,c,r⟩,d,p⟩:=a;exact⟨.pointer (aa ⟨b,i*m+q+off,ae⟩),by simp[aw,h,r,mG hT u],⟨lv,⟨b,w,c,by grind⟩,d,p⟩,by simp[aw,h,r,ow hT u]⟩
theorem bF.XW{x:ak}(h:o.op=.nilCheck x){j i q:Nat}(t:B x=.e (.one (.bp l (.el g j i q)))):bF P o B σ (.e (.one (.bp l (.el g j i q)))) σ:=by refine .quiet λs f hh hr=>?_;have h1:=hr x;rw[t]at h1;have c:=h1;have a:=h1;change gn σ s (f x) (.bp l _)at a;obtain⟨lv,⟨b,u,m,d⟩,p,r⟩:=a;exact⟨f x,by simp[aw,h,d],c,by simp[aw,h,d]⟩
theorem bF.XX(hT:cO P T){x:ak}{d:Array aj}{t:aj}(h:o.op=.call {callee:=.builtin .len,args:=#[x],argTypes:=d})(J:d[0]?=aa t){i:TI}{E:aj}(hi:bD T t=aa i)(u:i.desc=.slice E){F q m:Nat}(I:B x=.e (.one (.bp l (.sl g F q m)))):bF P o B σ (.e (.one (.c (.int .i64 m)))) σ:=by
 refine .quiet λs v hh hr=>?_;have h1:=hr x;rw[I]at h1;have b:=h1;change gn σ s (v x) (.bp l _)at b;obtain⟨lv,⟨a,a0,cap,K,j,p,r,G,y,z⟩,A,H⟩:=b;have f:=(hT t i hi).run_underlying (w:=s.w);rw[u]at f;refine⟨.int .i64 m,?_,Rd.int (by simp only[bA];omega),?_⟩<;>
 simp[aw,h,resolve,invoke,builtin,Builtin.len_,j,f,goInt,J]
theorem bF.sliceB(hT:cO P T){t:aj}{x:ak}{lo hi:Option ak}(h:o.op=.slice t x lo hi ae){i p:TI}{E:aj}(v:bD T t=aa i)(L:i.desc=.slice E)(M:bD T E=aa p){q m:Nat}{d u:Option Int}(N:B x=.e (.one (.bp l (.sl g p.size q m))))(hl:rf B lo=aa d)(J:rf B hi=aa u)(H:az (fM m d u)):bF P o B σ (.e (.one (.bp l (.sl g p.size (q+dc 0 d) (dc m u-dc 0 d))))) σ:=by
 refine .quiet λst ρ hh hr=>?_;have h1:=hr x;rw[N]at h1;have f:=h1;change gn σ st (ρ x) (.bp l _)at f;obtain⟨lv,⟨a,a0,cap,R,G,j,Q,r,y,z⟩,A,F⟩:=f;obtain⟨I,O,S⟩:=lX (P:=P) (isS:=ab) j (gu hr hl) (gu hr J) H st.w;have c:=(hT t i v).run_underlying (w:=st.w);rw[L]at c;refine⟨.slice (if cap=dc 0 d then a else a.map (·.add (dc 0 d*p.size))) (dc m u-dc 0 d) (cap-dc 0 d),?_,⟨lv,⟨_,a0,_,R,rfl,by omega,by omega,r,y,λK=>?_⟩,A,F⟩,by simp[aw,h,G,Instr.sliceAt,c,Instr.slice,I,nh (P:=P) (isS:=ab) j (gu hr hl) (gu hr J) H st.w]⟩
 .simp[aw,h,G,Instr.sliceAt,c,Instr.slice,I,(hT E p M).run_sizeOf]
 .obtain⟨b,rfl,rfl⟩:=z (by omega);refine⟨b,rfl,?_⟩;rw[aZ (by omega)];simp[dm,iu]
def bF.UA(hT:cO P T){t:aj}{x:ak}(h:o.op=.load t x){i f:Nat}{z:TI}{e:E1}(O:B x=.e (.one (.bp l (.el g k i f))))(F:g=n)(hl:σ[l]?=aa (.buf E k n es))(hi:bD T t=aa z)(K:kN z ((fK f (es i)).map A.c)=aa e)(p:i<n):bF P o B σ (.e e) σ:=by
 refine .og λs Q hh hr=>?_;have h1:=hr x;rw[O]at h1;obtain⟨b,X,vs,W,N,I,d,U,S,R,L,V⟩:=Ku hh hl h1 F;have Y:=L.width i p;let g:Nat->ah:=λj=>vs.getD (i*k+j) ai;have F:∀j c,(fK f (es i))[j]?=aa c->vs[i*k+(f+j)]?=aa (g (f+j))/\Rd s.M (g (f+j)) c:=by intro j c hj;rw[l5,oX]at hj;obtain⟨v,v1,Z⟩:=L.rd i p (f+j) c hj;grind
 have G:=Ee (σ:=σ) (s:=s) (g:=g) (ds:=fK f (es i)) (m:=f) (λj c hj=>(F j c hj).2);have a:∀(j:Nat) (v:ah),((bg (fK f (es i)).length).map λj=>g (f+j))[j]?=aa v->s.w.cell? ⟨b,i*k+f+j,ae⟩=aa v:=by
  intro j v hj;simp only[mV]at hj;by_cases y:j<(fK f (es i)).length
  .simp[y]at hj;subst hj;have h2:=(F j _ (br y)).1;simp only[aV,d];grind
  grind
 obtain⟨v,q,H⟩:=iB (s:=s) (σ:=σ) (P:=P) (hT t z hi) (b:=b) (off:=i*k+f) (e:=e) a G K;refine⟨v,by simp[aw,h,I,Instr.loadAt,bo,q],H,λJ u=>?_⟩;have r:J∈(loadVar t ⟨b,i*k+f,ae⟩).events P s.w #[]:=by
  have e:aw Q o=(do pure (.value (<-loadVar t ⟨b,i*k+f,ae⟩))):=by simp[aw,h,I,Instr.loadAt,bo]
  rw[e]at u;simpa[q]using u
 obtain⟨j,hj,rfl⟩:=ga (hT t z hi) (n:=(fK f (es i)).length) (λj hj=>⟨_,a j (g (f+j)) (by grind)⟩) (by have:=kO K;grind) J r;exact jI (bJ N) (by simp)
def Flat.put{M:Mem}{vs oM:List ah}{i f:Nat}{cc ci:List C}(h:Flat M k n es vs)(hi:i<n)(x:fi f cc (es i)=aa ci)(hl:oM.length=cc.length)(r:∀(j:Nat)(c:C),cc[j]?=aa c->∃v,oM[j]?=aa v/\Rd M v c):
  i*k+f+oM.length<=vs.length/\Flat M k n (pj i ci es) (vs.take (i*k+f)++oM++vs.drop (i*k+f+oM.length)):=by
 obtain⟨h1,h2⟩:=qm x;have F:=h.width i hi;have z:i*k+k<=n*k:=by have:=eC k (show i+1<=n by omega);grind
 have y:=h.len;have m:i*k+f+oM.length<=vs.length:=by omega
 have d:∀p,(vs.take (i*k+f)++oM++vs.drop (i*k+f+oM.length))[p]?=if p<i*k+f then vs[p]? else if p<i*k+f+oM.length then oM[p-(i*k+f)]? else vs[p]?:=by
  intro p;have A:(vs.take (i*k+f)).length=i*k+f:=by grind
  by_cases c1:p<i*k+f
  .grind
  .rw[aZ c1];by_cases c2:p<i*k+f+oM.length
   .grind
   .rw[aZ c2,fT (by grind),oX];grind
 refine⟨m,⟨by grind,λb a=>?_,λb a j c hj=>?_⟩⟩
 .simp only[pj];split
  .grind
  .exact h.width b a
 .simp only[pj]at hj;rw[d];split at hj
  .rename_i e;subst e;rw[h2]at hj;by_cases c1:j<f
   .rw[lS,jz (by grind),iN,bl c1]at hj;rw[bl (by omega)];exact h.rd b hi j c hj
   .by_cases c2:j<f+cc.length
    .rw[lS,fT (by grind),jz (by grind)]at hj;obtain⟨v,v1,w⟩:=r _ c hj;refine⟨v,?_,w⟩;rw[aZ (by omega),bl (by omega),<-v1];congr 1;grind
    .rw[fT (by grind),oX]at hj;rw[aZ (by omega),aZ (by omega)];refine h.rd b hi j c ?_;grind
  .rename_i e;have u:j<k:=by have:=(bY.1 hj).1;have:=h.width b a;omega
   rcases cC b i with q|t
   .have:(b+1)*k<=i*k:=eC k q;rw[iu,Nat.one_mul]at this;rw[bl (by omega)];exact h.rd b a j c hj
   .have:(i+1)*k<=b*k:=eC k (by omega);rw[iu,Nat.one_mul]at this;rw[aZ (by omega),aZ (by omega)];exact h.rd b a j c hj
def aF.dH(hh:aF σ s)(hl:σ[l]?=aa (.buf E k n es)){b:Nat}{vs zs vW:List ah}{e:Nat}(q:s.β[l]?=aa ⟨.slice (aa ⟨b,0,ae⟩) 0 e,[b]⟩)(z:(vs++zs).length=e*k)(m:n<=e)(j:e<=9223372036854775807){es':Nat->List C}(d:s.w.heap[b]?=aa (.cells (vs++zs).toArray E (0,0)))(y:Flat s.M k n es' vW)(A:vW.length=vs.length)(t:∀o,s.M b o=ae):
  aF (σ.set l (.buf E k n es')) {s with w:=s.w.setRow b (vW++zs).toArray}/\Step σ s (σ.set l (.buf E k n es')) {s with w:=s.w.setRow b (vW++zs).toArray}:=by
 have f:(s.w.setRow b (vW++zs).toArray).heap[b]?=aa (.cells (vW++zs).toArray E (0,0)):=setRow_heap s.w b _ _ E _ d;have i:∀a,a≠b->(s.w.setRow b (vW++zs).toArray).heap[a]?=s.w.heap[a]?:=λa c=>setRow_other s.w b a _ c;have p:s.β.set l ⟨.slice (aa ⟨b,0,ae⟩) 0 e,[b]⟩=s.β:=by apply iO;grind
 obtain⟨H,F⟩:=hh.gz (M':=s.M) (w':=s.w.setRow b (vW++zs).toArray) (B':=.buf E k n es') (L':=⟨.slice (aa ⟨b,0,ae⟩) 0 e,[b]⟩) hl q ⟨λ_=>rfl,bh _⟩ (by simp[World.setRow])
  (λa c G=>i a (by grind)) (λ_ _ _ _=>rfl) (λ_ _ _ h=>h) (λa u v r=>by
   have x:a≠b:=by grind
   have:=hh.mem a u v r;rw[<-this];simp only[aV]
   grind) (λa c=>⟨.inl c,by grind⟩) rfl rfl rfl
  (.inr ⟨b,e,vW,zs,rfl,f,by grind,m,j,y,t⟩)
 grind
def si{α:Type}:∀{new l:List α},new.length=l.length->fi 0 new l=aa new
 |[],[],_=>rfl
 |[],_::_,h=>by grind
 |_::_,[],h=>by grind
 |n::ns,c::cs,h=>by simp only[fi,si (new:=ns) (l:=cs) (by grind)]
def bF.JE(hT:cO P T){t:aj}{x y:ak}(h:o.op=.store t x y){i f:Nat}{z:TI}{new:List A}{cc ci:List C}(X:B x=.e (.one (.bp l (.el g k i f))))(hg:g=n)(hl:σ[l]?=aa (.buf E k n es))(hi:bD T t=aa z)(hy:kn (B y)=aa new)(Z:new.length=z.size)(K:gC new=aa cc)(L:(es i).length=k->fi f cc (es i)=aa ci)(p:i<n):
  bF P o B σ .any (σ.set l (.buf E k n (pj i ci es))):=by
 intro s c hh hr;have h1:=hr x;rw[X]at h1;obtain⟨b,c0,vs,G,R,S,a,Q,O,M,W,U⟩:=Ku hh hl h1 hg;have m:=lO hy (hr y);have q:=lQ K m;have N:=dX.closed q;have H:(c y).cells.toList.length=cc.length:=by have:=q.length;grind
 replace L:=L (W.width i p);obtain⟨q1,q2⟩:=W.put p L H N;have J:(c y).cells.size=z.size:=by rw[<-Z,<-m.length,ji]
 obtain⟨t1,Y⟩:=hh.dH hl R Q O M a q2 (by grind) U;have I:=run_storeCells_at P b (i*k+f) E (c y).cells.toList 0 (vs++G).toArray s.w a (by grind) m.cell;have F:((vs++G).toArray.toList.take (i*k+f+0)++(c y).cells.toList++(vs++G).toArray.toList.drop (i*k+f+0+(c y).cells.toList.length))=vs.take (i*k+f)++(c y).cells.toList++vs.drop (i*k+f+(c y).cells.toList.length)++G:=by grind
 rw[F]at I;refine⟨.skip,_,?_,rfl,t1,Y,?_⟩
 .simp[aw,h,S,Instr.storeAt,bo,storeVar,(hT t z hi).run_sizeOf,J,I]
 .intro V d;have e:aw c o=(do storeVar t ⟨b,i*k+f,ae⟩ (c y);pure .skip):=by simp[aw,h,S,Instr.storeAt,bo]
  rw[e]at d;have u:V∈(storeCells ⟨b,i*k+f,ae⟩ (c y).cells.toList).events P s.w #[]:=by
   simp only[storeVar,aM,(hT t z hi).run_sizeOf,J,aO,events_sizeOf,dr,fa,b7,bL,bU,Sem.events_pure]at d;generalize(storeCells ⟨b,i*k+f,ae⟩ (c y).cells.toList).run P s.w=r at d;cases r with
   |ok v w'=>simpa using d
   |halt x w'=>simpa using d
  rcases dE (c y).cells.toList 0 (vs++G).toArray s.w #[] a (by grind) m.cell V u with IN|⟨j,_,_,rfl⟩
  .grind
  .exact jF (bJ R) (by simp) (U _)
end
section
variable {σ:List aP}
def aF.zw{s:St}(hh:aF σ s){b:Nat}{vs:List ah}(g:∀o,s.M b o=ae)(h:∀o v,vs[o]?=aa v->s.w.cell? ⟨b,o,ae⟩=aa v):
  aF (σ.map λ_=>.dead) {s with M:=λa o=>if a=b then vs[o]? else s.M a o}/\∀a o v,s.M a o=aa v->(if a=b then vs[o]? else s.M a o)=aa v:=by
 have c:=hh.lI;refine⟨⟨λa o v f=>?_,c.len,λl B L hB hL=>?_,c.eB,c.lt,c.own⟩,λa o v f=>?_⟩
 .by_cases e:a=b
  .grind
  .simp only[e,b7]at f;exact c.mem a o v f
 .have:=bJ hB;simp at this;rw[<-this.2];trivial
 grind
def eY.vK{s:St}{M':Mem}{b:Nat}{es:Array Event}(h:eY {s with M:=M'} es){L:Loc}(m:L∈s.β)(j:b∈L.bs)(k:∀c o v,s.M c o=aa v->M' c o=aa v)(i:∀c o v,M' c o=aa v->c=b∨s.M c o=aa v):eY s es:=by
 intro e f;have h1:=h e f;unfold od at h1⊢;split at h1
 .obtain⟨a1,a2,a3⟩:=h1;refine⟨a1,a2,?_⟩;rcases a3 with a3|⟨a3,a4⟩|⟨a3,v,a4⟩
  .grind
  .refine .inr (.inl ⟨a3,λg=>?_⟩);have:=a4 g;rename_i a _;cases l:s.M a.block a.off with
   |none=>rfl
   |some v=>grind
  grind
 all_goals exact h1
end
def IL(k:Nat)(f:Nat->Nat->ah):Nat->List C:=λi=>(bg k).map λj=>.val (f i j)
theorem pY{k:Nat}{f:Nat->Nat->ah}{i j:Nat}{c:C}(h:(IL k f i)[j]?=aa c):j<k/\c=.val (f i j):=by
 have a:j<k:=by have:=(bY.1 h).1;simpa[IL]using this
 simp[IL,a]at h;grind
def Dy{k:Nat}{f:Nat->Nat->ah}{i j:Nat}(h:j<k):(IL k f i)[j]?=aa (.val (f i j)):=by simp[IL,h]
def Rd.exact{M:Mem}{v:ah}{t:Bool}{k n:Nat}{es:Nat->List C}(h:Rd M v (.sl t k n es)):
  ∃f:Nat->Nat->ah,Rd M v (.sl t k n (IL k f))/\(∀i,i<n->(es i).length=k)/\∀i,i<n->∀j c,(es i)[j]?=aa c->Rd M (f i j) c:=by
 cases h with
 |sl b off f a l m hk ha hm hr =>
  have e:∀i,i<n->∀j,j<k->∃c,(es i)[j]?=aa c:=λi hi j hj=>⟨_,br (by grind)⟩
  refine⟨f,.sl b off f a l m (λi _=>by simp[IL]) ha (λi hi j c hj=>?_) (λi hi j c hj=>?_),hk,hr⟩
  .grind [pY]
  .obtain⟨h1,rfl⟩:=pY hj;obtain⟨g,h2⟩:=e i hi j h1;exact .val (hr i hi j g h2).cell
def Al{σ:List aP}{s:St}{l:Nat}{E:aj}{k n:Nat}{es:Nat->List C}{L:Loc}{a c:Option Addr}{cap:Nat}(hB:σ[l]?=aa (.buf E k n es))(g:s.β[l]?=aa L)(e:L.v=.slice c 0 cap)(f:n<=cap)(i:cap<=9223372036854775807)(m:0<cap->∃b,c=aa ⟨b,0,ae⟩/\a=aa ⟨b,0,ae⟩):gn σ s (.slice a n cap) (.bp l (.sl n k 0 n)) :=
 ⟨L.v,⟨a,c,cap,cap,rfl,f,by omega,i,e,λh=>by grind⟩,(bY.1 hB).1,λj k' n' es' he=>by rw[hB]at he;cases he;exact⟨bh _,λ_=>⟨L,g,rfl⟩⟩⟩
def rQ{P:ar}{o:au}{σ:List aP}{x y:ak}{E:aj}{g:TI}(h:lz P o x y E g){l n p:Nat}{tx:Bool}{es es':Nat->List C}{s:St}{ρ:ak->ah}(r:aF σ s)(h1:gn σ s (ρ x) (.bp l (.sl n g.size 0 n)))(hl:σ[l]?=aa (.buf E g.size n es))(W:Rd s.M (ρ y) (.sl tx g.size p es'))(K:(n+p)*g.bytes<=140737488355328):
  ∃nx s',(aw ρ o).run P s.w=.ok nx s'.w/\RJ (σ.set l (.buf E g.size (n+p) (cA n es es'))) s' nx (.e (.one (.bp l (.sl (n+p) g.size 0 (n+p)))))/\aF (σ.set l (.buf E g.size (n+p) (cA n es es'))) s'/\Step σ s (σ.set l (.buf E g.size (n+p) (cA n es es'))) s'/\eY s ((aw ρ o).events P s.w #[]):=by
 obtain⟨t,t2,i,i2,ho,hi,hd,B,A⟩:=h.op;have H:l<σ.length:=(bY.1 hl).1;obtain⟨lv,⟨a,a0,cap,u,hv,Q,TB,O,G7,Xs⟩,_,WM⟩:=h1;obtain⟨L,hL,Xj⟩:=(WM _ _ _ _ hl).2 rfl;rw[G7]at Xj;have PN:u=cap:=by omega
 subst PN;have S:0<u->∃b,a0=aa ⟨b,0,ae⟩/\a=aa ⟨b,0,ae⟩:=λh=>by grind
 have V:l<s.β.length:=(bY.1 hL).1;have T5:=bJ hL;have U:=r.box l _ L hl hL;rw[dg ho,hv];have row:0<u->∃b vs zs,a=aa ⟨b,0,ae⟩/\L=⟨.slice (aa ⟨b,0,ae⟩) 0 u,[b]⟩/\s.w.heap[b]?=aa (.cells (vs++zs).toArray E (0,0))/\(vs++zs).length=u*g.size/\Flat s.M g.size n es vs/\∀o,s.M b o=ae:=by
  intro J;obtain⟨b,e1,e2⟩:=S J;rcases U with⟨_,rfl⟩|⟨q,c1,vs,zs,rfl,h3,h4,h5,h6,h7,h8⟩
  .grind
  grind
 by_cases h0:p=0
 .subst h0;have k:=jc (P:=P) (ty:=o.type) hi hd B A h.elem r (a:=a) Q W;simp only[ir];have ha:cv n es (cA n es es'):=λi hi=>by simp[cA,hi]
  have WR:et (σ.set l (.buf E g.size n (cA n es es'))) ⟨s.β.set l L,s.M,s.w,s.own⟩ (.buf E g.size n (cA n es es')) L:=by
   rcases U with h3|⟨q,c1,vs,zs,W,h3,h4,h5,h6,h7,h8⟩
   .exact .inl h3
   .exact .inr ⟨q,c1,vs,zs,W,h3,h4,h5,h6,h7.Dx ha,h8⟩
  have FT:=r.gz (M':=s.M) (w':=s.w) (B':=.buf E g.size n (cA n es es')) (L':=L) hl hL ⟨λ_=>rfl,bh _⟩ (bh _) (λ_ _ _=>rfl) (λ_ _ _ _=>rfl) (λ_ _ _ h=>h) r.mem
   (λb K=>⟨.inl K,r.lt L T5 b K⟩) rfl rfl rfl WR
  refine⟨.value (.slice a n u),_,?_,?_,FT.1,FT.2,eH (jE hi hd B A h.elem r Q W)⟩
  .simp[k]
  .exact Al (E:=E) (by rw[fV H]) (by grind) Xj Q O S
 .by_cases m:n+p<=u
  .obtain⟨b,vs,zs,rfl,rfl,hw,G,hF,hM⟩:=row (by omega);obtain⟨f,MY,k⟩:=kh (P:=P) (ty:=o.type) hi hd B A h.elem r hw G W m;have PO:vs.length=n*g.size:=hF.len;have TC:f.length=p*g.size:=MY.len;have ZV:n*g.size+p*g.size<=u*g.size:=by rw[<-iu];exact eC _ m
   have X:((vs++zs).take (n*g.size)++f++(vs++zs).drop (n*g.size+f.length))=(vs++f)++zs.drop f.length:=by rw[<-PO];simp[List.drop_append]
   rw[X]at k;have Jc:=setRow_heap s.w b _ ((vs++f)++zs.drop f.length).toArray E _ hw;have DH:∀q,q≠b->(s.w.setRow b ((vs++f)++zs.drop f.length).toArray).heap[q]?=s.w.heap[q]?:=λq N=>setRow_other s.w b q _ N;obtain⟨t1,Y⟩:=r.gz (M':=s.M) (w':=s.w.setRow b ((vs++f)++zs.drop f.length).toArray) (B':=.buf E g.size (n+p) (cA n es es')) (L':=⟨.slice (aa ⟨b,0,ae⟩) 0 u,[b]⟩) hl hL ⟨λ_=>rfl,by omega⟩ (by simp[World.setRow])
    (λq N hn=>DH q (by grind)) (λ_ _ _ _=>rfl) (λ_ _ _ h=>h) (λq o' v hmv=>by
     have Bp:q≠b:=by grind
     have:=r.mem q o' v hmv;rw[<-this];simp only[aV]
     grind) (λq N=>⟨.inl N,by grind⟩) rfl rfl rfl
    (.inr ⟨b,u,vs++f,zs.drop f.length,rfl,Jc,by grind,m,O,hF.append MY,hM⟩)
   refine⟨.value (.slice (aa ⟨b,0,ae⟩) (n+p) u),_,?_,?_,t1,Y,eH (lU hi hd B A h.elem r hw G W m T5 (by simp) (λo _=>hM o))⟩
   .simp[k]
   .exact Al (E:=E) (by rw[fV H]) (by simp only;rw[fV V]) rfl m O λ_=>⟨b,rfl,rfl⟩
  .have hg:u<n+p:=by omega
   obtain⟨f2,h2x,Yg,sX⟩:=W.exact;have gk:∃(M':Mem) (f0:Nat->Nat->ah),aF (σ.map λ_=>.dead) {s with M:=M'}/\(∀q o v,s.M q o=aa v->M' q o=aa v)/\Rd M' (.slice a n u) (.sl af g.size n (IL g.size f0))/\(∀{es},eY {s with M:=M'} es->eY s es) /\
     (∀i,i<n->(es i).length=g.size)/\∀i,i<n->∀j c,(es i)[j]?=aa c->Rd s.M (f0 i j) c:=by
    by_cases J:0<u
    .obtain⟨b,vs,zs,rfl,rfl,hw,G,hF,hM⟩:=row J;obtain⟨c1,c2⟩:=r.zw (b:=b) (vs:=vs) hM (λo v ho=>by
      simp only[aV,hw]
      grind)
     have R:∀i,i<n->∀j c,(es i)[j]?=aa c->vs[i*g.size+j]?=aa (vs.getD (i*g.size+j) ai)/\Rd s.M (vs.getD (i*g.size+j) ai) c:=by intro i hi j c F;obtain⟨v,v1,v2⟩:=hF.rd i hi j c F;grind
     have XA:∀i,i<n->∀j,j<g.size->∃c,(es i)[j]?=aa c:=λi hi j F=>⟨_,br (by rw[hF.width i hi];exact F)⟩
     refine⟨_,λi j=>vs.getD (i*g.size+j) ai,c1,c2,.sl b 0 (λi j=>vs.getD (i*g.size+j) ai) Q O (by simp) (λi _=>by simp[IL]) (λ_=>rfl) (λi hi j c F=>?_) (λi hi j c F=>?_),λhe=>?_,hF.width,λi hi j c F=>(R i hi j c F).2⟩
     .obtain⟨e1,_⟩:=pY F;grind
     .obtain⟨e1,rfl⟩:=pY F;obtain⟨c',e2⟩:=XA i hi j e1;exact .val (R i hi j c' e2).2.cell
     .exact he.vK (b:=b) T5 (by simp) c2 λq o v hv=>by grind
    .have e1:u=0:=by omega
     have e2:n=0:=by omega
     subst e1 e2;have z:=r.lI;exact⟨s.M,λ_ _=>ai,⟨z.mem,z.len,z.box,z.eB,z.lt,z.own⟩,λ_ _ _ h=>h,Rd.jG,λh=>h,λi hi=>by omega,λi hi=>by omega⟩
   obtain⟨M',f0,c1,c2,hR,WX,hw0,hr0⟩:=gk;have XD:Rd ({s with M:=M'}:St).M (ρ y) (.sl tx g.size p (IL g.size f2)):=h2x.mono c2;obtain⟨vW,zs,I,Ng,WT,WU,hlen,k⟩:=iv (P:=P) (s:={s with M:=M'}) (ty:=o.type) hi hd B A h.elem c1 hR XD hg K h.bytes;have I5:=iW (P:=P) (s:={s with M:=M'}) (ty:=o.type) hi hd B A h.elem c1 hR XD hg K h.bytes;have hFs:Flat s.M g.size (n+p) (cA n es es') vW:=by
    refine⟨Ng.len,λi hi=>?_,λi hi j c F=>?_⟩
    .by_cases e:i<n
     .simp only[cA,e,cj];grind
     .simp only[cA,e,b7];grind
    .by_cases e:i<n
     .simp only[cA,e,cj]at F;have Z:j<g.size:=by grind
      obtain⟨v,v1,v2⟩:=Ng.rd i hi j (.val (f0 i j)) (by simp only[cA,e,cj];exact Dy Z);grind[Rd.dZ]
     .simp only[cA,e,b7]at F;have Z:j<g.size:=by grind
      obtain⟨v,v1,v2⟩:=Ng.rd i hi j (.val (f2 (i-n) j)) (by simp only[cA,e,b7];exact Dy Z);grind[Rd.dZ]
   have nM:∀o,s.M s.w.heap.size o=ae:=λo=>by
    cases hm:s.M s.w.heap.size o with
    |none=>rfl
    |some v=>have:=r.block hm;omega
   obtain⟨t1,Y⟩:=r.gz (M':=s.M) (w':=s.w.drew.alloc (.cells (vW++zs).toArray E)) (B':=.buf E g.size (n+p) (cA n es es')) (L':=⟨.slice (aa ⟨s.w.heap.size,0,ae⟩) 0 I,[s.w.heap.size]⟩) hl hL
    ⟨λe=>absurd e (by omega),by omega⟩ (by simp) (λb K _=>cJ s.w.drew _ K) (λ_ _ _ _=>rfl) (λ_ _ _ h=>h) (λb o v hm=>by
     have ta:=r.block hm;rw[<-r.mem b o v hm];simp only[aV];rw[cJ s.w.drew _ ta];rfl) (λb K=>by simp at K;subst K;exact⟨.inr (bh _),by simp⟩) rfl rfl rfl (.inr ⟨s.w.heap.size,I,vW,zs,rfl,dG s.w.drew _,hlen,WT,WU,hFs,nM⟩)
   refine⟨.value (.slice (aa ⟨s.w.heap.size,0,ae⟩) (n+p) I),_,?_,?_,t1,Y,eH (WX I5)⟩
   .simp only at k;simp[k]
   .exact Al (E:=E) (by rw[fV H]) (by simp only;rw[fV V]) rfl WT WU λ_=>⟨_,rfl,rfl⟩
def bF.NJ{P:ar}{o:au}{d:ak->D}{σ:List aP}{x y:ak}{E:aj}{a:TI}(h:lz P o x y E a){l n b:Nat}{tx:Bool}{es es':Nat->List C}(g:d x=.e (.one (.bp l (.sl n a.size 0 n))))(hl:σ[l]?=aa (.buf E a.size n es))(f:∀s v,dk σ s v (d y)->Rd s.M v (.sl tx a.size b es'))(c:(n+b)*a.bytes<=140737488355328):
  bF P o d σ (.e (.one (.bp l (.sl (n+b) a.size 0 (n+b))))) (σ.set l (.buf E a.size (n+b) (cA n es es'))) :=
 λs i hh hr=>rQ h hh (by have:=hr x;rw[g]at this;exact this) hl (f s _ (hr y)) c
section
variable {P:ar}{T:List (Nat×TI)}{o:au}{d:ak->D}{σ:List aP}
def bF.XY(hT:cO P T){x:ak}{b:Array aj}{t:aj}(h:o.op=.call {callee:=.builtin .len,args:=#[x],argTypes:=b})(l:b[0]?=aa t){i:TI}{E:aj}(hi:bD T t=aa i)(j:i.desc=.slice E){a:Option Addr}{n cap:Nat}(k:d x=.e (.one (.c (.val (.slice a n cap)))))(m:n<=9223372036854775807):bF P o d σ (.e (.one (.c (.int .i64 n)))) σ:=by
 refine .quiet λs p hh hr=>?_;have h1:=hr x;rw[k]at h1;have g:=Rd.dZ (eT h1);have f:=(hT t i hi).run_underlying (w:=s.w);rw[j]at f;refine⟨.int .i64 n,?_,Rd.int (by simp only[bA];omega),?_⟩<;>
 simp[aw,h,resolve,invoke,builtin,Builtin.len_,g,f,goInt,l]
theorem bF.BI(hT:cO P T){t:aj}{x y:ak}(h:o.op=.indexAddr t x y){i g:TI}{E:aj}(hi:bD T t=aa i)(q:i.desc=.slice E)(v:bD T E=aa g){b off n cap:Nat}{j:Int}{kk:IntKind}(z:d x=.e (.one (.c (.val (.slice (aa ⟨b,off,ae⟩) n cap)))))(u:d y=.e (.one (.c (.int kk j))))(A:0<=j)(h1:j<n):bF P o d σ (.e (.one (.c (.val (.pointer (aa ⟨b,off+j.toNat*g.size,ae⟩)))))) σ:=by
 refine .quiet λs r hh hr=>?_;have a:=hr x;rw[z]at a;have p:=Rd.dZ (eT a);have h2:=hr y;rw[u]at h2;replace h2:=eT h2;generalize l:r y=vy at h2;cases h2;have m:=(hT t i hi).run_underlying (w:=s.w);rw[q]at m;obtain⟨f,rfl⟩:∃f:Nat,j=f:=⟨j.toNat,by omega⟩
 have k:f<n:=by omega
 refine⟨.pointer (aa ⟨b,off+f*g.size,ae⟩),?_,Rd.val rfl,?_⟩<;>
 simp[aw,h,p,l,Instr.indexAt,asIntOf,m,(hT E g v).run_sizeOf,dm,k]
def bF.Ro(hT:cO P T){t:aj}{x:ak}{f:Nat}(h:o.op=.fieldAddr t x f){b off k:Nat}{j:TI}(i:d x=.e (.one (.c (.val (.pointer (aa ⟨b,off,ae⟩))))))(a:jM T t f=aa (k,j)):bF P o d σ (.e (.one (.c (.val (.pointer (aa ⟨b,off+k,ae⟩)))))) σ:=by refine .quiet λs l hh hr=>?_;have h1:=hr x;rw[i]at h1;have g:=Rd.dZ (eT h1);exact⟨.pointer (aa ⟨b,off+k,ae⟩),by simp[aw,h,g,mG hT a],Rd.val rfl,by simp[aw,h,g,ow hT a]⟩
def bF.slice3(hT:cO P T){t:aj}{x y z:ak}(h:o.op=.slice t x ae (aa y) (aa z)){i L:TI}{E:aj}(F:bD T t=aa i)(N:i.desc=.slice E)(O:bD T E=aa L){tt:Bool}{k n:Nat}{es:Nat->List C}{u r:IntKind}{j m:Int}(Q:∀s v,dk σ s v (d x)->Rd s.M v (.sl tt k n es))(V:d y=.e (.one (.c (.int u j))))(S:d z=.e (.one (.c (.int r m))))(G:0<=j)(h1:j<=m)(h2:m<=n):bF P o d σ (.e (.one (.c (.sl af k j.toNat es)))) σ:=by
 refine .quiet λst ρ hh hr=>?_;have q:=Q st _ (hr x);have l:=hr y;rw[V]at l;replace l:=eT l;generalize A:ρ y=vy at l;cases l;have p:=hr z;rw[S]at p;replace p:=eT p;generalize B:ρ z=vz at p;cases p;obtain⟨a,cap,vs,H,I,R,W,Y,X⟩:=q.flat;rw[H]at q;have g:=(hT t i F).run_underlying (w:=st.w);rw[N]at g;have em:((m.toNat:Nat):Int)=m:=rI (by omega);have J:(bc ab n cap ae (aa (.int u j)) (aa (.int r m))).run P st.w=.ok (0,j.toNat,m.toNat) st.w:=by simp[bc,run_sliceBound (P:=P) st.w r m cap _ (by omega) (by omega),run_sliceBound (P:=P) st.w u j m.toNat _ G (by omega)]
 have U:(bc ab n cap ae (aa (.int u j)) (aa (.int r m))).events P st.w #[]=#[]:=by simp[bc,run_sliceBound (P:=P) st.w r m cap _ (by omega) (by omega),run_sliceBound (P:=P) st.w u j m.toNat _ G (by omega),dF (P:=P) st.w r m cap _ (by omega) (by omega),dF (P:=P) st.w u j m.toNat _ G (by omega)]
 refine⟨.slice a j.toNat m.toNat,?_,?_,by simp[aw,h,H,A,B,Instr.sliceAt,g,Instr.slice,J,U]⟩
 .simp[aw,h,H,A,B,Instr.sliceAt,g,Instr.slice,J,(hT E L O).run_sizeOf];intro _;rcases a with _|⟨b,off,sp⟩<;>simp[Addr.add]
 .cases q with
  |sl b off f _ _ _ hk ha hm' M3 =>
   exact Rd.sl b off f (by omega) (by omega) (by simp) (λi hi=>hk i (by omega)) (λK=>ha (by omega)) (λi hi j c hj=>hm' i (by omega) j c hj) (λi hi j c hj=>M3 i (by omega) j c hj)
end
structure IQ(N:Nat)(σ:List aP)(s:St)(V:Nat->D)(a:Act):Prop where
 size:a.tmps.size=N
 defers:∃ls,oO σ s a.defers ls
 slot:∀t,dk σ s (a.tmps.getD t ai) (V t)
def IQ.Jo{N:Nat}{σ:List aP}{s:St}{V:Nat->D}{φ:Fr}{a:Act}(f:IQ N σ s V a)(h:∀t σ s v,dk σ s v (V t)->dk σ s v (look φ t)):cm N σ s φ a :=
 ⟨f.size,f.defers,λt=>h t _ _ _ (f.slot t)⟩
def dj(e:Edge):Bool:=Region.binds .any e
structure wi{P:ar}(X:Cx P)(N:Nat)(ops:Array au)(φ:Fr)(S:Nat->List aP)(x:Nat->D)(m:Nat->Fr)(free c:Nat->Bool)(p:Nat->Nat->Prop)(idx:Nat->Option Nat)(φ':Fr):Prop where
 ja:P.follows Departure.mixedOrders=ab
 back:∀i o,ops[i]?=aa o->∀e∈o.after,dj e=ab->e.on<i
 Jp:∀i o d,ops[i]?=aa o->o.dst=aa d->idx d=aa i/\d<N
 x7:∀d i,idx d=aa i->∃o,ops[i]?=aa o/\o.dst=aa d
 quiet:∀i,c i=af->S (i+1)=S i
 one:∀i o,ops[i]?=aa o->free i=af->OA X N ops.toList o (m i) (S i) (x i) (S (i+1))
 all:∀i o,ops[i]?=aa o->free i=ab->c i=af/\∀k,OA X N ops.toList o (m i) (S k) (x i) (S k)
 cl:∀L:Nat->Prop,(∀i o,ops[i]?=aa o->L i->∀e∈o.after,dj e=ab->L e.on)->∀i j,p i j->(L i->L j)/\∃o,ops[i]?=aa o/\((∀e∈o.after,dj e=ab->L e.on)->L j)
 comp:∀i f,i<ops.size->f<ops.size->c f=ab->i≠f->free i=af->(f<i/\p i f)∨(i<f/\p f i)
 TG:∀i o,ops[i]?=aa o->∀t σ s v,dk σ s v (match idx t with|some j=>(if ∃e∈o.after,dj e=ab/\e.on=j then x j else if ∃oj,ops[j]?=aa oj/\∃e∈oj.after,dj e=ab/\e.on=i then look φ t else .any)|none=>look φ t)->dk σ s v (look (m i) t)
 fin:∀t σ s v,dk σ s v (match idx t with|some j=>x j|none=>look φ t)->dk σ s v (look φ' t)
open Classical in
noncomputable def gj(φ:Fr)(x:Nat->D)(idx:Nat->Option Nat)(L:Array Bool)(t:Nat):D :=
 match idx t with
 |some j=>if L.getD j af=ab then x j else look φ t
 |none=>look φ t
theorem mem_ready{ops:Array au}{L:Array Bool}{i:Nat}:i∈a9 .any ops L↔∃o,ops[i]?=aa o/\L.getD i ab=af/\∀e∈o.after,dj e=ab->L.getD e.on af=ab:=by
 unfold a9;simp only[lf,oa,bR,j8];constructor
 .rintro⟨b,g,a⟩;rw[fU b]at a;simp only[n5,im,Array.all_eq_true',jC,j8]at a;refine⟨ops[i],fU b,g,λe d f=>?_⟩;rcases a e d with h|h
  .unfold dj at f;grind
  grind
 .rintro⟨o,b,g,a⟩;have j:i<ops.size:=(ij.1 b).1;refine⟨j,g,?_⟩;rw[b];simp only[n5,im,Array.all_eq_true',jC,j8];intro e d;cases f:Region.binds .any e with
  |false=>grind
  |true=>exact .inr (a e d f)
section
variable {P:ar}{X:Cx P}{N:Nat}{ops:Array au}{φ φ':Fr}{S:Nat->List aP}{x:Nat->D}{m:Nat->Fr}{free c:Nat->Bool}{p:Nat->Nat->Prop}{idx:Nat->Option Nat}
def wi.chain(h:wi X N ops φ S x m free c p idx φ'){i:Nat}:∀{k:Nat},i<=k->(∀g,i<=g->g<k->c g=af)->S k=S i
 |0,hk,_=>by grind
 |k+1,hk,a=>by
  rcases cC k i with hl|hl
  .grind
  .rw[h.quiet k (a k hl (by omega)),h.chain (k:=k) hl (λg h1 h2=>a g h1 (by omega))]
def wi.last(h:wi X N ops φ S x m free c p idx φ'){L:Array Bool}(l:∀i,i<ops.size->L.getD i af=ab){k:Nat}{s0 s:St}{a:Act}(hk:k<=ops.size)(n:∀f,f<ops.size->c f=ab->(L.getD f af=ab↔f<k))(b:IQ N (S k) s (gj φ x idx L) a)(hh:aF (S k) s)(st:cR (S 0) s0 (S k) s):
  cm N (S ops.size) s φ' a/\aF (S ops.size) s/\cR (S 0) s0 (S ops.size) s:=by
 have d:S ops.size=S k:=h.chain hk (λg h1 h2=>by grind)
 rw[<-d]at b hh st;refine⟨b.Jo λt σ s v e=>h.fin t σ s v ?_,hh,st⟩;unfold gj at e;cases hi:idx t with
 |none=>grind
 |some j =>
  simp only[hi]at e⊢;obtain⟨o,q,_⟩:=h.x7 _ _ hi;grind
theorem eJ{L:Array Bool}{i j:Nat}(hi:i<L.size):(L.setIfInBounds i ab).getD j af=ab↔j=i∨L.getD j af=ab:=by simp only[dM];grind
theorem count_set:∀{l:List Bool}{i:Nat},l[i]?=aa af->((l.set i ab).filter (λb=>!b)).length+1=(l.filter (λb=>!b)).length
 |[],_,h=>by grind
 |b::r,0,h=>by grind
 |b::r,i+1,h=>by simp at h;have:=count_set (l:=r) h;cases b<;>simp[List.set_cons_succ]<;>omega
theorem wj(t:Nat)(L:Array Bool):Region.linearise.go .any ops 0 t L []=[]:=by simp[Region.linearise.go]
theorem pe(n t:Nat)(L:Array Bool):Region.linearise.go .any ops (n+1) t L []=match(a9 .any ops L)[t % (a9 .any ops L).length]? with
  |some i=>i::Region.linearise.go .any ops n (t / (a9 .any ops L).length) (L.setIfInBounds i ab) []
  |none=>[]:=by
 simp only[Region.linearise.go]
 change (match(a9 .any ops L)[t % (a9 .any ops L).length]? with
   |some i=>Region.linearise.go .any ops n (t / (a9 .any ops L).length) (L.setIfInBounds i ab) [i]
   |none=>[].reverse)=_
 grind[linearise_go_acc]
def wi.arr(h:wi X N ops φ S x m free c p idx φ'){Y:av->St->Prop}{b:aR}{kk:List Item}{cs:List aR}(hb:b.kind≠.early){s0:St}(hQ:∀s a,cm N (S ops.size) s φ' a->aF (S ops.size) s->cR (S 0) s0 (S ops.size) s->fz X Y (G (b.aT a kk) cs) s):
  ∀(l:Nat) (L:Array Bool),L.size=ops.size->(L.toList.filter (λb=>!b)).length<=l ->
   (∀i o,ops[i]?=aa o->L.getD i af=ab->∀e∈o.after,dj e=ab->L.getD e.on af=ab) ->
   ∀(k:Nat) (s:St) (a:Act),k<=ops.size->(∀f,f<ops.size->c f=ab->(L.getD f af=ab↔f<k))->IQ N (S k) s (gj φ x idx L) a->aF (S k) s->cR (S 0) s0 (S k) s ->
   ∀t,fz X Y (G (b.aT a (.inRegion ops (Region.linearise.go .any ops l t L [])::kk)) cs) s:=by
 have fin:∀(s:St) (a:Act),cm N (S ops.size) s φ' a->aF (S ops.size) s->cR (S 0) s0 (S ops.size) s->fz X Y (G (b.aT a (.inRegion ops []::kk)) cs) s :=
  λs a a1 a2 a3=>.ctl a2 rfl (λ_=>iX) λs1 K=>hQ s1 a (a1.rely K a2) (a2.rely K) (a3.trans K.stepW)
 intro l;induction l with
 |zero =>
  intro L hs hf V k s a hk W1 Dt hh st;have A:∀i,i<ops.size->L.getD i af=ab:=by
   intro i hi;have hm:L[i]'(by omega)∈L.toList:=by simp
   cases hb:L[i]'(by omega)with
   |true=>simp[dM,fU (by omega:i<L.size),hb]
   |false =>
    have:L[i]'(by omega)∈L.toList.filter (λb=>!b):=lf.2 ⟨hm,by grind⟩;grind
  intro t;rw[wj];obtain⟨a1,a2,a3⟩:=h.last A hk W1 Dt hh st;grind
 |succ l ih =>
  intro L hs hf V k s a hk W1 Dt hh st;intro t;rw[pe];cases U:(a9 .any ops L)[t % (a9 .any ops L).length]? with
  |none =>
   have hr:a9 .any ops L=[]:=by
    cases hr:a9 .any ops L with
    |nil=>rfl
    |cons y ys =>
     grind[Nat.mod_lt]
   have A:∀i,i<ops.size->L.getD i af=ab:=by
    intro i;induction i using Nat.strongRecOn with
    |_ i ihi =>
     intro hi;cases hb:L.getD i af with
     |true=>rfl
     |false =>
      have hm:i∈a9 .any ops L:=mem_ready.2 ⟨ops[i],fU hi,by
       grind,λe R hbe=>by
       have:=h.back i _ (fU hi) e R hbe
       grind⟩
      grind
   obtain⟨a1,a2,a3⟩:=h.last A hk W1 Dt hh st;grind
  |some i =>
   have hi:=bJ U;obtain⟨o,W,W2,Q9⟩:=mem_ready.1 hi;have M:i<ops.size:=(ij.1 W).1;have E:¬L.getD i af=ab:=by grind
   have T:=h.cl (λj=>L.getD j af=ab) V;have ZZ:∀g,p g i->¬L.getD g af=ab:=λg hg hL=>E ((T g i hg).1 hL);have hup:∀g,p i g->L.getD g af=ab:=λg hg=>by grind
   have C:(L.setIfInBounds i ab).size=ops.size:=by grind
   have B:((L.setIfInBounds i ab).toList.filter (λb=>!b)).length<=l:=by
    have h1:L.toList[i]?=aa af:=by rw[zq,fU (by omega:i<L.size)];simpa[dM,fU (by omega:i<L.size)]using E
    grind[count_set]
   have Z:∀j o',ops[j]?=aa o'->(L.setIfInBounds i ab).getD j af=ab->∀e∈o'.after,dj e=ab->(L.setIfInBounds i ab).getD e.on af=ab:=by grind[eJ]
   have hfi:cm N (S k) s (m i) a:=Dt.Jo λt σ s v Q=>h.TG i o W t σ s v (by
    unfold gj at Q;cases r:idx t with
    |none=>grind
    |some j =>
     simp only[r]at Q⊢;split
     .grind
     .split
      .grind
      .trivial)
   have O:∀(σ':List aP) (s':St) (v:ah),cR (S k) s σ' s'->dk σ' s' v (x i)->IQ N σ' s' (gj φ x idx (L.setIfInBounds i ab)) (a.put o.dst v):=by
    intro σ' s' v q Q;cases hd:o.dst with
    |none =>
     refine⟨Dt.size,Dt.defers.imp λ_ h1=>h1.mono q.ext,λt=>?_⟩;have w:=(Dt.slot t).mono q.ext hh.len;simp only[Act.put];unfold gj at w⊢;cases r:idx t with
     |none=>grind
     |some j =>
      simp only[r]at w⊢;obtain⟨oj,XF,XG⟩:=h.x7 _ _ r;grind[eJ]
    |some d =>
     obtain⟨hid,hdN⟩:=h.Jp i o d W hd;refine⟨by simp[Act.put,Dt.size],Dt.defers.imp λ_ h1=>h1.mono q.ext,λt=>?_⟩;simp only[Act.put];by_cases e:d=t
     .subst e;have Z0:d<a.tmps.size:=by rw[Dt.size];exact hdN
      simp only[dM,vH Z0,im];unfold gj;simp only[hid];rw[bl ((eJ (by omega)).2 (.inl rfl))];exact Q
     .have w:=(Dt.slot t).mono q.ext hh.len;simp only[dM]at w⊢;rw[vJ e];unfold gj at w⊢;cases r:idx t with
      |none=>grind
      |some j =>
       simp only[r]at w⊢;obtain⟨oj,XF,XG⟩:=h.x7 _ _ r;grind[eJ]
   have z:∀(k':Nat),k'<=ops.size->OA X N ops.toList o (m i) (S k) (x i) (S k')->(∀f,f<ops.size->c f=ab->((L.setIfInBounds i ab).getD f af=ab↔f<k')) ->
     fz X Y (G (b.aT a (.inRegion ops (i::Region.linearise.go .any ops l (t / (a9 .any ops L).length) (L.setIfInBounds i ab) [])::kk)) cs) s:=by intro k' Um hoa XH;have:=hoa s a hfi hh b kk cs Y i (Region.linearise.go .any ops l (t / (a9 .any ops L).length) (L.setIfInBounds i ab) []) hb (by grind);simp only[oV]at this;exact this λv s' Q iY q=>ih _ C B Z k' s' _ Um XH (O _ _ _ q Q) iY (st.trans q) _
   have same:c i=af->∀f,f<ops.size->c f=ab->((L.setIfInBounds i ab).getD f af=ab↔f<k):=by grind[eJ]
   cases n:free i with
   |true =>
    obtain⟨hq,XI⟩:=h.all i o W n;exact z k hk (XI k) (same hq)
   |false =>
    have u:=h.one i o W n;have H:S i=S k:=by
     rcases Nat.le_total k i with J|J
     .refine h.chain J λg h1 h2=>?_;cases R:c g with
      |false=>rfl
      |true =>
       exfalso;rcases h.comp i g M (by omega) R (by omega) n with⟨_,hc⟩|⟨hc,_⟩
       .grind
       .omega
     .refine(h.chain J λg h1 h2=>?_).symm;cases R:c g with
      |false=>rfl
      |true =>
       exfalso;have hLg:=(W1 g (by omega) R).2 h2;by_cases Ra:g=i
       .grind
       .rcases h.comp i g M (by omega) R (λe=>Ra e.symm) n with⟨hc,_⟩|⟨_,hc⟩
        .omega
        grind
    rw[H]at u;cases F:c i with
    |false =>
     rw[h.quiet i F,H]at u;exact z k hk u (same F)
    |true =>
     refine z (i+1) (by omega) u λf TH W3=>?_;rw[eJ (by omega)];by_cases I:f=i
     .grind
     .simp only[I,false_or];rcases h.comp i f M TH W3 (λe=>I e.symm) n with⟨h1,hc⟩|⟨h1,hc⟩
      .grind
      grind
end
def Bq(op:BinOp)(k:IntKind)(a:Int)(k':IntKind)(b:Int):Option (Int×List Prop) :=
 match k with
 |.u64=>match op with
  |.shl=>aa (((a.toNat*2 ^ b.toNat % 18446744073709551616:Nat):Int),[0<=b,b<=64])
  |.shr=>aa (((a.toNat / 2 ^ b.toNat:Nat):Int),[0<=b,b<=64])
  |.and=>match k' with|.u64=>aa (((a.toNat &&& b.toNat:Nat):Int),[])|_=>ae
  |.xor=>match k' with|.u64=>aa (((a.toNat ^^^ b.toNat:Nat):Int),[])|_=>ae
  |_=>ae
 |_=>ae
section
variable {P:ar}{T:List (Nat×TI)}{o:au}{d:ak->D}{σ:List aP}
theorem bits_nat{a:Int}(h:bA .u64 a):(BitVec.ofInt IntKind.u64.bits a).toNat=a.toNat:=by rw[BitVec.toNat_ofInt];simp only[bA]at h;simp only[IntKind.bits];omega
def Ha{op:BinOp}{k k':IntKind}{a b c:Int}{obs:List Prop}(t:aj)(g:Bq op k a k' b=aa (c,obs))(l:az obs)(h:bA k a)(p:bA k' b)(w:aA):
  bA k c/\(Go.binOp op t (.int k a) (.int k' b)).run P w=.ok (.int k c) w/\(Go.binOp op t (.int k a) (.int k' b)).events P w #[]=#[]:=by
 unfold Bq at g;split at g
 .split at g
  .cases g;obtain⟨n,m⟩:0<=b/\b<=64:=l;have s:a.toNat*2 ^ b.toNat % 18446744073709551616<18446744073709551616:=kg _ (by decide);simp only[bA]at h;refine⟨by simp only[bA];omega,?_⟩;have i:IntKind.wrap .u64 (a*2 ^ (min b.toNat IntKind.u64.bits))=((a.toNat*2 ^ b.toNat % 18446744073709551616:Nat):Int):=by
    have j:min b.toNat IntKind.u64.bits=b.toNat:=by rw[show IntKind.u64.bits=64 from rfl];omega
    have q:a=(a.toNat:Int):=by omega
    rw[j,q];simp only[IntKind.wrap,IntKind.bits,IntKind.signed,b9];grind
   simp only[Go.binOp,Op.shift,aZ (show¬b<0 by omega),i];exact⟨rfl,rfl⟩
  .cases g;obtain⟨n,m⟩:0<=b/\b<=64:=l;simp only[bA]at h;have r:a.toNat / 2 ^ b.toNat<=a.toNat:=Nat.div_le_self _ _;refine⟨by simp only[bA];grind,?_⟩;have i:a.fdiv (2 ^ (min b.toNat IntKind.u64.bits))=((a.toNat / 2 ^ b.toNat:Nat):Int):=by
    have j:min b.toNat IntKind.u64.bits=b.toNat:=by rw[show IntKind.u64.bits=64 from rfl];omega
    grind
   simp only[Go.binOp,Op.shift,aZ (show¬b<0 by omega),i];exact⟨rfl,rfl⟩
  .split at g
   .cases g;have m:a.toNat &&& b.toNat<=a.toNat:=Nat.and_le_left;have f:bA .u64 ((a.toNat &&& b.toNat:Nat):Int):=by simp only[bA]at h⊢;omega
    refine⟨f,?_⟩;have e:(BitVec.ofInt IntKind.u64.bits a &&& BitVec.ofInt IntKind.u64.bits b).toNat=a.toNat &&& b.toNat:=by grind[bits_nat]
    simp only[Go.binOp,dr,fa,b7,Op.intBits,e,mv f];exact⟨rfl,rfl⟩
   grind
  .split at g
   .cases g;have f:bA .u64 ((a.toNat ^^^ b.toNat:Nat):Int):=by simp only[bA]at h p⊢;have:a.toNat ^^^ b.toNat<2 ^ 64:=Nat.xor_lt_two_pow (by omega) (by omega);omega
    refine⟨f,?_⟩;have e:(BitVec.ofInt IntKind.u64.bits a ^^^ BitVec.ofInt IntKind.u64.bits b).toNat=a.toNat ^^^ b.toNat:=by grind[bits_nat]
    simp only[Go.binOp,dr,fa,b7,Op.intBits,e,mv f];exact⟨rfl,rfl⟩
   grind
  grind
 grind
theorem bF.bits{op:BinOp}{t ty:aj}{x y:ak}{k k':IntKind}{a b c:Int}{obs:List Prop}(h:o.op=.binOp op t x y ty)(r:d x=.e (.one (.c (.int k a))))(n:d y=.e (.one (.c (.int k' b))))(l:Bq op k a k' b=aa (c,obs))(p:az obs):
  bF P o d σ (.e (.one (.c (.int k c)))) σ:=by
 refine .quiet λs i hh hr=>?_;have h1:=hr x;have h2:=hr y;rw[r]at h1;rw[n]at h2;replace h1:=eT h1;replace h2:=eT h2;generalize f:i x=vx at h1;generalize g:i y=vy at h2;cases h1 with|int ha =>
 cases h2 with|int hb =>
 obtain⟨q,j,m⟩:=Ha (P:=P) t l p ha hb s.w;exact⟨.int k c,by simp only[aw,h,bL,f,g,gN,bU,j,dq],.int q,by simp[aw,h,f,g,gN,jH,j,m]⟩
end
def Flat.T3{M:Mem}{k n q m:Nat}{es zv:Nat->List C}{vs oM:List ah}(h:Flat M k n es vs)(b:Flat M k m zv oM)(f:q+m<=n):
  Flat M k n (λi=>if q<=i/\i<q+m then zv (i-q)else es i) (vs.take (q*k)++oM++vs.drop (q*k+oM.length)):=by
 have hl:=h.len;have l:=b.len;have r:q*k+m*k<=n*k:=by rw[<-iu];exact eC k f
 have s:(vs.take (q*k)).length=q*k:=by grind
 have a:∀p,(vs.take (q*k)++oM++vs.drop (q*k+oM.length))[p]?=if p<q*k then vs[p]? else if p<q*k+m*k then oM[p-q*k]? else vs[p]?:=by
  intro p;by_cases c1:p<q*k
  .grind
  .rw[aZ c1];by_cases c2:p<q*k+m*k
   .grind
   .rw[aZ c2,fT (by grind),oX];grind
 refine⟨by grind,λi hi=>?_,λi hi j c hj=>?_⟩
 .by_cases e:q<=i/\i<q+m
  .rw[bl e];exact b.width _ (by omega)
  .rw[aZ e];exact h.width i hi
 .rw[a];by_cases e:q<=i/\i<q+m
  .rw[bl e]at hj;have g:j<k:=by have:=(bY.1 hj).1;rw[b.width _ (by omega)]at this;exact this
   have e1:q*k<=i*k:=eC k e.1;have e2:i*k+k<=q*k+m*k:=by rw[<-iu,<-lj];exact eC k e.2
   rw[aZ (by omega),bl (by omega)];obtain⟨v,v1,t⟩:=b.rd (i-q) (by omega) j c hj;grind[Nat.sub_mul]
  .rw[aZ e]at hj;have g:j<k:=by have:=(bY.1 hj).1;rw[h.width i hi]at this;exact this
   have:i*k+j<q*k∨q*k+m*k<=i*k+j:=by
    by_cases c1:i<q
    .left;have:i*k+k<=q*k:=by rw[<-lj];exact eC k c1
     omega
    .right;have:(q+m)*k<=i*k:=eC k (by omega);grind
   rcases this with c1|c1
   .rw[bl c1];exact h.rd i hi j _ hj
   .rw[aZ (by omega),aZ (by omega)];exact h.rd i hi j _ hj
def vc{s:St}{E k k':Nat}{es WL:Nat->List C}{v:ah}{σ':List aP}{β:List Loc}{l:Nat}(g:Rd s.M v (.sl ab k' 0 WL))(e:σ'[l]?=aa (.buf E k 0 es))(c:β[l]?=aa ⟨.slice ae 0 0,[]⟩):gn σ' {s with β:=β} v (.bp l (.sl 0 k 0 0)):=by obtain⟨a,cap,vs,f,_,_,b,_,_⟩:=g.flat;have:=b rfl;subst this;refine⟨.slice ae 0 0,⟨a,ae,0,0,f,by omega,rfl,by omega,rfl,λh=>absurd h (by omega)⟩,(bY.1 e).1,λE2 k2 n2 zv h=>?_⟩;rw[e]at h;cases h;exact⟨bh _,λ_=>⟨_,c,rfl⟩⟩
def eY.T4{s:St}{β:List Loc}{v:ah}{es:Array Event}(h:eY {s with β:=β++[⟨v,[]⟩]} es)(c:s.β=β):eY s es:=by
 intro e a;have h1:=h e a;have key:∀b,(∃L∈β++[(⟨v,[]⟩:Loc)],b∈L.bs)->∃L∈s.β,b∈L.bs:=λb ⟨L,g,f⟩=>by grind
 unfold od at h1⊢;grind
def bF.G5{P:ar}{o:au}{d:ak->D}{σ:List aP}{x y:ak}{E:aj}{a:TI}(h:lz P o x y E a){k m:Nat}{tx:Bool}{es es':Nat->List C}(A:d x=.e (.one (.c (.sl ab k 0 es))))(q:∀s v,dk σ s v (d y)->Rd s.M v (.sl tx a.size m es'))(n:(0+m)*a.bytes<=140737488355328):
  bF P o d σ (.e (.one (.bp σ.length (.sl (0+m) a.size 0 (0+m))))) (σ++[.buf E a.size (0+m) (cA 0 es es')]):=by
 intro s p hh hr;have h1:=hr x;rw[A]at h1;have h2:=q s _ (hr y);obtain⟨r,t⟩:=hh.hO (B:=.buf E a.size 0 es) (L:=⟨.slice ae 0 0,[]⟩) (.refl _ _) rfl hh (.inl ⟨rfl,rfl⟩) (by simp);have f:gn (σ++[.buf E a.size 0 es]) {s with β:=s.β++[⟨.slice ae 0 0,[]⟩]} (p x) (.bp σ.length (.sl 0 a.size 0 0)):=vc (E:=E) (es:=es) (eT h1) (by simp) (by simp[<-hh.len]);obtain⟨z,s',w,j,g,i,u⟩:=rQ (P:=P) (σ:=σ++[.buf E a.size 0 es]) (s:={s with β:=s.β++[⟨.slice ae 0 0,[]⟩]}) (l:=σ.length) (es:=es) h r f (by simp) h2 n;have b:(σ++[aP.buf E a.size 0 es]).set σ.length (.buf E a.size (0+m) (cA 0 es es'))=σ++[.buf E a.size (0+m) (cA 0 es es')]:=by simp
 rw[b]at j g i;exact⟨z,s',w,j,g,t.trans i,u.T4 rfl⟩
def G6(i j m:Nat)(es:Nat->List C):Nat->List C:=λq=>if i<=q/\q<i+m then es (j+(q-i))else es q
def bF.I4{P:ar}{o:au}{d:ak->D}{σ:List aP}{x y:ak}{E:aj}{f:TI}(h:lz P o x y E f){l n i j m:Nat}{es:Nat->List C}(hx:d x=.e (.one (.bp l (.sl n f.size 0 i))))(hy:d y=.e (.one (.bp l (.sl n f.size j m))))(hl:σ[l]?=aa (.buf E f.size n es))(ZS:i+m<=n)(hjm:j+m<=n):
  bF P o d σ (.e (.one (.bp l (.sl n f.size 0 (i+m))))) (σ.set l (.buf E f.size n (G6 i j m es))):=by
 intro s ρ hh hr;obtain⟨t,t2,ti,ti2,ho,hi,hd,W,V⟩:=h.op;have h1:=hr x;rw[hx]at h1;change gn σ s (ρ x) (.bp l _)at h1;have h2:=hr y;rw[hy]at h2;change gn σ s (ρ y) (.bp l _)at h2;obtain⟨lv,⟨a,a0,cap,H,hv,Y,TB,Xr,G7,Xs⟩,_,WM⟩:=h1;obtain⟨L,hL,X⟩:=(WM _ _ _ _ hl).2 rfl;rw[G7]at X;obtain⟨lv',⟨a',a0',k,c0',WN,Xt,abi,abj,Xu,abk⟩,_,Xv⟩:=h2;obtain⟨L',fe,J⟩:=(Xv _ _ _ _ hl).2 rfl;rw[hL]at fe;cases fe;rw[Xu,X]at J;cases J;have T5:=bJ hL;have hu:=hi.run_underlying (w:=s.w);have Z:=W.run_underlying (w:=s.w);rw[hd]at hu;rw[V]at Z;rw[dg ho,hv,WN];by_cases hn0:n=0
 .have e1:i=0:=by omega
  have e2:m=0:=by omega
  subst hn0 e1 e2;have QU:σ.set l (.buf E f.size 0 (G6 0 j 0 es))=σ:=by
   have:G6 0 j 0 es=es:=by funext q;simp only[G6];grind
   rw[this];apply iO;grind
  have hz:Rd s.M (.slice a' 0 k) (.sl af f.size 0 λ_=>[]):=.sl 0 0 (λ_ _=>ai) (by omega) (by omega) (by simp) (λi hi=>by omega) (λh=>by omega) (λi hi=>by omega) (λi hi=>by omega);have K:=jc (P:=P) (ty:=o.type) hi hd W V h.elem hh (a:=a) Y hz;rw[QU];refine⟨.value (.slice a 0 cap),s,?_,?_,hh,.refl _ _,eH (jE hi hd W V h.elem hh Y hz)⟩
  .simp[K]
  .exact⟨lv,⟨a,a0,cap,H,rfl,Y,TB,Xr,G7,Xs⟩,(bY.1 hl).1,WM⟩
 rcases hh.box l _ L hl hL with⟨e,_⟩|⟨b,c1,vs,R,rfl,r,hz1,hz2,hz3,S,hM⟩
 .grind
 cases X;have Q:0<cap:=by omega
 obtain⟨b1,e1,rfl⟩:=Xs Q;cases e1;have PN:H=cap:=by omega
 subst PN;rw[show b=b from rfl];have PO:vs.length=n*f.size:=S.len;have u:i+m<=H:=by omega
 have hik:i*f.size+m*f.size<=n*f.size:=by rw[<-iu];exact eC _ ZS
 have hjk:j*f.size+m*f.size<=n*f.size:=by rw[<-iu];exact eC _ hjm
 obtain⟨c1,c2⟩:=hh.zw (b:=b) (vs:=vs) hM (λq v N=>by
  simp only[aV,r]
  grind)
 let g:=(vs.drop (j*f.size)).take (m*f.size);have TC:g.length=m*f.size:=by grind
 have hng:∀p,p<m*f.size->g[p]?=vs[j*f.size+p]?:=λp G=>by grind
 have MY:Flat s.M f.size m (λq=>es (j+q)) g:=by
  refine⟨TC,λq N=>S.width _ (by omega),λq N p c G=>?_⟩;have hpk:p<f.size:=by have:=(bY.1 G).1;rw[S.width _ (by omega)]at this;exact this
  obtain⟨v,v1,v2⟩:=S.rd (j+q) (by omega) p c G;refine⟨v,?_,v2⟩;have hq2:q*f.size+f.size<=m*f.size:=by rw[<-lj];exact eC _ N
  grind
 have z:∀v∈g,v.oneCell'=ab:=MY.cell;have WO:Rd (λA q=>if A=b then vs[q]? else s.M A q) (.slice a' m k) (.sl af f.size m (IL f.size λq p=>vs.getD ((j+q)*f.size+p) ai)):=by
  refine .sl b (j*f.size) (λq p=>vs.getD ((j+q)*f.size+p) ai) Xt (by omega) (by simp) (λq _=>by simp[IL]) (λG=>?_) (λq N p c G=>?_) (λq N p c G=>?_)
  .grind
  .obtain⟨p1,_⟩:=pY G;have hq2:q*f.size+f.size<=m*f.size:=by rw[<-lj];exact eC _ N
   grind
  .obtain⟨p1,rfl⟩:=pY G;obtain⟨c',Xw⟩:∃c',(es (j+q))[p]?=aa c':=⟨_,br (by rw[S.width _ (by omega)];exact p1)⟩
   obtain⟨v,v1,v2⟩:=S.rd (j+q) (by omega) p c' Xw;have e:vs.getD ((j+q)*f.size+p) ai=v:=by grind
   rw[e];exact .val v2.cell
 obtain⟨F,Ng,hf,O⟩:=dY (P:=P) (s:={s with M:=λA q=>if A=b then vs[q]? else s.M A q}) c1 WO;have hnn:F=g:=by
  apply iO;intro p;have Dq:F.length=m*f.size:=Ng.len;by_cases G:p<m*f.size
  .have hk:0<f.size:=by grind
   have N:p / f.size<m:=pP (by grind);have T6:p / f.size*f.size+p % f.size=p:=pU p f.size;obtain⟨v,v1,v2⟩:=Ng.rd _ N (p % f.size) _ (Dy (kg _ hk));rw[T6]at v1;rw[v1,hng p G,Rd.dZ v2];rw[iu,Nat.add_assoc,T6,aq,br (by omega)];rfl
  grind
 subst hnn;have I5:=g8 (P:=P) (s:={s with M:=λA q=>if A=b then vs[q]? else s.M A q}) c1 WO (w:=s.w) rfl;replace hf:(Builtin.firstCells f.size m (.slice a' m k)).run P s.w=.ok g.toArray s.w:=hf;have Xx:i*f.size+g.length<=(vs++R).length:=by grind
 have I:=run_storeCells_at P b (i*f.size) E g 0 (vs++R).toArray s.w r (by grind) z;simp only[ir]at I;have QV:((vs++R).toArray.toList.take (i*f.size)++g++(vs++R).toArray.toList.drop (i*f.size+g.length))=vs.take (i*f.size)++g++vs.drop (i*f.size+g.length)++R:=by grind
 rw[QV]at I;have q2:=S.T3 MY ZS;have he:(λq=>if i<=q/\q<i+m then(λq=>es (j+q)) (q-i)else es q)=G6 i j m es:=rfl;rw[he]at q2;obtain⟨t1,t2'⟩:=hh.dH hl hL hz1 hz2 hz3 r q2 (by grind) hM;have B:(Builtin.lenOf (.slice a' m k)).run P s.w=.ok m s.w:=by rw[O];rfl
 have T7:(Builtin.lenOf (.slice a' m k)).events P s.w #[]=#[]:=by rw[O];rfl
 refine⟨.value (.slice (aa ⟨b,0*f.size,ae⟩) (i+m) H),_,?_,?_,t1,t2',eH ?_⟩
 .have K:(Builtin.append_ #[t,t2] o.type #[.slice (aa ⟨b,0*f.size,ae⟩) i H,.slice a' m k]).run P s.w=.ok (.slice (aa ⟨b,0*f.size,ae⟩) (i+m) H) (s.w.setRow b (vs.take (i*f.size)++g++vs.drop (i*f.size+g.length)++R).toArray):=by unfold Builtin.append_;simp only[ik,la,nV,bL,hu,Z,bU,h.elem.run_sizeOf,dq,jA,b7,B,u,cj,oc,hf,dm,Nat.zero_mul,bC,I]
  grind[Go.Sem.run_bind,Go.Result.andThen_ok,Go.Sem.run_pure]
 .exact⟨.slice (aa ⟨b,0,ae⟩) 0 H,⟨_,_,H,H,rfl,u,by omega,Xr,rfl,λ_=>⟨b,rfl,rfl⟩⟩,by grind,λE2 k2 n2 zv WQ=>by rw[fV (bY.1 hl).1]at WQ;cases WQ;exact⟨bh _,λ_=>⟨_,hL,rfl⟩⟩⟩
 .intro e U;unfold Builtin.append_ at U;simp only[ik,la,nV,aM,bL,hu,Z,aO,h.elem.run_sizeOf,dq,jA,b7,B,T7,u,cj,oc,hf,dm,Nat.zero_mul,bC,I,
   rP,Sem.events_ite,events_underlying,events_sizeOf,Sem.events_pure]at U
  rcases dE g 0 (vs++R).toArray s.w _ r (by grind) z e U with h3|⟨p,_,_,rfl⟩
  .have h4:eY {s with M:=λA q=>if A=b then vs[q]? else s.M A q} #[e]:=eY.one (s9 (I5 e h3))
   exact h4.vK (b:=b) T5 (by simp) c2 (λA q v hv=>by grind) e (by simp)
  grind[jF]
section
variable {P:ar}{T:List (Nat×TI)}{o:au}{d:ak->D}{σ:List aP}
theorem bF.slice3B(hT:cO P T){t:aj}{x w y z:ak}(h:o.op=.slice t x (aa w) (aa y) (aa z)){H I:TI}{E:aj}(G:bD T t=aa H)(L:H.desc=.slice E)(M:bD T E=aa I){l g k q n:Nat}{v A u:IntKind}{i j m:Int}(O:d x=.e (.one (.bp l (.sl g k q n))))(Y:d w=.e (.one (.c (.int v i))))(X:d y=.e (.one (.c (.int A j))))(S:d z=.e (.one (.c (.int u m))))(h0:0<=i)(h1:i<=j)(h2:j<=m)(Z:m<=n):bF P o d σ (.e (.one .any)) σ:=by
 refine .quiet λst ρ hh hr=>?_;have s:=hr x;rw[O]at s;change gn σ st (ρ x) (.bp l _)at s;obtain⟨lv,⟨a,a0,cap,c0,J,U,V,N,Q,R⟩,_,_⟩:=s;have b:=hr w;rw[Y]at b;replace b:=eT b;generalize C:ρ w=vw at b;cases b;have p:=hr y;rw[X]at p;replace p:=eT p;generalize B:ρ y=vy at p;cases p;have r:=hr z;rw[S]at r;replace r:=eT r;generalize F:ρ z=vz at r;cases r;have f:=(hT t H G).run_underlying (w:=st.w);rw[L]at f;have K:(bc ab n cap (aa (.int v i)) (aa (.int A j)) (aa (.int u m))).run P st.w=.ok (i.toNat,j.toNat,m.toNat) st.w:=by simp[bc,run_sliceBound (P:=P) st.w u m cap _ (by omega) (by omega),run_sliceBound (P:=P) st.w A j m.toNat _ (by omega) (by omega),run_sliceBound (P:=P) st.w v i j.toNat _ (by omega) (by omega)]
 have W:(bc ab n cap (aa (.int v i)) (aa (.int A j)) (aa (.int u m))).events P st.w #[]=#[]:=by
  simp[bc,run_sliceBound (P:=P) st.w u m cap _ (by omega) (by omega),run_sliceBound (P:=P) st.w A j m.toNat _ (by omega) (by omega),run_sliceBound (P:=P) st.w v i j.toNat _ (by omega) (by omega),
   dF (P:=P) st.w u m cap _ (by omega) (by omega),dF (P:=P) st.w A j m.toNat _ (by omega) (by omega),dF (P:=P) st.w v i j.toNat _ (by omega) (by omega)]
 refine⟨.slice (if m.toNat=i.toNat then a else a.map (·.add (i.toNat*I.size))) (j.toNat-i.toNat) (m.toNat-i.toNat),?_,rfl,by simp[aw,h,J,C,B,F,Instr.sliceAt,f,Instr.slice,K,W]⟩;simp[aw,h,J,C,B,F,Instr.sliceAt,f,Instr.slice,K,(hT E I M).run_sizeOf]
end
section drop
variable {σ1 rest:List aP}{s:St}
def St.cut(s:St)(n:Nat):St:={s with β:=s.β.take n}
def gn.drop{v:ah}{a:A}(r:gn (σ1++rest) s v a)(d:Hc σ1.length a=ab):gn σ1 (s.cut σ1.length) v a:=by
 have lt:∀{l:Nat},bu (l+1) σ1.length=ab->l<σ1.length:=λh=>cV h;cases a with
 |c x=>exact r
 |any=>exact r
 |ptr l o =>
  have hl:=lt d;obtain⟨g,L,b,p,f⟩:=r;refine⟨λB i=>g B (by grind),L,b,?_,f⟩;simp only[St.cut,iN,hl,cj];exact p
 |ref l =>
  have hl:=lt d;obtain⟨g,L,p,f⟩:=r;refine⟨λB i=>g B (by grind),L,?_,f⟩;simp only[St.cut,iN,hl,cj];exact p
 |bp l w =>
  have hl:=lt d;obtain⟨lv,g,_,f⟩:=r;refine⟨lv,g,hl,λE k' n' es' i=>?_⟩;obtain⟨h1,h2⟩:=f E k' n' es' (by grind);refine⟨h1,λe=>?_⟩;obtain⟨L,j,m⟩:=h2 e;refine⟨L,?_,m⟩;simp only[St.cut,iN,hl,cj];exact j
 |vec l k n es =>
  have hl:=lt d;obtain⟨g,_,f⟩:=r;refine⟨g,hl,λE k' n' es' i=>?_⟩;obtain⟨h1,h2⟩:=f E k' n' es' (by grind);refine⟨h1,λe=>?_⟩;obtain⟨L,j,m⟩:=h2 e;refine⟨L,?_,m⟩;simp only[St.cut,iN,hl,cj];exact j
def dX.tp:∀{vs:List ah}{cs:List A},dX (σ1++rest) s vs cs->FD σ1.length cs=ab->dX σ1 (s.cut σ1.length) vs cs
 |[],[],_,_=>trivial
 |[],_::_,r,_=>r.elim
 |_::_,[],r,_=>r.elim
 |v::vs,c::cs,r,h=>by
  simp only[FD]at h;cases a:Hc σ1.length c with
  |false=>grind
  |true=>simp only[a]at h;exact⟨r.1.drop a,dX.tp r.2 h⟩
def m8.tp{v:ah}{e:E1}(r:m8 (σ1++rest) s v e)(h:Hd σ1.length e=ab):m8 σ1 (s.cut σ1.length) v e:=by
 cases e with
 |one a=>exact gn.drop r h
 |agg cs=>obtain⟨vs,h1,h2⟩:=r;exact⟨vs,h1,dX.tp h2 h⟩
def g6.tp:∀{vs:List ah}{cs:List E1},g6 (σ1++rest) s vs cs->x5 σ1.length cs=ab->g6 σ1 (s.cut σ1.length) vs cs
 |[],[],_,_=>trivial
 |[],_::_,r,_=>r.elim
 |_::_,[],r,_=>r.elim
 |v::vs,c::cs,r,h=>by
  simp only[x5]at h;cases a:Hd σ1.length c with
  |false=>grind
  |true=>simp only[a]at h;exact⟨m8.tp r.1 a,g6.tp r.2 h⟩
def dk.drop{v:ah}{d:D}(r:dk (σ1++rest) s v d)(h:vS σ1.length d=ab):dk σ1 (s.cut σ1.length) v d:=by
 cases d with
 |e x=>exact m8.tp r h
 |eX xs=>obtain⟨vs,h1,h2⟩:=r;exact⟨vs,h1,g6.tp h2 h⟩
 |any=>trivial
def cR.drop{σ0:List aP}{s0:St}(st:cR σ0 s0 (σ1++rest) s)(a:σ0.length<=σ1.length):cR σ0 s0 σ1 (s.cut σ1.length):=by refine⟨st.size,st.fb,st.mem,st.iV,λL c b d=>st.vd L (fW c) b d,?_,st.os,st.tape,st.output,st.own⟩;intro l B L hB c;obtain⟨B',L',h1,h2,e⟩:=st.box l B L hB c;have hl:l<σ1.length:=cU (bY.1 hB).1 a;rw[jz hl]at h1;exact⟨B',L',h1,by simp only[St.cut,iN,hl,cj];exact h2,e⟩
def gn.r9{σ:List aP}{v:ah}{a:A}(hl:s.β.length=σ.length)(r:gn σ s v a):Hc σ.length a=ab:=by
 have ok:∀{l:Nat},l<σ.length->bu (l+1) σ.length=ab:=λh=>rF h;have lt:∀{l:Nat} {L:Loc},s.β[l]?=aa L->l<σ.length:=λh=>by grind
 cases a with
 |c x=>rfl
 |any=>rfl
 |ptr l o=>obtain⟨_,L,b,d,_⟩:=r;exact ok (lt d)
 |ref l=>obtain⟨_,L,d,_⟩:=r;exact ok (lt d)
 |bp l w=>obtain⟨lv,_,h,_⟩:=r;exact ok h
 |vec l k n es=>exact ok r.2.1
def dX.r9{σ:List aP}(hl:s.β.length=σ.length):∀{vs:List ah}{cs:List A},dX σ s vs cs->FD σ.length cs=ab
 |[],[],_=>rfl
 |[],_::_,r=>r.elim
 |_::_,[],r=>r.elim
 |v::vs,c::cs,r=>by simp only[FD,r.1.r9 hl];exact dX.r9 hl r.2
def m8.r9{σ:List aP}(hl:s.β.length=σ.length){v:ah}{e:E1}(r:m8 σ s v e):Hd σ.length e=ab:=by
 cases e with
 |one a=>exact gn.r9 hl r
 |agg cs=>obtain⟨vs,_,h⟩:=r;exact dX.r9 hl h
def g6.r9{σ:List aP}(hl:s.β.length=σ.length):∀{vs:List ah}{cs:List E1},g6 σ s vs cs->x5 σ.length cs=ab
 |[],[],_=>rfl
 |[],_::_,r=>r.elim
 |_::_,[],r=>r.elim
 |v::vs,c::cs,r=>by simp only[x5,m8.r9 hl r.1];exact g6.r9 hl r.2
def dk.r9{σ:List aP}(hl:s.β.length=σ.length){v:ah}{d:D}(r:dk σ s v d):vS σ.length d=ab:=by
 cases d with
 |e x=>exact m8.r9 hl r
 |eX xs=>obtain⟨vs,_,h⟩:=r;exact g6.r9 hl h
 |any=>rfl
def DN(n:Nat)(σ0:List aP)(l:Nat)(B:aP):Prop:=(∃E cs,B=.cells E cs/\FD n cs=ab)∨σ0[l]?=aa B∨(∃N φ r r',B=.loop N φ r/\σ0[l]?=aa (.loop N φ r'))∨((∀E cs,B≠.cells E cs)/\∀N φ r,B≠.loop N φ r)
def aF.PV{s0:St}{σ0:List aP}(j:aF σ0 s0)(a:σ0.length=σ1.length)(w:∀(l:Nat)(B:aP),σ1[l]?=aa B->DN σ1.length σ0 l B)(h:aF (σ1++rest) s):aF σ1 (s.cut σ1.length):=by
 have hl:σ1.length<=s.β.length:=by rw[h.len];simp
 refine⟨h.mem,by simp[St.cut,hl],?_,?_,?_,λb i=>⟨(h.own b i).1,λL d=>(h.own b i).2 L (fW d)⟩⟩
 .intro l B L hB d;have m:l<σ1.length:=(bY.1 hB).1;simp only[St.cut,iN,m,cj]at d;have c:=h.box l B L (by grind) d;have f:∃o,s0.β[l]?=aa o:=⟨_,br (by rw[j.len,a];exact m)⟩
  obtain⟨o,f⟩:=f;have A:=j.len.trans a;cases B with
  |cells E cs =>
   obtain⟨b,vs,h1,h2,p,u⟩:=c;refine⟨b,vs,h1,h2,dX.tp p ?_,u⟩;rcases w l _ hB with⟨_,_,e,q⟩|q|⟨_,_,_,_,e,_⟩|q
   .grind
   .obtain⟨_,_,_,_,x,_⟩:=j.box l _ o q f;exact a▸x.r9 j.len
   .cases e
   grind
  |vec E k n es=>exact c
  |b8 H=>exact c
  |dead=>trivial
  |loop N φ r =>
   obtain⟨l',tmps,fn,z,h1,h2,p,u,C⟩:=c;have key:∃r',σ0[l]?=aa (.loop N φ r'):=by
    rcases w l _ hB with⟨_,_,e,_⟩|q|⟨_,_,_,r',e,q⟩|q
    .cases e
    .grind
    .grind
    grind
   obtain⟨r',q⟩:=key;obtain⟨_,_,_,_,_,_,_,y,_⟩:=j.box l _ o q f;exact⟨l',tmps,fn,z,h1,h2,p,λt=>(u t).drop (a▸(y t).r9 j.len),C⟩
  |qT=>exact c
  |buf E k n es=>exact c
 .intro l l' L L' d g b i v;simp only[St.cut,iN]at d g;split at d<;>split at g<;>first|exact h.eB l l' L L' d g b i v|grind|grind
 .intro L d b i;exact h.lt L (fW d) b i
def aF.Uv{s0:St}(a:aF σ1 s0)(h:aF (σ1++rest) s):aF σ1 (s.cut σ1.length):=a.PV rfl (λ_ _ h=>.inr (.inl h)) h
def OA.BE{P:ar}{X:Cx P}{N:Nat}{all:List au}{o:au}{φ:Fr}{σ:List aP}{E:aj}{k n:Nat}{es:Nat->List C}(h:OA X N all o φ σ (.e (.one (.vec σ.length k n es))) (σ++[.vec E k n es])):OA X N all o φ σ (.e (.one (.c (.sl af k n es)))) σ:=by
 intro s a f hh b kk cs S i rest d hi hK;refine h s a f hh b kk cs S i rest d hi λv s' hv iY st=>?_;have j:eu s' (s'.cut σ.length):=⟨rfl,λ_ _ _ h=>h,λ_ _ _=>rfl,iY.mem,λb d=>d.imp id λ⟨L,g,d⟩=>⟨L,fW g,d⟩⟩
 exact .ghost j (hK v (s'.cut σ.length) hv.1 (hh.Uv iY) (st.drop (bh _)))
end drop
end Go.AM
