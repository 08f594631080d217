/- Part 1. No condition. -/
import Derived.Tactics2
import Derived.LaidSub
import Derived.LaidLaws
import Derived.LaidHandle
import Derived.Conc.Own
import Derived.Conc.Events
import Derived.Conc.Listed
import Derived.Laws.CopyRow
import Derived.Laws.AppendOwn
import Derived.Laws.Rows
import Derived.Laws.Strings
import Derived.Laws.Cells
import Derived.Lib.Strings
import Derived.Laws.Slices
import Derived.Laws.StructEq
import Derived.Orders
set_option linter.all false
set_option maxHeartbeats 8000000
open Go.Conc (G)
open Go renaming Value → ah, Program → aq, TypeId → aj, Oper → au, Operand → ak, undef → ai, execOp → aw, World → aA, Goroutine → av, stepG → aH, Frame → aR, FuncId → aJ
open Option renaming some → aa, none → ae
open Bool renaming true → ab, false → af
open Go.World renaming cell? → aV
open List renaming getD_eq_getElem?_getD → ar, range → bg
open Go.Sem renaming events_bind → aM
open Go.Result renaming evThen_ok → aO
open Go.Instr renaming sliceBounds → bc, sureAddr → bq
open Go.Region renaming wanted → bd, ready → a9
open Nat renaming beq → aB, ble → bu
open Go.Op renaming equalIn → aY, bytesLess → bk
namespace Go
section
set_option linter.defProp false
set_option linter.deprecated false
def ay:=@_root_.trivial
def br:=@_root_.List.getElem?_eq_getElem
def ba:=@_root_.decide_eq_true_eq
def aE:=@_root_.and_true
def bO:=@_root_.decide_eq_false_iff_not
def aG:=@_root_.true_and
def bH:=@_root_.List.mem_of_getElem?
def bY:=@_root_.List.getElem?_eq_some_iff
def bP:=@_root_.Nat.eq_of_beq_eq_true
def b9:=@_root_.Int.toNat_natCast
def bh:=@_root_.Nat.le_refl
def bR:=@_root_.Bool.and_eq_true
def bU:=@_root_.Go.Result.andThen_ok
def bC:=@_root_.Nat.zero_add
def cV:=@_root_.Nat.le_of_ble_eq_true
def dO:=@_root_.Array.getD_eq_getD_getElem?
def bL:=@_root_.Go.Sem.run_bind
def cU:=@_root_.Nat.lt_of_lt_of_le
def c7:=@_root_.List.length_append
def aZ:=@_root_.if_neg
def dm:=@_root_.Option.some.injEq
def dM:=@_root_.List.getElem_of_mem
def dh:=@_root_.List.take_length
def c8:=@_root_.decide_eq_true
def eC:=@_root_.Nat.mul_le_mul_right
def cD:=@_root_.Nat.lt_or_ge
def bm:=@_root_.if_pos
def fT:=@_root_.Array.getElem?_eq_getElem
def eD:=@_root_.beq_eq_false_iff_ne
def gw:=@_root_.List.getElem?_append_right
def fU:=@_root_.List.getElem?_set_self
def ij:=@_root_.Array.getElem?_eq_some_iff
def jf:=@_root_.List.eq_nil_of_length_eq_zero
def dn:=@_root_.Go.Sem.run_pure
def fb:=@_root_.not_true_eq_false
def fV:=@_root_.List.mem_of_mem_take
def b7:=@_root_.if_false
def eU:=@_root_.List.length_cons
def fW:=@_root_.List.mem_singleton
def ik:=@_root_.List.getElem?_toArray
def jy:=@_root_.List.getElem?_append_left
def eE:=@_root_.List.mem_cons
def j5:=@_root_.List.pairwise_iff_getElem
def cj:=@_root_.if_true
def fL:=@_root_.Nat.not_lt_zero
def jg:=@_root_.List.length_singleton
def fX:=@_root_.List.mem_append
def gx:=@_root_.List.length_nil
def fC:=@_root_.Bool.true_and
def iL:=@_root_.List.getElem?_take
def jh:=@_root_.Array.length_toList
def la:=@_root_.List.getElem?_cons_zero
def iM:=@_root_.List.ext_getElem?
def im:=@_root_.Option.getD_some
def ji:=@_root_.List.pairwise_cons
def j6:=@_root_.List.getElem?_set_ne
def lb:=@_root_.List.take_append_drop
def jz:=@_root_.Bool.false_eq_true
def dA:=@_root_.congrArg
def mR:=@_root_.Array.getElem?_replicate
def iN:=@_root_.decide_eq_false
def iO:=@_root_.List.append_nil
def jA:=@_root_.beq_self_eq_true
def j7:=@_root_.Bool.not_eq_true'
def jB:=@_root_.Bool.or_eq_true
def nT:=@_root_.List.getElem?_cons_succ
def ld:=@_root_.List.take_add_one
def iq:=@_root_.Nat.add_zero
def iP:=@_root_.Nat.le_trans
def iQ:=@_root_.Nat.beq_refl
def lS:=@_root_.List.append_assoc
def vE:=@_root_.Array.getElem?_setIfInBounds_self_of_lt
def mS:=@_root_.Nat.eq_zero_or_pos
def ir:=@_root_.Nat.add_mul
def nU:=@_root_.List.mem_iff_getElem
def mT:=@_root_.List.mem_cons_self
def lf:=@_root_.List.mem_filter
def lg:=@_root_.List.length_map
def lh:=@_root_.List.foldl_cons
def qK:=@_root_.Array.mapM_eq_mapM_toList
def hI:=@_root_.beq_iff_eq
def mU:=@_root_.List.getElem?_map
def j8:=@_root_.Bool.not_true
def oT:=@_root_.Array.toArray_toList
def vF:=@_root_.List.findIdx?_eq_some_iff_getElem
def nV:=@_root_.not_false_eq_true
def nW:=@_root_.bne_self_eq_false
def qL:=@_root_.Option.map_eq_some_iff
def vG:=@_root_.Array.getElem?_setIfInBounds_ne
def dq:=@_root_.ne_eq
def nY:=@_root_.Option.bind_some
def oU:=@_root_.List.getElem?_drop
def lT:=@_root_.Prod.mk.injEq
def lj:=@_root_.Nat.succ_mul
def qM:=@_root_.List.mem_cons_of_mem
def oV:=@_root_.of_decide_eq_true
def nZ:=@_root_.Option.map_some
def lk:=@_root_.Nat.zero_le
def j9:=@_root_.Nat.mod_lt
def n3:=@_root_.List.mapM_cons
def pK:=@_root_.Bool.and_eq_false_iff
def mm:=@_root_.List.nil_append
def jC:=@_root_.decide_true
def kA:=@_root_.decide_false
def pL:=@_root_.Nat.div_lt_of_lt_mul
def kB:=@_root_.List.mem_map
def n5:=@_root_.List.not_mem_nil
def n6:=@_root_.Bool.not_eq_true
def lG:=@_root_.Nat.sub_zero
def pM:=@_root_.Nat.add_sub_cancel
def pO:=@_root_.Int.emod_lt_of_pos
def pP:=@_root_.Bool.not_eq_false'
def n7:=@_root_.UInt8.toNat_inj
def rC:=@_root_.Nat.ble_eq_true_of_le
def rD:=@_root_.List.getElem?_eq_none
def n8:=@_root_.List.mem_range
def rE:=@_root_.List.mem_of_mem_drop
def n9:=@_root_.Bool.not_false
def pQ:=@_root_.Nat.div_add_mod'
def rF:=@_root_.Int.toNat_of_nonneg
def pR:=@_root_.Int.emod_nonneg
def pT:=@_root_.Bool.eq_iff_iff
def lH:=@_root_.bne_iff_ne
def uW:=@_root_.Nat.le_mul_of_pos_right
def uX:=@_root_.List.range_succ_eq_map
def uY:=@_root_.Array.mem_of_getElem?
def mn:=@_root_.Nat.not_lt
def rG:=@_root_.List.length_drop
def rH:=@_root_.List.getElem_mem
def rI:=@_root_.List.ext_getElem
def rJ:=@_root_.List.cons_append
def pU:=@_root_.List.map_cons
def uZ:=@_root_.List.pairwise_append
def u4:=@_root_.Bool.or_eq_false_iff
def rK:=@_root_.Option.some.inj
def u5:=@_root_.Nat.mul_le_mul_left
def rL:=@_root_.Bool.false_and
def zj:=@_root_.List.drop_eq_getElem_cons
def u6:=@_root_.List.flatMap_cons
def zk:=@_root_.Option.isSome_iff_exists
def zl:=@_root_.Nat.lt_succ_iff_lt_or_eq
def mo:=@_root_.or_false
def zm:=@_root_.Nat.add_sub_cancel_left
def u7:=@_root_.List.drop_length
def zn:=@_root_.Array.getElem?_eq_none
def zo:=@_root_.Array.getElem?_toList
def zp:=@_root_.List.getElem?_of_mem
def zq:=@_root_.Nat.add_sub_cancel'
def zr:=@_root_.List.filter_eq_self
def rM:=@_root_.Go.Sem.run_ite
end
end Go
namespace Go.AM
inductive C where
  | int (k:IntKind) (n:Int)
  | bool (b:Bool)
  | str (s:List UInt8)
  | sl (tight:Bool) (k n:Nat) (es:Nat->List C)
  | rp (cs:List C)
  | hY
  | ifs (t:aj) (c:C)
  | FJ (t:aj) (cs:List C)
  | iw
  | fn (f:Fn) (first cap:List C)
  | xZ
  | val (x:ah)
inductive BP where
  | sl (g k o n:Nat)
  | el (g k i f:Nat)
def BP.g:BP->Nat
  | .sl g _ _ _=>g
  | .el g _ _ _=>g
def BP.K:BP->ah->ah->Prop
  | .sl _ k o n,lv,v=>∃a a0 cap c0,v=.slice a n cap/\n<=cap/\o+cap=c0/\c0<=9223372036854775807/\lv=.slice a0 0 c0/\(0<cap->∃b,a0=aa ⟨b,0,ae⟩/\a=aa ⟨b,o*k,ae⟩)
  | .el _ k i f,lv,v=>∃b c0,lv=.slice (aa ⟨b,0,ae⟩) 0 c0/\v=.pointer (aa ⟨b,i*k+f,ae⟩)
inductive A where
  | c (x:C)
  | ptr (l off:Nat)
  | vec (l k n:Nat) (es:Nat->List C)
  | ref (l:Nat)
  | bp (l:Nat) (w:BP)
  | any
abbrev A.v(x:ah):A:=.c (.val x)
inductive E1 where
  | one (a:A)
  | agg (cs:List A)
inductive D where
  | e (x:E1)
  | eX (xs:List E1)
  | any
abbrev Fr:=List (Nat×D)
def look:Fr->Nat->D
  | [],_=>.any
  | (i,d)::r,t=>cond (aB i t) d (look r t)
inductive aP where
  | cells (E:aj) (cs:List A)
  | vec (E:aj) (k n:Nat) (es:Nat->List C)
  | b8 (H:ah->(Nat->Option Obj)->Prop)
  | dead
  | loop (N:Nat) (φ:Fr) (r:Loop)
  | qP
  | buf (E:aj) (k n:Nat) (es:Nat->List C)
@[simp] def aP.gr:aP->Bool
  | .vec _ _ _ _=>ab
  | .buf _ _ _ _=>ab
  | _=>af
structure Loc where
  v:ah
  bs:List Nat
abbrev Mem:=Nat->Nat->Option ah
structure St where
  β:List Loc
  M:Mem
  w:aA
  own:Nat->Prop
def bA:IntKind->Int->Prop
  | .i8,n=>-128<=n/\n<=127
  | .i16,n=>-32768<=n/\n<=32767
  | .i32,n=>-2147483648<=n/\n<=2147483647
  | .i64,n=>-9223372036854775808<=n/\n<=9223372036854775807
  | .u8,n=>0<=n/\n<=255
  | .u16,n=>0<=n/\n<=65535
  | .u32,n=>0<=n/\n<=4294967295
  | .u64,n=>0<=n/\n<=18446744073709551615
def cE:ah->Bool
  | .agg _|.tuple _=>af
  | _=>ab
def BP.K.cell{w:BP}{lv v:ah}(h:w.K lv v):cE v=ab:=by
  cases w with
  | sl=>obtain⟨_,_,_,_,rfl,_⟩:=h;rfl
  | el=>obtain⟨_,_,_,rfl⟩:=h;rfl
inductive Rd (M:Mem):ah->C->Prop
  | int {k:IntKind} {n:Int} (h:bA k n):Rd M (.int k n) (.int k n)
  | bool {b:Bool}:Rd M (.bool b) (.bool b)
  | str {s:ByteArray} {l:List UInt8} (h:s.data.toList=l) (hl:l.length<=9223372036854775807):Rd M (.string s) (.str l)
  | sl {a:Option Addr} {n cap:Nat} {tight:Bool} {k:Nat} {es:Nat->List C} (b off:Nat) (f:Nat->Nat->ah)
      (DI:n<=cap) (hb:cap<=9223372036854775807) (ht:tight=ab->cap=n) (hk:∀i,i<n->(es i).length=k)
      (ha:0<n->a=aa ⟨b,off,ae⟩)
      (hm:∀i,i<n->∀j c,(es i)[j]?=aa c->M b (off+i*k+j)=aa (f i j))
      (hr:∀i,i<n->∀j c,(es i)[j]?=aa c->Rd M (f i j) c):Rd M (.slice a n cap) (.sl tight k n es)
  | rp {cs:List C} (b off:Nat) (f:Nat->ah)
      (hm:∀j c,cs[j]?=aa c->M b (off+j)=aa (f j))
      (hr:∀j c,cs[j]?=aa c->Rd M (f j) c):Rd M (.pointer (aa ⟨b,off,ae⟩)) (.rp cs)
  | hY:Rd M (.pointer ae) .hY
  | ifs {t:aj} {v:ah} {c:C} (h:Rd M v c) (hc:cE v=ab):Rd M (.iface t v) (.ifs t c)
  | FJ {t:aj} {vs:List ah} {cs:List C} (hl:vs.length=cs.length)
      (f:Nat->ah) (hf:∀j,j<vs.length->vs[j]?=aa (f j)) (hr:∀j c,cs[j]?=aa c->Rd M (f j) c):Rd M (.iface t (.agg vs.toArray)) (.FJ t cs)
  | iw:Rd M .nilIface .iw
  | fn {g:Fn} {first cap:List C} (fs cs:List ah) (hl:fs.length=first.length) (Ds:cs.length=cap.length) (f1 f2:Nat->ah)
      (h1:∀j,j<fs.length->fs[j]?=aa (f1 j)) (h2:∀j,j<cs.length->cs[j]?=aa (f2 j))
      (r1:∀j c,first[j]?=aa c->Rd M (f1 j) c) (r2:∀j c,cap[j]?=aa c->Rd M (f2 j) c):Rd M (.func g fs.toArray cs.toArray) (.fn g first cap)
  | xZ:Rd M .nilFunc .xZ
  | val {x:ah} (h:cE x=ab):Rd M x (.val x)
theorem Rd.dZ{M:Mem}{v x:ah}(h:Rd M v (.val x)):v=x:=by cases h;rfl
def Rd.cell{M:Mem}{v:ah}{c:C}(h:Rd M v c):cE v=ab:=by cases h<;>first|rfl|assumption
def Rd.mono{M M':Mem}(d:∀b o v,M b o=aa v->M' b o=aa v){v:ah}{c:C}(h:Rd M v c):Rd M' v c:=by
  induction h with
  | int h=>exact .int h
  | bool=>exact .bool
  | str h hl=>exact .str h hl
  | sl b off f a e l hk ha hm hr ih =>
    exact .sl b off f a e l hk ha (λi hi j c hj=>d _ _ _ (hm i hi j c hj)) (λi hi j c hj=>ih i hi j c hj)
  | rp b off f hm hr ih=>exact .rp b off f (λj c hj=>d _ _ _ (hm j c hj)) (λj c hj=>ih j c hj)
  | hY=>exact .hY
  | ifs h g ih=>exact .ifs ih g
  | FJ hl f k hr ih=>exact .FJ hl f k (λj c hj=>ih j c hj)
  | iw=>exact .iw
  | fn fs cs hl Ds f1 f2 h1 h2 r1 r2 ih1 ih2=>exact .fn fs cs hl Ds f1 f2 h1 h2 (λj c hj=>ih1 j c hj) (λj c hj=>ih2 j c hj)
  | xZ=>exact .xZ
  | val h=>exact .val h
def gn(σ:List aP)(s:St)(v:ah):A->Prop
  | .c x=>Rd s.M v x
  | .ptr l off=>(∀B,σ[l]?=aa B->B.gr=af)/\∃L b,s.β[l]?=aa L/\L.v=.pointer (aa ⟨b,0,ae⟩)/\v=.pointer (aa ⟨b,off,ae⟩)
  | .vec l k n es=>Rd s.M v (.sl af k n es)/\l<σ.length/\∀E k' n' es',σ[l]?=aa (aP.vec E k' n' es')->n<=n'/\(n'=n->∃L,s.β[l]?=aa L/\v=L.v)
  | .ref l=>(∀B,σ[l]?=aa B->B.gr=af)/\∃L,s.β[l]?=aa L/\v=L.v/\cE v=ab
  | .bp l w=>∃a,w.K a v/\l<σ.length/\∀E k n es,σ[l]?=aa (aP.buf E k n es)->w.g<=n/\(w.g=n->∃L,s.β[l]?=aa L/\L.v=a)
  | .any=>cE v=ab
def dX(σ:List aP)(s:St):List ah->List A->Prop
  | [],[]=>True
  | v::vs,a::al=>gn σ s v a/\dX σ s vs al
  | _,_=>False
def m7(σ:List aP)(s:St)(v:ah):E1->Prop
  | .one a=>gn σ s v a
  | .agg cs=>∃vs:List ah,v=.agg vs.toArray/\dX σ s vs cs
def gZ(σ:List aP)(s:St):List ah->List E1->Prop
  | [],[]=>True
  | v::vs,a::al=>m7 σ s v a/\gZ σ s vs al
  | _,_=>False
def dj(σ:List aP)(s:St)(v:ah):D->Prop
  | .e x=>m7 σ s v x
  | .eX xs=>∃vs:List ah,v=.tuple vs.toArray/\gZ σ s vs xs
  | .any=>True
def cg(σ:List aP)(s:St):List ah->List D->Prop
  | [],[]=>True
  | v::vs,a::al=>dj σ s v a/\cg σ s vs al
  | _,_=>False
structure Flat(M:Mem)(k n:Nat)(es:Nat->List C)(vs:List ah):Prop where
  len:vs.length=n*k
  width:∀i,i<n->(es i).length=k
  rd:∀i,i<n->∀(j:Nat) (c:C),(es i)[j]?=aa c->∃v,vs[i*k+j]?=aa v/\Rd M v c
def Flat.mono{M M':Mem}(a:∀b o v,M b o=aa v->M' b o=aa v){k n:Nat}{es:Nat->List C}{vs:List ah}(h:Flat M k n es vs):Flat M' k n es vs :=
  ⟨h.len,h.width,λi hi j c hj=>let ⟨v,h1,h2⟩:=h.rd i hi j c hj;⟨v,h1,h2.mono a⟩⟩
def et(σ:List aP)(s:St):aP->Loc->Prop
  | .cells E cs,L=>∃b vs,L=⟨.pointer (aa ⟨b,0,ae⟩),[b]⟩/\s.w.heap[b]?=aa (.cells (List.toArray vs) E (0,0))/\dX σ s vs cs/\∀o,s.M b o=ae
  | .vec E k n es,L=>Rd s.M L.v (.sl af k n es) /\
      (((L.bs=[]/\n=0)/\Rd s.M L.v (.sl ab k n es)) ∨
       ∃b cap vs,L=⟨.slice (aa ⟨b,0,ae⟩) n cap,[b]⟩/\s.w.heap[b]?=aa (.cells (List.toArray vs) E (0,0))/\vs.length=cap*k/\∀o,n*k<=o->s.M b o=ae)
  | .b8 H,L=>∃c,H L.v c/\(∀(b:Nat) (o:Obj),c b=aa o->s.w.heap[b]?=aa o)/\(∀b,b∈L.bs↔(c b).isSome=ab)/\∀b∈L.bs,∀o,s.M b o=ae
  | .dead,_=>True
  | .loop N φ r,L=>∃l tmps fn df,L=⟨.func (.yield l) #[] #[],[l]⟩/\s.w.heap[l]?=aa (.loop {r with tmps:=tmps,fn:=fn,defers:=df})/\tmps.size=N/\(∀t,dj σ s (tmps.getD t ai) (look φ t))/\∀o,s.M l o=ae
  | .qP,L=>∃r:Nat,L=⟨.int .i64 r,[r]⟩/\s.w.heap[r]?=aa (.deferred (aa []))/\∀o,s.M r o=ae
  | .buf E k n es,L=>(n=0/\L=⟨.slice ae 0 0,[]⟩)∨∃b a vs zs,L=⟨.slice (aa ⟨b,0,ae⟩) 0 a,[b]⟩/\s.w.heap[b]?=aa (.cells (List.toArray (vs++zs)) E (0,0))/\(vs++zs).length=a*k/\n<=a/\a<=9223372036854775807/\Flat s.M k n es vs/\∀o,s.M b o=ae
structure aF(σ:List aP)(s:St):Prop where
  mem:∀b o v,s.M b o=aa v->s.w.cell? ⟨b,o,ae⟩=aa v
  len:s.β.length=σ.length
  box:∀(l:Nat) (B:aP) (L:Loc),σ[l]?=aa B->s.β[l]?=aa L->et σ s B L
  eB:∀(l l':Nat) (L L':Loc),s.β[l]?=aa L->s.β[l']?=aa L'->∀b∈L.bs,b∈L'.bs->l=l'
  lt:∀L∈s.β,∀b∈L.bs,b<s.w.heap.size
  own:∀b,s.own b->b<s.w.heap.size/\∀L∈s.β,b∉L.bs
def gy:aP->Loc->aP->Loc->Prop
  | .vec _ _ n _,L,.vec _ _ a _,L'=>(a=n->L'.v=L.v)/\n<=a
  | .vec _ _ _ _,_,.dead,_=>True
  | .vec _ _ _ _,_,_,_=>False
  | .buf _ _ n _,L,.buf _ _ a _,L'=>(a=n->L'.v=L.v)/\n<=a
  | .buf _ _ _ _,_,.dead,_=>True
  | .buf _ _ _ _,_,_,_=>False
  | _,_,.vec _ _ _ _,_=>False
  | _,_,.buf _ _ _ _,_=>False
  | .dead,L,.dead,L'=>L'.v=L.v
  | .dead,_,_,_=>False
  | .qP,L,.qP,L'=>L'.v=L.v
  | .qP,_,_,_=>False
  | _,_,.qP,_=>False
  | _,L,_,L'=>L'.v=L.v
structure Ext(σ:List aP)(s:St)(σ':List aP)(s':St):Prop where
  mem:∀b o v,s.M b o=aa v->s'.M b o=aa v
  box:∀(l:Nat) (B:aP) (L:Loc),σ[l]?=aa B->s.β[l]?=aa L->∃B' L',σ'[l]?=aa B'/\s'.β[l]?=aa L'/\gy B L B' L'
structure Step(σ:List aP)(s:St)(σ':List aP)(s':St):Prop where
  size:s.w.heap.size<=s'.w.heap.size
  fe:∀b,b<s.w.heap.size->(∀L∈s.β,b∉L.bs)->s'.w.heap[b]?=s.w.heap[b]?
  mem:∀b o v,s.M b o=aa v->s'.M b o=aa v
  iU:∀b,b<s.w.heap.size->(∀L∈s.β,b∉L.bs)->∀o,s'.M b o=s.M b o
  vb:∀L'∈s'.β,∀b∈L'.bs,s.w.heap.size<=b∨∃L∈s.β,b∈L.bs
  box:∀(l:Nat) (B:aP) (L:Loc),σ[l]?=aa B->s.β[l]?=aa L->∃B' L',σ'[l]?=aa B'/\s'.β[l]?=aa L'/\gy B L B' L'
  os:s'.w.os=s.w.os
  tape:s'.w.tape=s.w.tape
  output:s'.w.output=s.w.output
  own:s'.own=s.own
structure cR(σ:List aP)(s:St)(σ':List aP)(s':St):Prop where
  size:s.w.heap.size<=s'.w.heap.size
  fe:∀b,s.own b->s'.w.heap[b]?=s.w.heap[b]?
  mem:∀b o v,s.M b o=aa v->s'.M b o=aa v
  iU:∀b,b<s.w.heap.size->(∀L∈s.β,b∉L.bs)->∀o,s'.M b o=s.M b o
  vb:∀L'∈s'.β,∀b∈L'.bs,s.w.heap.size<=b∨∃L∈s.β,b∈L.bs
  box:∀(l:Nat) (B:aP) (L:Loc),σ[l]?=aa B->s.β[l]?=aa L->∃B' L',σ'[l]?=aa B'/\s'.β[l]?=aa L'/\gy B L B' L'
  os:s'.w.os=s.w.os
  tape:s'.w.tape=s.w.tape
  output:s'.w.output=s.w.output
  own:s'.own=s.own
structure ck(s s':St):Prop where
  β:s'.β=s.β
  M:s'.M=s.M
  own:s'.own=s.own
  size:s.w.heap.size<=s'.w.heap.size
  fe:∀b,(s.own b∨∃L∈s.β,b∈L.bs)->s'.w.heap[b]?=s.w.heap[b]?
  mem:∀b o v,s.M b o=aa v->s'.w.cell? ⟨b,o,ae⟩=aa v
  os:s'.w.os=s.w.os
  tape:s'.w.tape=s.w.tape
  output:s'.w.output=s.w.output
def oa(s:St)(e:Event):Prop :=
  match e.loc with
  | .cell a=>e.sync=af/\a.spot=ae/\(False∨((∃L∈s.β,a.block∈L.bs)/\(e.write=ab->s.M a.block a.off=ae))∨(e.write=af/\∃v,s.M a.block a.off=aa v))
  | .obj r=>e.sync=af/\(False∨∃L∈s.β,r∈L.bs)
  | .mark m=>m=.noRoom∨∃f,m=.extern f
  | _=>False
def eY(s:St)(es:Array Event):Prop:=∀e∈es,oa s e
def eY.nil{s:St}:eY s #[]:=by intro e h;grind
def gy.refl(B:aP)(L:Loc):gy B L B L:=by cases B<;>simp[gy]
def gy.trans{B B' XJ:aP}{L L' Z0:Loc}(h:gy B L B' L')(a:gy B' L' XJ Z0):gy B L XJ Z0:=by
  cases B<;>cases B'<;>cases XJ<;>simp_all[gy]
  all_goals
    grind
def Step.refl(σ:List aP)(s:St):Step σ s σ s :=
  ⟨bh _,λ_ _ _=>rfl,λ_ _ _ h=>h,λ_ _ _ _=>rfl,λL h b a=>.inr ⟨L,h,a⟩,λ_ B L h c=>⟨B,L,h,c,.refl _ _⟩,rfl,rfl,rfl,rfl⟩
def Step.trans{σ σ1 σ2:List aP}{s e s2:St}(h:Step σ s σ1 e)(k:Step σ1 e σ2 s2):Step σ s σ2 s2:=by
  have out:∀b,b<s.w.heap.size->(∀L∈s.β,b∉L.bs)->∀L∈e.β,b∉L.bs:=by
    intro b a c L d f;rcases h.vb L d b f with h1|⟨x,t,n⟩
    · omega
    grind
  refine⟨iP h.size k.size,?_,λb o v j=>k.mem _ _ _ (h.mem _ _ _ j),?_,?_,?_,k.os.trans h.os,k.tape.trans h.tape,k.output.trans h.output,k.own.trans h.own⟩
  · intro b a c
    rw[k.fe b (cU a h.size) (out b a c),h.fe b a c]
  · intro b a c o
    rw[k.iU b (cU a h.size) (out b a c),h.iU b a c]
  · intro L d b a
    rcases k.vb L d b a with h1|⟨L1,p,i⟩
    · exact .inl (iP h.size h1)
    grind
  · intro l B L hB d
    obtain⟨B1,L1,h1,h2,u⟩:=h.box l B L hB d;obtain⟨g,m,k1,r,q⟩:=k.box l B1 L1 h1 h2;exact⟨g,m,k1,r,u.trans q⟩
def cR.refl(σ:List aP)(s:St):cR σ s σ s :=
  ⟨bh _,λ_ _=>rfl,λ_ _ _ h=>h,λ_ _ _ _=>rfl,λL h b a=>.inr ⟨L,h,a⟩,λ_ B L h c=>⟨B,L,h,c,.refl _ _⟩,rfl,rfl,rfl,rfl⟩
def cR.trans{σ σ1 σ2:List aP}{s d s2:St}(h:cR σ s σ1 d)(k:cR σ1 d σ2 s2):cR σ s σ2 s2:=by
  have out:∀b,b<s.w.heap.size->(∀L∈s.β,b∉L.bs)->∀L∈d.β,b∉L.bs:=by
    intro b a f L c e;rcases h.vb L c b e with h1|⟨x,t,n⟩
    · omega
    grind
  refine⟨iP h.size k.size,?_,λb o v j=>k.mem _ _ _ (h.mem _ _ _ j),?_,?_,?_,k.os.trans h.os,k.tape.trans h.tape,k.output.trans h.output,k.own.trans h.own⟩
  · intro b a
    rw[k.fe b (by rw[h.own];exact a),h.fe b a]
  · intro b a f o
    rw[k.iU b (cU a h.size) (out b a f),h.iU b a f]
  · intro L c b a
    rcases k.vb L c b a with h1|⟨L1,p,i⟩
    · exact .inl (iP h.size h1)
    grind
  · intro l B L hB c
    obtain⟨B1,L1,h1,h2,u⟩:=h.box l B L hB c;obtain⟨g,m,k1,r,q⟩:=k.box l B1 L1 h1 h2;exact⟨g,m,k1,r,u.trans q⟩
def Step.m9{σ σ':List aP}{s s':St}(hh:aF σ s)(h:Step σ s σ' s'):cR σ s σ' s' :=
  ⟨h.size,λb a=>h.fe b (hh.own b a).1 (hh.own b a).2,h.mem,h.iU,h.vb,h.box,h.os,h.tape,h.output,h.own⟩
def cR.ext{σ σ':List aP}{s s':St}(h:cR σ s σ' s'):Ext σ s σ' s':=⟨h.mem,h.box⟩
def ck.refl{σ:List aP}{s:St}(hh:aF σ s):ck s s:=⟨rfl,rfl,rfl,bh _,λ_ _=>rfl,hh.mem,rfl,rfl,rfl⟩
def ck.stepW{σ:List aP}{s s':St}(h:ck s s'):cR σ s σ s' :=
  ⟨h.size,λb c=>h.fe b (.inl c),λb o v d=>by rw[h.M];exact d,λ_ _ _ _=>by rw[h.M],λL a b c=>.inr ⟨L,by rw[<-h.β];exact a,c⟩,
    λl B L hB a=>⟨B,L,hB,by rw[h.β];exact a,.refl _ _⟩,h.os,h.tape,h.output,h.own⟩
def Step.ext{σ σ':List aP}{s s':St}(h:Step σ s σ' s'):Ext σ s σ' s':=⟨h.mem,h.box⟩
section mono
variable {σ σ':List aP}{s s':St}
def Ext.Nj(h:Ext σ s σ' s'){l:Nat}{L:Loc}(b:s.β[l]?=aa L)(hl:s.β.length=σ.length)(d:∀B,σ[l]?=aa B->B.gr=af):
    (∀B,σ'[l]?=aa B->B.gr=af)/\∃L',s'.β[l]?=aa L'/\L'.v=L.v:=by
  have a:l<σ.length:=by grind
  obtain⟨B',L',k1,f,e⟩:=h.box l (σ[l]) L (br a) b;have c:=d _ (br a);generalize σ[l]=B at *;rw[k1];cases B<;>cases B'<;>simp_all[gy,aP.gr]
def gn.mono(h:Ext σ s σ' s')(hl:s.β.length=σ.length){v:ah}{a:A}(r:gn σ s v a):gn σ' s' v a:=by
  cases a with
  | c x=>exact Rd.mono h.mem r
  | any=>exact r
  | ptr l off =>
    obtain⟨m,L,b,h1,h2,o⟩:=r;obtain⟨f,L',k1,j⟩:=h.Nj h1 hl m;exact⟨f,L',b,k1,by grind,o⟩
  | vec l k n es =>
    obtain⟨i,e,q⟩:=r;obtain⟨B',L',k1,j,g⟩:=h.box l (σ[l]) (s.β[l]'(by omega)) (br e) (br (by omega));have d:l<σ'.length:=(bY.1 k1).1;refine⟨Rd.mono h.mem i,d,λE k' f es' he=>?_⟩;rw[he]at k1;cases k1;have hB:=br e;generalize σ[l]=B at *;cases B with
    | vec E0 k0 n0 WQ =>
      obtain⟨p,q2⟩:=g;grind
    | _=>simp[gy]at g
  | ref l =>
    obtain⟨m,L,h1,h2,o⟩:=r;obtain⟨f,L',k1,j⟩:=h.Nj h1 hl m;exact⟨f,L',k1,by grind,o⟩
  | bp l w =>
    obtain⟨lv,i,e,q⟩:=r;obtain⟨B',L',k1,j,g⟩:=h.box l (σ[l]) (s.β[l]'(by omega)) (br e) (br (by omega));have d:l<σ'.length:=(bY.1 k1).1;refine⟨lv,i,d,λE k' f es' he=>?_⟩;rw[he]at k1;cases k1;have hB:=br e;generalize σ[l]=B at *;cases B with
    | buf E0 k0 n0 WQ =>
      obtain⟨p,q2⟩:=g;grind
    | _=>simp[gy]at g
def dX.mono(h:Ext σ s σ' s')(hl:s.β.length=σ.length){vs:List ah}{cs:List A}(r:dX σ s vs cs):dX σ' s' vs cs:=by
  induction vs generalizing cs with
  | nil=>cases cs<;>simp_all[dX]
  | cons v vs ih =>
    cases cs with
    | nil=>simp[dX]at r
    | cons a cs=>exact⟨r.1.mono h hl,ih r.2⟩
def m7.mono(h:Ext σ s σ' s')(hl:s.β.length=σ.length){v:ah}{x:E1}(r:m7 σ s v x):m7 σ' s' v x:=by
  cases x with
  | one a=>exact gn.mono h hl r
  | agg cs=>obtain⟨vs,h1,h2⟩:=r;exact⟨vs,h1,h2.mono h hl⟩
def gZ.mono(h:Ext σ s σ' s')(hl:s.β.length=σ.length){vs:List ah}{xs:List E1}(r:gZ σ s vs xs):gZ σ' s' vs xs:=by
  induction vs generalizing xs with
  | nil=>cases xs<;>simp_all[gZ]
  | cons v vs ih =>
    cases xs with
    | nil=>simp[gZ]at r
    | cons a cs=>exact⟨r.1.mono h hl,ih r.2⟩
def dj.mono(h:Ext σ s σ' s')(hl:s.β.length=σ.length){v:ah}{d:D}(r:dj σ s v d):dj σ' s' v d:=by
  cases d with
  | e x=>exact m7.mono h hl r
  | eX xs=>obtain⟨vs,h1,h2⟩:=r;exact⟨vs,h1,h2.mono h hl⟩
  | any=>trivial
def cg.mono(h:Ext σ s σ' s')(hl:s.β.length=σ.length){vs:List ah}{xs:List D}(r:cg σ s vs xs):cg σ' s' vs xs:=by
  induction vs generalizing xs with
  | nil=>cases xs<;>simp_all[cg]
  | cons v vs ih =>
    cases xs with
    | nil=>simp[cg]at r
    | cons a cs=>exact⟨r.1.mono h hl,ih r.2⟩
end mono
def oM(σ:List aP)(s:St):List Deferred->List Nat->Prop
  | [],[]=>True
  | d::ds,l::ls=>(σ[l]?=aa .qP/\∃(L:Loc) (r:Nat),s.β[l]?=aa L/\L.v=.int .i64 r/\d={target:=.collected r,args:=#[]})/\l∉ls/\oM σ s ds ls
  | _,_=>False
def oM.mono{σ σ':List aP}{s s':St}(h:Ext σ s σ' s'):∀{ds:List Deferred} {ls:List Nat},oM σ s ds ls->oM σ' s' ds ls
  | [],[],_=>trivial
  | [],_::_,r=>r.elim
  | _::_,[],r=>r.elim
  | d::ds,l::ls,⟨⟨h1,L,r,h2,g,c⟩,b,a⟩=>by
    obtain⟨B',L',k1,f,e⟩:=h.box l _ L h1 h2;cases B'<;>simp[gy]at e
    exact⟨⟨k1,L',r,f,by grind,c⟩,b,oM.mono h a⟩
def lA:List aP->Bool
  | []=>ab
  | .qP::_=>af
  | _::r=>lA r
def nn:∀{l:List aP},lA l=ab->∀B∈l,B≠.qP
  | [],_,B,hB=>by grind
  | b::r,h,B,hB=>by
    have a:b≠.qP/\lA r=ab:=by cases b<;>simp_all[lA]
    rcases eE.1 hB with rfl|hB
    · exact a.1
    · exact nn a.2 B hB
def o8{s:St}{r:Nat}{wr:Bool}{L:Loc}(a:L∈s.β)(b:r∈L.bs):oa s ⟨.obj r,wr,af⟩:=⟨rfl,.inr ⟨L,a,b⟩⟩
def eY.one{s:St}{e:Event}(h:oa s e):eY s #[e]:=by intro x a;grind
def eY.two{s:St}{e a:Event}(h:oa s e)(c:oa s a):eY s #[e,a]:=by intro x b;grind
def ss{P:aq}{w:aA}:∀{l:List (String×DataW Unit)}{ps:List MemPlace},DataW.LaidVars P w l ps->∀{n:String}{d:DataW Unit},(n,d)∈l ->
  ∃g t cs fuel p,P.globalNamed n=aa g/\(P.globals[g]?).map (·.type)=aa t/\w.var? P n=aa cs/\DataW.trod (λ_=>()) P w 0 (λ_=>ab) af fuel t cs.toList=aa (d,p)
 |[],_,_,_,_,a=>by cases a
 |(f,j)::r,ps,h,n,d,a=>by
  obtain⟨g,t,cs,fuel,p,q,m,k,i,c,b,_⟩:=h;rcases eE.1 a with e|e
  .grind
  .exact ss b e
theorem wV{P:aq}{W:aA}(a:W.ShapedOpen P){g:Nat}{zero:Array ah}{t:aj}(d:g<P.globals.size)(b:(((begin P (λ_ _=>0) default).world.heap[g]?).bind Obj.row?)=aa (zero,t)){n:String}(e:P.globalNamed n=aa g){cs:Array ah}(c:W.var? P n=aa cs):
  W.heap[g]?=aa (.cells cs t (0,0)):=by obtain⟨c2,f,_⟩:=a.1 g zero t d b;unfold World.var? at c;grind
def wW{P:aq}{W:aA}{l:List (String×DataW Unit)}(h:laidMetH P l W)(a:W.ShapedOpen P){n q:String}{d:DataW Unit}(j:(n,.iface q d)∈l.filter λx=>x.2.handleName?.isNone){g t b:Nat}{o:Array (String×aj)}{zero:Array ah}(f:P.globalNamed n=aa g)(i:(P.globals[g]?).map (·.type)=aa t)(w:P.underlying t=aa (.interface o))(z:g<P.globals.size)(k:(((begin P (λ_ _=>0) default).world.heap[g]?).bind Obj.row?)=aa (zero,b)):∃e:aj×ah,W.heap[g]?=aa (.cells #[.iface e.1 e.2] b (0,0)):=by obtain⟨ps,r,_⟩:=(laidMetH_iff.1 h).1;obtain⟨B,C,cs,c,p,A,y,s,m⟩:=ss r j;cases f.symm.trans A;cases i.symm.trans y;obtain⟨_,u,v,e,_⟩:=iface_of_trod w m;have:=wV a z k f s;rw[Array.eq_one_of_toList e]at this;exact⟨(u,v),this⟩
def Cc{P:aq}{W:aA}{l:List (String×DataW Unit)}(h:laidMetH P l W)(o:W.ShapedOpen P){n:String}{d:DataW Unit}{s:List UInt8}(e:(n,d)∈l.filter λx=>x.2.handleName?.isSome)(k:d.funcsIn?=ae)(m:d.handleName?=aa s){g b u ty:Nat}{zero:Array ah}(z:P.globalNamed n=aa g)(c:(P.cutTypes.find? (·.1== "internal/reflectlite.rtype")).map (·.2)=aa u)(A:((bg P.types.size).filter λt=>P.rowNamed t s)=[ty])(y:g<P.globals.size)(q:(((begin P (λ_ _=>0) default).world.heap[g]?).bind Obj.row?)=aa (zero,b)):W.heap[g]?=aa (.cells #[.iface u (.agg #[typeHandle P ty])] b (0,0)):=by have:=(laidMetH_iff.1 h).2 _ e;rw[k]at this;obtain⟨name,r,a,i,f,p,j,w⟩:=this;cases m.symm.trans i;cases c.symm.trans f;have v:a∈(bg P.types.size).filter λt=>P.rowNamed t s:=lf.2 ⟨n8.2 p,j⟩;grind[wV]
section
open Go.Conc (G listed)
def qO(s s':St)(es:Array Event):Prop:=(∃σ σ',aF σ s/\aF σ' s'/\Step σ s σ' s')/\eY s es
structure Cx(P:aq) where
 main:Bool
 rely:St->St->Prop
 xY:av->St->(av->St->Prop)->Prop
 iv:∀{s s'},rely s s'->ck s s'
 Bn:Prop
class Cx.gY {P:aq} (X:Cx P):Prop where
 ok:X.Bn
structure eu(s s':St):Prop where
 w:s'.w=s.w
 mem:∀b o v,s.M b o=aa v->s'.M b o=aa v
 iU:∀b,(∀L∈s.β,b∉L.bs)->∀o,s'.M b o=s.M b o
 cell:∀b o v,s'.M b o=aa v->s.w.cell? ⟨b,o,ae⟩=aa v
 blk:∀b,(s'.own b∨∃L∈s'.β,b∈L.bs)->s.own b∨∃L∈s.β,b∈L.bs
structure mV(s s':St):Prop where
 w:s'.w=s.w
 β:s'.β=s.β
 own:s'.own=s.own
 less:∀b o v,s'.M b o=aa v->s.M b o=aa v
 mem:∀b o v,s.M b o=aa v->s'.M b o=aa v∨s.own b
inductive fA {P:aq} (X:Cx P) (S:av->St->Prop):av->St->Prop
 |stop {g:av} {s:St}:S g s->fA X S g s
 |step {g:av} {s:St} (ng:St->av) (ns:St->St) (ne:St->Array Event):g.status=.running ->
   (∀s1,X.rely s s1->aH P X.main g s1.w=.go (ng s1) (ns s1).w (ne s1))->(∀s1,X.rely s s1->qO s1 (ns s1) (ne s1))->(∀s1,X.rely s s1->fA X S (ng s1) (ns s1))->fA X S g s
 |ghost {g:av} {s s':St}:eu s s'->fA X S g s'->fA X S g s
 |forget {g:av} {s s':St}:X.Bn->mV s s'->fA X S g s'->fA X S g s
 |xY {g:av} {s:St} {T:av->St->Prop}:X.xY g s T->(∀g' s',T g' s'->fA X S g' s')->fA X S g s
section
variable {P:aq}{X:Cx P}{S:av->St->Prop}
def fA.next{g:av}{s:St}(f:g.status=.running)(h:∀c,X.rely s c->∃g' s' es,aH P X.main g c.w=.go g' s'.w es/\qO c s' es/\fA X S g' s'):fA X S g s:=by
 classical
 have hh:∀c,∃r:av×St×Array Event,X.rely s c->aH P X.main g c.w=.go r.1 r.2.1.w r.2.2/\qO c r.2.1 r.2.2/\fA X S r.1 r.2.1:=by
  intro c;by_cases e:X.rely s c
  .obtain⟨g',s',es,h1⟩:=h c e;exact⟨(g',s',es),λ_=>h1⟩
  .exact⟨(g,c,#[]),λd=>absurd d e⟩
 refine .step (λc=>(Classical.choose (hh c)).1) (λc=>(Classical.choose (hh c)).2.1) (λc=>(Classical.choose (hh c)).2.2) f ?_ ?_ ?_
 .grind
 .grind
 grind
theorem eu.of{σ σ':List aP}{s s':St}(hh:aF σ s)(d:aF σ' s')(f:s'.w=s.w)(st:cR σ s σ' s'):eu s s':=by
 have i:∀b o v,s'.M b o=aa v->s.w.cell? ⟨b,o,ae⟩=aa v:=λb o v h=>by rw[<-f];exact d.mem b o v h
 have e:∀b o v,s.w.cell? ⟨b,o,ae⟩=aa v->b<s.w.heap.size:=by
  intro b o v h;rcases cD b s.w.heap.size with h1|h1
  .exact h1
  .simp[aV,zn h1]at h
 refine⟨f,st.mem,λb c o=>?_,i,λb c=>?_⟩
 .rcases cD b s.w.heap.size with h1|h1
  .exact st.iU b h1 c o
  .cases h2:s'.M b o with
   |some v=>grind
   |none=>cases j:s.M b o with
    |none=>rfl
    |some v=>have:=e _ _ _ (hh.mem _ _ _ j);omega
 .rcases c with c|⟨L,g,c⟩
  .exact .inl (by rw[<-st.own];exact c)
  .rcases st.vb L g b c with h1|h1
   .have:=d.lt L g b c;grind
   grind
def aF.rely{σ:List aP}{s s':St}(hh:aF σ s)(h:ck s s'):aF σ s':=by
 have ex:Ext σ s σ s':=h.stepW.ext;have z:∀v a,gn σ s v a->gn σ s' v a:=λv a r=>r.mono ex hh.len;refine⟨λb o v m=>h.mem b o v (by rw[<-h.M];exact m),by rw[h.β];exact hh.len,?_,by rw[h.β];exact hh.eB,?_,?_⟩
 .intro l B L hB hL;rw[h.β]at hL;have c:=hh.box l B L hB hL;have hk:∀b∈L.bs,s'.w.heap[b]?=s.w.heap[b]?:=λb c=>h.fe b (.inr ⟨L,bH hL,c⟩);cases B with
  |cells E cs =>
   obtain⟨b,vs,h1,h2,d,e⟩:=c;subst h1;exact⟨b,vs,rfl,by grind,d.mono ex hh.len,λo=>by rw[h.M,e]⟩
  |vec E k n es =>
   obtain⟨h1,h2⟩:=c;refine⟨by rw[h.M];exact h1,?_⟩;rcases h2 with⟨h2,d⟩|⟨b,cap,vs,h2,d,e,f⟩
   .exact .inl ⟨h2,by rw[h.M];exact d⟩
   .subst h2;exact .inr ⟨b,cap,vs,rfl,by grind,e,λo x=>by rw[h.M,f o x]⟩
  |b8 H =>
   obtain⟨ch,h1,h2,d,e⟩:=c;refine⟨ch,h1,λb o q=>?_,d,λb g o=>by rw[h.M,e b g]⟩;grind
  |dead=>trivial
  |loop N φ r =>
   obtain⟨l,tmps,fn,j,h1,h2,d,e,f⟩:=c;subst h1;exact⟨l,tmps,fn,j,rfl,by grind,d,λt=>(e t).mono ex hh.len,λo=>by rw[h.M,f]⟩
  |qP =>
   obtain⟨r,h1,h2,d⟩:=c;subst h1;exact⟨r,rfl,by grind,λo=>by rw[h.M,d]⟩
  |buf E k n es =>
   rcases c with c|⟨b,u,vs,p,h1,h2,d,e,f,i,y⟩
   .exact .inl c
   .subst h1;exact .inr ⟨b,u,vs,p,rfl,by grind,d,e,f,by rw[h.M];exact i,λo=>by rw[h.M,y]⟩
 .intro L hL b c;rw[h.β]at hL;exact cU (hh.lt L hL b c) h.size
 .intro b c;rw[h.own]at c;rw[h.β];exact⟨cU (hh.own b c).1 h.size,(hh.own b c).2⟩
def qO.quiet{σ:List aP}{s:St}(hh:aF σ s):qO s s #[]:=⟨⟨σ,σ,hh,hh,.refl _ _⟩,.nil⟩
def _root_.Go.Frame.aT(b:aR)(a:Act)(todo:List Item):aR:={b with tmps:=a.tmps,todo:=todo,defers:=a.defers++b.defers,mode:=.run}
variable {b:aR}{a:Act}{k:List Item}{cs:List aR}{w:aA}{main:Bool}
def Fx(b:aR)(a:Act)(c:List Item):(b.aT a c).eval=a.eval:=by funext x;cases x<;>rfl
def Fy:aH P main (G (b.aT a (.code .skip::k)) cs) w=.go (G (b.aT a k) cs) w:=by simp[G,aH,stepG.exec,Frame.aT]
def qQ{id:Nat}:aH P main (G (b.aT a (.inBlock id::k)) cs) w=.go (G (b.aT a k) cs) w:=by simp[G,aH,stepG.exec,Frame.aT]
theorem oc{x y:Code}:aH P main (G (b.aT a (.code (.seq x y)::k)) cs) w=.go (G (b.aT a (.code x::.code y::k)) cs) w:=by simp[G,aH,stepG.exec,Frame.aT]
def vc{c:ak}{x y:Code}{t:Bool}(h:a.eval c=.bool t):
  aH P main (G (b.aT a (.code (.cond c x y)::k)) cs) w=.go (G (b.aT a (.code (if t then x else y)::k)) cs) w:=by
 have d:(b.aT a (.code (.cond c x y)::k)).eval c=.bool t:=by rw[Fx];exact h
 simp only[Frame.aT]at d;simp[G,aH,stepG.exec,Frame.aT,d]
def rQ{id:Nat}{c:Code}:aH P main (G (b.aT a (.code (.block id c)::k)) cs) w=.go (G (b.aT a (.code c::.inBlock id::k)) cs) w:=by simp[G,aH,stepG.exec,Frame.aT]
def Fz{c:Code}:aH P main (G (b.aT a (.code (.loop c)::k)) cs) w=.go (G (b.aT a (.code c::.inLoop c::k)) cs) w:=by simp[G,aH,stepG.exec,Frame.aT]
def yo{c:Code}:aH P main (G (b.aT a (.inLoop c::k)) cs) w=.go (G (b.aT a (.code c::.inLoop c::k)) cs) w:=by simp[G,aH,stepG.exec,Frame.aT]
def zw{id:Nat}{k':List Item}(h:exitTo id k=aa k'):aH P main (G (b.aT a (.code (.exit id)::k)) cs) w=.go (G (b.aT a k') cs) w:=by simp[G,aH,stepG.exec,Frame.aT,h]
def pX{id:Nat}{ops:Array au}:aH P main (G (b.aT a (.code (.region id ops af)::k)) cs) w=.go (G (b.aT a (.inRegion ops (bg ops.size)::k)) cs) w:=by simp[G,aH,stepG.exec,Frame.aT]
def lV{id:Nat}{ops:Array au}:aH P main (G (b.aT a (.code (.region id ops ab)::k)) cs) w =
  .go (G (b.aT a (.inRegion ops (Region.schedule (P.follows .mixedOrders) ops (w.tape w.drawn (.order b.fn id)))::k)) cs) {w with drawn:=w.drawn+1}:=by simp[G,aH,stepG.exec,Frame.aT,choose,Sem.run,Question.forced,Question.cut]
def iW{ops:Array au}:aH P main (G (b.aT a (.inRegion ops []::k)) cs) w=.go (G (b.aT a k) cs) w:=by simp[G,aH,stepG.exec,Frame.aT]
def DF(h:b.roundOf=ae):aH P main (G (b.aT a (.code .ret::k)) cs) w=.go (G {b.aT a (.code .ret::k)with mode:=.returning} cs) w:=by simp[G,aH,stepG.exec,Frame.aT,h]
def DG(h:b.roundOf=ae):aH P main (G (b.aT a []) cs) w=.go (G {b.aT a []with mode:=.returning} cs) w:=by simp[G,aH,stepG.exec,Frame.aT,h]
def kh(ops:Array au)(i:Nat)(rest:List Nat)(v:ah):
  (b.aT a (.inRegion ops (i::rest)::k)).finish v=b.aT (a.put ((ops[i]?).bind (·.dst)) v) (.inRegion ops rest::k):=by cases h:(ops[i]?).bind (·.dst)<;>simp[Frame.finish,Frame.aT,Act.put,h]
def Ng{ops:Array au}{i:Nat}{rest:List Nat}{o:au}(d:ops[i]?=aa o)(e:bd o (yielded ops a.tmps)=af):
  aH P main (G (b.aT a (.inRegion ops (i::rest)::k)) cs) w=.go (G (b.aT (a.put o.dst ai) (.inRegion ops rest::k)) cs) w:=by have c:=kh (b:=b) (a:=a) (k:=k) ops i rest ai;rw[d]at c;simp only[nY]at c;rw[<-c];simp[G,aH,stepG.exec,Frame.aT,d,e]
theorem rR{i:ak->ah}{o:au}{c:Call}(h:o.op=.defer c){f:Next}{w':aA}(e:(aw i o).run P w=.ok f w'):∃d,f=.defer d:=by
 simp only[aw,h,bL]at e;cases g:(resolve i c o.type).run P w with
 |ok d w2=>rw[g]at e;simp at e;grind
 |halt x w2=>rw[g]at e;simp at e
def vd{ops:Array au}{i:Nat}{rest:List Nat}{o:au}(f:ops[i]?=aa o)(e:bd o (yielded ops a.tmps)=ab)(g:∀c,o.op≠.defer c):
  aH P main (G (b.aT a (.inRegion ops (i::rest)::k)) cs) w=stepG.apply P ab (b.aT a (.inRegion ops (i::rest)::k)) cs ae (aw a.eval o) w:=by have d:=Fx b a (.inRegion ops (i::rest)::k);simp only[Frame.aT]at d;simp[G,aH,stepG.exec,stepG.oper,Frame.oper?,Frame.aT,f,e,d];grind
theorem I5{ops:Array au}{i:Nat}{rest:List Nat}{o:au}{v:ah}{w':aA}(f:ops[i]?=aa o)(h:bd o (yielded ops a.tmps)=ab)(hk:b.kind≠.early)(g:(aw a.eval o).run P w=.ok (.value v) w'):
  aH P main (G (b.aT a (.inRegion ops (i::rest)::k)) cs) w=.go (G (b.aT (a.put o.dst v) (.inRegion ops rest::k)) cs) w' (listed P b.fn a o w):=by
 have d:=kh (b:=b) (a:=a) (k:=k) ops i rest v;rw[f]at d;simp only[nY]at d;have e:(b.kind==CallKind.early)=af:=by grind
 rw[vd f h (λc j=>by grind[rR]),<-d];simp[stepG.apply,g,G,Frame.aT,e,GStep.after,listed]
theorem FA{ops:Array au}{i:Nat}{rest:List Nat}{o:au}{w':aA}(f:ops[i]?=aa o)(h:bd o (yielded ops a.tmps)=ab)(hk:b.kind≠.early)(g:(aw a.eval o).run P w=.ok .skip w'):
  aH P main (G (b.aT a (.inRegion ops (i::rest)::k)) cs) w=.go (G (b.aT (a.put o.dst ai) (.inRegion ops rest::k)) cs) w' (listed P b.fn a o w):=by
 have d:=kh (b:=b) (a:=a) (k:=k) ops i rest ai;rw[f]at d;simp only[nY]at d;have e:(b.kind==CallKind.early)=af:=by grind
 rw[vd f h (λc j=>by grind[rR]),<-d];simp[stepG.apply,g,G,Frame.aT,e,GStep.after,listed]
def oY{ops:Array au}{i:Nat}{rest:List Nat}{o:au}{f:aJ}{args:Array ah}{w':aA}(h:ops[i]?=aa o)(g:bd o (yielded ops a.tmps)=ab)(hk:b.kind≠.early)(e:(aw a.eval o).run P w=.ok (.enter f args) w'):
  aH P main (G (b.aT a (.inRegion ops (i::rest)::k)) cs) w=.go (G (Frame.enter P f args .normal) (b.aT a (.inRegion ops (i::rest)::k)::cs)) w' (listed P b.fn a o w):=by
 have d:(b.kind==CallKind.early)=af:=by grind
 rw[vd h g (λc j=>by grind[rR])];simp[stepG.apply,e,G,Frame.aT,d,GStep.after,listed]
structure uI(P:aq)(f:aJ)(fr:aR)(v:ah)(s:St):Prop where
 isF:fr.fn=f
 mode:fr.mode=.returning
 defers:fr.defers=[]
 kind:fr.kind=.normal
 fn:∃fn,P.funcs[fr.fn]?=aa fn/\∀w,(∀b o u,s.M b o=aa u->w.cell? ⟨b,o,ae⟩=aa u)->(results fn fr.tmps).run P w=.ok v w/\∀e∈(results fn fr.tmps).events P w #[],∃b o u,e=⟨.cell ⟨b,o,ae⟩,af,af⟩/\s.M b o=aa u
def uI.mono{f:aJ}{fr:aR}{v:ah}{s s':St}(h:uI P f fr v s)(j:∀b o u,s.M b o=aa u->s'.M b o=aa u):uI P f fr v s':=by obtain⟨h1,h2,e,d,fn,c,g⟩:=h;refine⟨h1,h2,e,d,fn,c,λw i=>?_⟩;grind
def eY.seen{s:St}{es:Array Event}{fn:aJ}(h:eY s es):eY s (seen P fn es):=λe c=>h e (Go.Conc.mem_seen c)
def I6{f:aJ}{g c:aR}{v:ah}{s:St}(h:uI P f g v s)(w:aA)(i:∀b o u,s.M b o=aa u->w.cell? ⟨b,o,ae⟩=aa u):∃es,aH P main (G g (c::cs)) w=.go (G (c.finish v) cs) w es/\∀e∈es,∃b o u,e=⟨.cell ⟨b,o,ae⟩,af,af⟩/\s.M b o=aa u:=by obtain⟨fn,m,d⟩:=h.fn;obtain⟨n,l⟩:=d w i;refine⟨seen P g.fn ((results fn g.tmps).events P w #[]),?_,λe j=>l e (Go.Conc.mem_seen j)⟩;simp[G,aH,unwind,doReturn,h.mode,h.defers,h.kind,m,n,GStep.after]
end
end
structure cm(N:Nat)(σ:List aP)(s:St)(φ:Fr)(a:Act):Prop where
 size:a.tmps.size=N
 defers:∃ls,oM σ s a.defers ls
 slot:∀t,dj σ s (a.tmps.getD t ai) (look φ t)
def cm.mono{N:Nat}{σ σ':List aP}{s s':St}{φ:Fr}{a:Act}(h:cR σ s σ' s')(hl:s.β.length=σ.length)(f:cm N σ s φ a):cm N σ' s' φ a :=
 ⟨f.size,f.defers.imp λ_ h1=>h1.mono h.ext,λt=>(f.slot t).mono h.ext hl⟩
def cm.rely{N:Nat}{σ:List aP}{s s':St}{φ:Fr}{a:Act}(h:ck s s')(hh:aF σ s)(f:cm N σ s φ a):cm N σ s' φ a:=f.mono h.stepW hh.len
def cm.put{N:Nat}{σ:List aP}{s:St}{φ:Fr}{a:Act}(f:cm N σ s φ a){d:Nat}(c:d<N){v:ah}{x:D}(r:dj σ s v x):cm N σ s ((d,x)::φ) (a.put (aa d) v):=by
 refine⟨by simp[Act.put,f.size],f.defers,λt=>?_⟩;simp only[Act.put,look];by_cases e:d=t
 .subst e;rw[show aB d d=ab from iQ d];have g:d<a.tmps.size:=by rw[f.size];exact c
  simp only[dO,vE g,im,cond];exact r
 .have:aB d t=af:=by grind[Nat.eq_of_beq_eq_true]
  rw[this];have h:=f.slot t;simp only[dO]at h⊢;grind
def og(φ φ':Fr):Prop:=∀σ s v t,dj σ s v (look φ t)->dj σ s v (look φ' t)
def cm.le{N:Nat}{σ:List aP}{s:St}{φ φ':Fr}{a:Act}(h:og φ φ')(f:cm N σ s φ a):cm N σ s φ' a :=
 ⟨f.size,f.defers,λt=>h _ _ _ _ (f.slot t)⟩
abbrev Post:=Exit->Fr->List aP->Prop
def ends{P:aq}(X:Cx P)(S:av->St->Prop)(b:aR)(k:List Item)(cs:List aR):Exit->Act->St->Prop
 |.normal,a,s=>fA X S (G (b.aT a k) cs) s
 |.exit id,a,s=>∀pre,(∀k',exitTo id (pre++k')=exitTo id k')->fA X S (G (b.aT a (.code (.exit id)::(pre++k))) cs) s
 |.ret,a,s=>∀pre,fA X S (G (b.aT a (.code .ret::pre)) cs) s
 |.panic ch,a,s=>∀c,fA X S (G {b.aT a c with mode:=.panicking ch} cs) s
 |_,_,_=>False
section
variable {P:aq}{X:Cx P}{S:av->St->Prop}{b:aR}{k:List Item}{cs:List aR}{a:Act}{s:St}
def ends.cons{x:Item}(c:∀id k',exitTo id (x::k')=exitTo id k'){e:Exit}(d:e≠.normal)(h:ends X S b k cs e a s):ends X S b (x::k) cs e a s:=by
 cases e with
 |normal=>grind
 |exit id =>
  intro pre hp;have:=h (pre++[x]) (λk'=>by grind);grind
 |ret=>exact h
 |panic ch=>exact h
 |goto l=>exact h
 |outgrown=>exact h
def fA.ctl{σ:List aP}{g g':av}(hh:aF σ s)(d:g.status=.running)(e:∀w,aH P X.main g w=.go g' w #[])(h:∀c,ck s c->fA X S g' c):fA X S g s :=
 .next d λc h1=>⟨g',c,#[],e c.w,.quiet (hh.rely (X.iv h1)),h c (X.iv h1)⟩
def pZ{σ:List aP}{f:aJ}{j c:aR}{cs:List aR}{v:ah}{s:St}(n:aF σ s)(h:uI P f j v s)(k:∀d,ck s d->fA X S (G (c.finish v) cs) d):fA X S (G j (c::cs)) s:=by refine .next rfl λd r=>?_;have i:=X.iv r;have g:=n.rely i;obtain⟨es,q,l⟩:=I6 (main:=X.main) (c:=c) (cs:=cs) h d.w i.mem;refine⟨_,d,es,q,⟨⟨σ,σ,g,g,.refl _ _⟩,λe m=>?_⟩,k d i⟩;obtain⟨b,o,u,rfl,p⟩:=l e m;exact⟨rfl,rfl,.inr (.inr ⟨rfl,u,by rw[i.M];exact p⟩)⟩
def sk{c:Code}(I:Nat->Act->St->Prop)(i:∀n a s,I n a s->∃σ,aF σ s/\∀d,ck s d->I n a d)(round:∀n a s,I n a s->(∀a' s' m,m<n->I m a' s'->fA X S (G (b.aT a' (.inLoop c::k)) cs) s')->fA X S (G (b.aT a (.code c::.inLoop c::k)) cs) s){n:Nat}(l:I n a s):
  fA X S (G (b.aT a (.code (.loop c)::k)) cs) s:=by
 have key:∀n a s,I n a s->fA X S (G (b.aT a (.inLoop c::k)) cs) s:=by
  intro n;induction n using Nat.strongRecOn with
  |_ n j =>
   intro a s hi;obtain⟨σ,g,f⟩:=i n a s hi;exact .ctl g rfl (λw=>yo) λd h=>round n a d (f d h) λa' s' m o e=>j m o a' s' e
 obtain⟨σ,g,f⟩:=i n a s l;exact .ctl g rfl (λw=>Fz) λd h=>round n a d (f d h) λa' s' m _ e=>key m a' s' e
end
def AW{P:aq}(X:Cx P)(N:Nat)(c:Code)(Q:Post)(φ:Fr)(σ:List aP):Prop :=
 ∀s a,cm N σ s φ a->aF σ s->∀(b:aR) (k:List Item) (cs:List aR) (S:av->St->Prop),b.kind≠.early ->
  (∀e φ' σ' s' a',Q e φ' σ'->cm N σ' s' φ' a'->aF σ' s'->cR σ s σ' s'->ends X S b k cs e a' s')->fA X S (G (b.aT a (.code c::k)) cs) s
def Names(all:List au):List Nat->List au->Prop
 |[],[]=>True
 |i::idx,o::rest=>all.toArray[i]?=aa o/\Names all idx rest
 |_,_=>False
def ib{P:aq}(X:Cx P)(N:Nat)(all rest:List au)(Q:Fr->List aP->Prop)(φ:Fr)(σ:List aP):Prop :=
 ∀s a,cm N σ s φ a->aF σ s->∀(b:aR) (k:List Item) (cs:List aR) (S:av->St->Prop) (idx:List Nat),b.kind≠.early->Names all idx rest ->
  (∀φ' σ' s' a',Q φ' σ'->cm N σ' s' φ' a'->aF σ' s'->cR σ s σ' s'->fA X S (G (b.aT a' k) cs) s')->fA X S (G (b.aT a (.inRegion all.toArray idx::k)) cs) s
section rules
variable {P:aq}{X:Cx P}{N:Nat}{Q:Post}{φ:Fr}{σ:List aP}
def AW.mono{c:Code}{d:Post}(h:AW X N c Q φ σ)(i:∀e φ σ,Q e φ σ->d e φ σ):AW X N c d φ σ :=
 λs a m hh b k cs S l f=>h s a m hh b k cs S l λe φ' σ' s' a' q j g st=>f e φ' σ' s' a' (i _ _ _ q) j g st
def AW.le{c:Code}{φ':Fr}(h:AW X N c Q φ' σ)(hl:og φ φ'):AW X N c Q φ σ :=
 λs a e hh b k cs S d f=>h s a (e.le hl) hh b k cs S d f
theorem AW.skip(h:Q .normal φ σ):AW X N .skip Q φ σ:=λs a d hh b k cs S _ e =>
 .ctl hh rfl (λ_=>Fy) λc h1=>e .normal φ σ c a h (d.rely h1 hh) (hh.rely h1) h1.stepW
def AW.ret(h:Q .ret φ σ):AW X N .ret Q φ σ:=λs a c hh b k cs S _ d=>d .ret φ σ s a h c hh (.refl _ _) k
theorem AW.exit{id:Nat}(h:Q (.exit id) φ σ):AW X N (.exit id) Q φ σ:=λs a c hh b k cs S _ d=>by have:=d (.exit id) φ σ s a h c hh (.refl _ _) [] (λ_=>rfl);grind
def BT(next:Fr->List aP->Prop)(Q:Post):Post
 |.normal,φ,σ=>next φ σ
 |e,φ,σ=>Q e φ σ
theorem AW.seq{x y:Code}(h:AW X N x (BT (AW X N y Q) Q) φ σ):AW X N (.seq x y) Q φ σ:=by
 intro s a m hh b k cs S j f;refine .ctl hh rfl (λ_=>oc) λl h1=>?_;refine h l a (m.rely h1 hh) (hh.rely h1) b (.code y::k) cs S j ?_;intro e φ' σ' s' a' q i g st;have c:=h1.stepW.trans st;cases e with
 |normal=>exact q s' a' i g b k cs S j λe d σ2 s2 a2 q2 f2 h2 mf=>f e d σ2 s2 a2 q2 f2 h2 (c.trans mf)
 |_=>exact ends.cons (λ_ _=>rfl) (by simp) (f _ _ _ _ _ q i g c)
theorem AW.cond{c:ak}{x y:Code}{t:Bool}{u:Nat}(o:c=.tmp u)(hl:look φ u=.e (.one (.c (.bool t))))(r:t=ab->AW X N x Q φ σ)(p:t=af->AW X N y Q φ σ):AW X N (.cond c x y) Q φ σ:=by
 intro s a f hh b k cs S j l;have g:=f.slot u;rw[hl]at g;have h:a.eval c=.bool t:=by subst o;generalize h:a.tmps.getD u ai=v at g;simp only[dj,m7,gn]at g;cases g;exact h
 refine .ctl hh rfl (λ_=>vc h) λi h1=>?_;have d:∀e φ' σ' s' a',Q e φ' σ'->cm N σ' s' φ' a'->aF σ' s'->cR σ i σ' s'->ends X S b k cs e a' s':=λe φ' σ' s' a' q n m st=>l e φ' σ' s' a' q n m (h1.stepW.trans st);cases t
 .exact p rfl i a (f.rely h1 hh) (hh.rely h1) b k cs S j d
 .exact r rfl i a (f.rely h1 hh) (hh.rely h1) b k cs S j d
def wG(id:Nat)(Q:Post):Post
 |.exit IX,φ,σ=>if IX=id then Q .normal φ σ else Q (.exit IX) φ σ
 |e,φ,σ=>Q e φ σ
theorem AW.block{id:Nat}{c:Code}(h:AW X N c (wG id Q) φ σ):AW X N (.block id c) Q φ σ:=by
 intro s a o hh b k cs S n g;refine .ctl hh rfl (λ_=>rQ) λm h1=>?_;refine h m a (o.rely h1 hh) (hh.rely h1) b (.inBlock id::k) cs S n ?_;intro e φ' σ' s' a' q i f st;have d:=h1.stepW.trans st;cases e with
 |normal =>
  exact .ctl f rfl (λ_=>qQ) λs2 h2=>g .normal φ' σ' s2 a' q (i.rely h2 f) (f.rely h2) (d.trans h2.stepW)
 |exit IX =>
  simp only[wG]at q;split at q
  .rename_i e;subst e;intro pre hp;refine .ctl f rfl (λ_=>zw (k':=k) (by rw[hp];simp[exitTo])) λs2 h2=>?_;exact g .normal φ' σ' s2 a' q (i.rely h2 f) (f.rely h2) (d.trans h2.stepW)
  .rename_i j
   intro pre hp;have:=g (.exit IX) φ' σ' s' a' q i f d (pre++[.inBlock id]) (λk'=>by
    rw[lS,hp];have:(id==IX)=af:=by grind
    simp[exitTo,this])
   grind
 |ret=>exact g _ _ _ _ _ q i f d
 |panic ch=>exact g _ _ _ _ _ q i f d
 |goto l=>exact g _ _ _ _ _ q i f d
 |outgrown=>exact g _ _ _ _ _ q i f d
def AW.loop{S:Type}{c:Code}(I:S->Prop)(fr:S->Fr)(st:S->List aP)(h:S->Nat)(x:S)(v:I x)(l:og φ (fr x))(i:st x=σ)(round:∀x,I x->AW X N c (BT (λφ' σ'=>∃y,I y/\h y<h x/\og φ' (fr y)/\σ'=st y) Q) (fr x) (st x)):AW X N (.loop c) Q φ σ:=by
 intro s a A hh b k cs S w u;subst i;refine sk (λn a' s'=>∃y,I y/\cm N (st y) s' (fr y) a'/\aF (st y) s'/\cR (st x) s (st y) s'/\h y=n) ?_ ?_ ⟨x,v,A.le l,hh,.refl _ _,rfl⟩
 .rintro n a' s' ⟨y,o,j,f,d,e⟩;exact⟨st y,f,λC h1=>⟨y,o,j.rely h1 f,f.rely h1,d.trans h1.stepW,e⟩⟩
 rintro n a' s' ⟨y,o,j,f,d,rfl⟩ t;refine round y o s' a' j f b (.inLoop c::k) cs S w ?_;intro e B σ2 s2 a2 q p h2 mf;cases e with
 |normal =>
  obtain⟨z,r,m,g,rfl⟩:=q;exact t a2 s2 (h z) m ⟨z,r,p.le g,h2,d.trans mf,rfl⟩
 |_=>exact ends.cons (λ_ _=>rfl) (by simp) (u _ _ _ _ _ q p h2 (d.trans mf))
end rules
def dX.length{σ:List aP}{s:St}{vs:List ah}{cs:List A}(r:dX σ s vs cs):vs.length=cs.length:=by
 induction vs generalizing cs with
 |nil=>cases cs<;>simp_all[dX]
 |cons v vs ih =>
  cases cs with
  |nil=>simp[dX]at r
  |cons a cs=>simp[ih r.2]
def gn.cell{σ:List aP}{s:St}{v:ah}{a:A}(r:gn σ s v a):cE v=ab:=by
 cases a with
 |c x=>exact Rd.cell r
 |ptr l off=>obtain⟨_,_,_,_,_,rfl⟩:=r;rfl
 |vec l k n es=>exact Rd.cell r.1
 |ref l=>obtain⟨_,_,_,_,h⟩:=r;exact h
 |bp l w=>obtain⟨_,h,_⟩:=r;exact h.cell
 |any=>exact r
theorem dX.get{σ:List aP}{s:St}{vs:List ah}{cs:List A}(r:dX σ s vs cs){j:Nat}{a:A}(h:cs[j]?=aa a):∃v,vs[j]?=aa v/\gn σ s v a:=by
 induction vs generalizing cs j with
 |nil=>cases cs<;>simp_all[dX]
 |cons v vs ih =>
  cases cs with
  |nil=>grind
  |cons b cs =>
   cases j with
   |zero=>simp at h;subst h;exact⟨v,rfl,r.1⟩
   |succ j=>simp at h;obtain⟨u,d,c⟩:=ih r.2 h;grind
def dX.cell{σ:List aP}{s:St}{vs:List ah}{cs:List A}(r:dX σ s vs cs):∀v∈vs,v.oneCell'=ab:=by
 induction vs generalizing cs with
 |nil=>simp
 |cons v vs ih =>
  cases cs with
  |nil=>simp[dX]at r
  |cons a cs =>
   intro u b;rcases eE.1 b with rfl|b
   .have:=gn.cell r.1;cases u<;>simp_all[cE,Value.oneCell']
   .exact ih r.2 u b
def dX.append{σ:List aP}{s:St}{vs zD:List ah}{cs na:List A}(r:dX σ s vs cs)(r':dX σ s zD na):dX σ s (vs++zD) (cs++na):=by
 induction vs generalizing cs with
 |nil=>cases cs<;>simp_all[dX]
 |cons v vs ih =>
  cases cs with
  |nil=>simp[dX]at r
  |cons a cs=>exact⟨r.1,ih r.2⟩
def dX.take{σ:List aP}{s:St}{vs:List ah}{cs:List A}(r:dX σ s vs cs)(k:Nat):dX σ s (vs.take k) (cs.take k):=by
 induction vs generalizing cs k with
 |nil=>cases cs<;>simp_all[dX]
 |cons v vs ih =>
  cases cs with
  |nil=>simp[dX]at r
  |cons a cs=>cases k with
   |zero=>simp[dX]
   |succ k=>exact⟨r.1,ih r.2 k⟩
def dX.drop{σ:List aP}{s:St}{vs:List ah}{cs:List A}(r:dX σ s vs cs)(k:Nat):dX σ s (vs.drop k) (cs.drop k):=by
 induction vs generalizing cs k with
 |nil=>cases cs<;>simp_all[dX]
 |cons v vs ih =>
  cases cs with
  |nil=>simp[dX]at r
  |cons a cs=>cases k with
   |zero=>exact r
   |succ k=>simpa using ih r.2 k
theorem aF.block{σ:List aP}{s:St}(h:aF σ s){b o:Nat}{v:ah}(a:s.M b o=aa v):b<s.w.heap.size:=by
 have:=h.mem b o v a;rcases cD b s.w.heap.size with h|h
 .exact h
 .simp[aV,zn h]at this
theorem aF.same{σ:List aP}{s:St}(h:aF σ s){w':aA}(f:w'.heap=s.w.heap):aF σ {s with w:=w'}:=by
 have u:∀a,w'.cell? a=s.w.cell? a:=λa=>by simp[aV,f]
 have p:∀v a,gn σ s v a->gn σ {s with w:=w'} v a:=λv a r=>by cases a<;>exact r
 have g:∀vs al,dX σ s vs al->dX σ {s with w:=w'} vs al:=by
  intro vs;induction vs with
  |nil=>intro al r;cases al<;>simp_all[dX]
  |cons v vs ih=>intro al r;cases al with
   |nil=>simp[dX]at r
   |cons a al=>exact⟨p _ _ r.1,ih _ r.2⟩
 refine⟨λb o v q=>by rw[u];exact h.mem b o v q,h.len,?_,h.eB,λL g b e=>by show b<w'.heap.size;rw[f];exact h.lt L g b e,λb e=>⟨by show b<w'.heap.size;rw[f];exact(h.own b e).1,(h.own b e).2⟩⟩;intro l B L hB ff;have:=h.box l B L hB ff;cases B with
 |cells E cs =>
  obtain⟨b,vs,h1,h2,c,d⟩:=this;exact⟨b,vs,h1,by grind,g _ _ c,d⟩
 |vec E k n es =>
  obtain⟨h1,h2⟩:=this;refine⟨h1,?_⟩;grind
 |b8 H =>
  obtain⟨ch,h1,h2,c,d⟩:=this;exact⟨ch,h1,λb o e=>by grind,c,d⟩
 |dead=>trivial
 |loop N φ r =>
  obtain⟨l,tmps,fn,j,h1,h2,c,d,i⟩:=this;exact⟨l,tmps,fn,j,h1,by grind,c,λt=>dj.mono (s:=s) (σ':=σ) (s':={s with w:=w'}) ⟨λ_ _ _ h=>h,λ_ B L h m=>⟨B,L,h,m,.refl _ _⟩⟩ h.len (d t),i⟩
 |qP =>
  obtain⟨r,h1,h2,c⟩:=this;exact⟨r,h1,by grind,c⟩
 |buf E k n es =>
  rcases this with h1|⟨b,y,vs,x,h1,h2,c⟩
  .exact .inl h1
  .exact .inr ⟨b,y,vs,x,h1,by grind,c⟩
theorem Step.same{σ:List aP}{s:St}{w':aA}(g:w'.heap=s.w.heap)(e:w'.os=s.w.os)(f:w'.tape=s.w.tape)(c:w'.output=s.w.output):Step σ s σ {s with w:=w'} :=
 ⟨by grind,λb _ _=>by grind,λ_ _ _ h=>h,λ_ _ _ _=>rfl,λL h b d=>.inr ⟨L,h,d⟩,λ_ B L h a=>⟨B,L,h,a,.refl _ _⟩,e,f,c,rfl⟩
def et.carry{σ σ':List aP}{s s':St}{B:aP}{L:Loc}(d:Ext σ s σ' s')(hl:s.β.length=σ.length)(e:∀b∈L.bs,s'.w.heap[b]?=s.w.heap[b]?/\∀o,s'.M b o=s.M b o)(h:et σ s B L):et σ' s' B L:=by
 cases B with
 |cells E cs =>
  obtain⟨b,vs,h1,h2,a,c⟩:=h;subst h1;obtain⟨k1,g⟩:=e b (by simp);exact⟨b,vs,rfl,by grind,a.mono d hl,λo=>by grind⟩
 |vec E k n es =>
  obtain⟨h1,h2⟩:=h;refine⟨h1.mono d.mem,?_⟩;rcases h2 with⟨h2,a⟩|⟨b,cap,vs,h2,a,c,f⟩
  .exact .inl ⟨h2,a.mono d.mem⟩
  grind
 |b8 H =>
  obtain⟨ch,h1,h2,a,c⟩:=h;refine⟨ch,h1,λb o p=>?_,a,λb u o=>by grind⟩;grind
 |dead=>trivial
 |loop N φ r =>
  obtain⟨l,tmps,fn,j,h1,h2,a,c,f⟩:=h;subst h1;obtain⟨k1,g⟩:=e l (by simp);exact⟨l,tmps,fn,j,rfl,by grind,a,λt=>(c t).mono d hl,λo=>by grind⟩
 |qP =>
  obtain⟨r,h1,h2,a⟩:=h;subst h1;obtain⟨k1,g⟩:=e r (by simp);exact⟨r,rfl,by grind,λo=>by grind⟩
 |buf E k n es =>
  rcases h with h1|⟨b,q,vs,m,h1,h2,a,c,f,i,v⟩
  .exact .inl h1
  .subst h1;obtain⟨k1,g⟩:=e b (by simp);exact .inr ⟨b,q,vs,m,rfl,by grind,a,c,f,i.mono d.mem,λo=>by grind⟩
def St.fO(s:St)(E:aj)(vs:List ah):St :=
 {β:=s.β++[⟨.pointer (aa ⟨s.w.heap.size,0,ae⟩),[s.w.heap.size]⟩],M:=s.M,w:=s.w.alloc (.cells vs.toArray E),own:=s.own}
theorem cJ(w:aA)(o:Obj){b:Nat}(h:b<w.heap.size):(w.alloc o).heap[b]?=w.heap[b]?:=by show(w.heap.push o)[b]?=w.heap[b]?;grind
theorem dG(w:aA)(o:Obj):(w.alloc o).heap[w.heap.size]?=aa o:=by show(w.heap.push o)[w.heap.size]?=aa o;simp
def Step.fO{σ:List aP}(s:St)(E:aj)(vs:List ah)(B:aP):Step σ s (σ++[B]) (s.fO E vs):=by
 refine⟨by simp[St.fO],?_,λ_ _ _ h=>h,λ_ _ _ _=>rfl,?_,?_,rfl,rfl,rfl,rfl⟩
 .intro b d _;exact cJ _ _ d
 .intro L a b d;simp only[St.fO,fX,fW]at a;grind
 .intro l B' L c a;have hl:l<s.β.length:=(bY.1 a).1;have e:l<σ.length:=(bY.1 c).1;exact⟨B',L,by grind,by simp only[St.fO];grind,.refl _ _⟩
def aF.fO{σ:List aP}{s:St}(h:aF σ s){E:aj}{vs:List ah}{cs:List A}(r:dX σ s vs cs):aF (σ++[.cells E cs]) (s.fO E vs):=by
 have st:=Step.fO (σ:=σ) s E vs (.cells E cs);have g:(s.fO E vs).w.heap.size=s.w.heap.size+1:=by simp[St.fO]
 refine⟨?_,by simp[St.fO,h.len],?_,?_,?_,?_⟩
 .intro b o v c;have a:=h.block c;have:=h.mem b o v c;rw[<-this];simp only[aV,St.fO];grind[cJ]
 .intro l B L hB hL;rcases Nat.lt_trichotomy l σ.length with f|rfl|i
  .rw[jy f]at hB;simp only[St.fO]at hL;rw[jy (by rw[h.len];exact f)]at hL;refine(h.box l B L hB hL).carry st.ext h.len λb a=>⟨?_,λ_=>rfl⟩
   have:=h.lt L (bH hL) b a;exact cJ _ _ this
  .simp at hB;subst hB;simp only[St.fO]at hL;rw[gw (by rw[h.len];grind)]at hL;simp[h.len]at hL;subst hL;refine⟨s.w.heap.size,vs,rfl,dG _ _,r.mono st.ext h.len,λo=>?_⟩;cases c:s.M s.w.heap.size o with
   |none=>exact c
   |some v=>have:=h.block c;omega
  grind
 .intro l l' L L' hL ff b a d;simp only[St.fO]at hL ff;have e:∀l L,(s.β++[⟨.pointer (aa ⟨s.w.heap.size,0,ae⟩),[s.w.heap.size]⟩])[l]?=aa L->(s.β[l]?=aa L)∨(l=s.β.length/\L.bs=[s.w.heap.size]):=by grind
  rcases e l L hL with h1|⟨rfl,h1⟩<;>rcases e l' L' ff with h2|⟨rfl,h2⟩
  .exact h.eB l l' L L' h1 h2 b a d
  .have:=h.lt L (bH h1) b a;grind
  .have:=h.lt L' (bH h2) b d;grind
  .rfl
 .intro L hL b a;rw[g];simp only[St.fO,fX,fW]at hL;rcases hL with hL|rfl
  .have:=h.lt L hL b a;omega
  grind
 .intro b a;obtain⟨j,k⟩:=h.own b a;refine⟨by grind,λL hL=>?_⟩;simp only[St.fO,fX,fW]at hL;grind
def aF.grow{σ:List aP}{s:St}(h:aF σ s){M':Mem}{w':aA}(c:s.w.heap.size<=w'.heap.size)(hk:∀b,b<s.w.heap.size->w'.heap[b]?=s.w.heap[b]?)(f:∀b,b<s.w.heap.size->∀o,M' b o=s.M b o)(m:∀b,s.w.heap.size<=b->∀o v,M' b o=aa v->w'.cell? ⟨b,o,ae⟩=aa v)(j:w'.os=s.w.os)(k:w'.tape=s.w.tape)(i:w'.output=s.w.output):aF σ ⟨s.β,M',w',s.own⟩/\Step σ s σ ⟨s.β,M',w',s.own⟩:=by
 have st:Step σ s σ ⟨s.β,M',w',s.own⟩ :=
  ⟨c,λb a _=>hk b a,λb o v e=>by rw[<-e];exact f b (h.block e) o,λb a _ o=>f b a o,λL h b a=>.inr ⟨L,h,a⟩,λ_ B L h g=>⟨B,L,h,g,.refl _ _⟩,j,k,i,rfl⟩
 refine⟨⟨?_,h.len,?_,h.eB,λL d b a=>cU (h.lt L d b a) c,λb a=>⟨cU (h.own b a).1 c,(h.own b a).2⟩⟩,st⟩
 .intro b o v e;rcases cD b s.w.heap.size with a|a
  .have hm':s.M b o=aa v:=by grind
   rw[<-h.mem b o v hm'];simp only[aV];grind
  grind
 .intro l B L hB d;exact(h.box l B L hB d).carry st.ext h.len λb a=>⟨hk b (h.lt L (bH d) b a),λo=>f b (h.lt L (bH d) b a) o⟩
def aF.write{σ:List aP}{s:St}(h:aF σ s){l b:Nat}{L:Loc}{E:aj}{cs na:List A}{a:List ah}(hB:σ[l]?=aa (.cells E cs))(d:s.β[l]?=aa L)(f:L.bs=[b])(r:dX σ s a na):aF (σ.set l (.cells E na)) {s with w:=s.w.setRow b a.toArray}/\Step σ s (σ.set l (.cells E na)) {s with w:=s.w.setRow b a.toArray}:=by
 have g:l<σ.length:=(bY.1 hB).1;obtain⟨j,vs,h1,h2,q,m⟩:=h.box l _ L hB d;subst h1;simp at f;subst f;have st:Step σ s (σ.set l (.cells E na)) {s with w:=s.w.setRow j a.toArray}:=by
  refine⟨by simp,?_,λ_ _ _ h=>h,λ_ _ _ _=>rfl,λL h b c=>.inr ⟨L,h,c⟩,?_,rfl,rfl,rfl,rfl⟩
  .intro b c p;exact setRow_other _ _ _ _ (λe=>p _ (bH d) (by simp[e]))
  .intro l' B L' j0 ff;by_cases e:l=l'
   .subst e;rw[hB]at j0;cases j0;exact⟨_,L',by rw[fU g],ff,by simp[gy]⟩
   .exact⟨B,L',by grind,ff,.refl _ _⟩
 refine⟨⟨?_,by simp[h.len],?_,h.eB,λL d b c=>by simpa using h.lt L d b c,λb c=>by simpa using h.own b c⟩,st⟩
 .intro b o v n;have k:b≠j:=λe=>by grind
  rw[<-h.mem b o v n];simp only[aV];grind[setRow_other]
 .intro l' B L' j0 ff;by_cases e:l=l'
  .subst e;rw[fU g]at j0;cases j0;rw[d]at ff;cases ff;exact⟨j,a,rfl,setRow_heap _ _ _ _ _ _ h2,r.mono st.ext h.len,m⟩
  .rw[j6 e]at j0;refine(h.box l' B L' j0 ff).carry st.ext h.len λb c=>⟨setRow_other _ _ _ _ λi=>?_,λ_=>rfl⟩
   subst i;exact e (h.eB l l' _ L' d ff b (by simp) c)
def RJ(σ:List aP)(s:St):Next->D->Prop
 |.value v,x=>dj σ s v x
 |.skip,x=>x=.any
 |_,_=>False
def bF(P:aq)(o:au)(c:ak->D)(σ:List aP)(x:D)(σ':List aP):Prop :=
 ∀s a,aF σ s->(∀y,dj σ s (a y) (c y))->∃b s',(aw a o).run P s.w=.ok b s'.w/\RJ σ' s' b x/\aF σ' s'/\Step σ s σ' s'/\eY s ((aw a o).events P s.w #[])
def bF.od{P:aq}{o:au}{b:ak->D}{σ:List aP}{x:D}(h:∀s a,aF σ s->(∀y,dj σ s (a y) (b y))->∃v,(aw a o).run P s.w=.ok (.value v) s.w/\dj σ s v x/\eY s ((aw a o).events P s.w #[])):bF P o b σ x σ :=
 λs a hh hr=>let ⟨v,h1,h2,c⟩:=h s a hh hr;⟨.value v,s,h1,h2,hh,.refl _ _,c⟩
def bF.quiet{P:aq}{o:au}{b:ak->D}{σ:List aP}{x:D}(h:∀s a,aF σ s->(∀y,dj σ s (a y) (b y))->∃v,(aw a o).run P s.w=.ok (.value v) s.w/\dj σ s v x/\(aw a o).events P s.w #[]=#[]):bF P o b σ x σ :=
 λs a hh hr=>let ⟨v,h1,h2,c⟩:=h s a hh hr;⟨.value v,s,h1,h2,hh,.refl _ _,by rw[c];exact .nil⟩
def N4:IntKind->Int->Bool
 |.i64,.ofNat m=>bu m 9223372036854775807
 |.i64,.negSucc m=>bu m 9223372036854775807
 |.u8,.ofNat m=>bu m 255
 |.i32,.ofNat m=>bu m 2147483647
 |.i32,.negSucc m=>bu m 2147483647
 |.u64,.ofNat m=>bu m 18446744073709551615
 |.u32,.ofNat m=>bu m 4294967295
 |_,_=>af
def RL{k:IntKind}{n:Int}(h:N4 k n=ab):bA k n:=by cases k<;>cases n<;>simp only[N4,bA]at h⊢<;>first|(cases h;done)|(have:=cV h;grind)
def qS:ah->Option C
 |.int k n=>cond (N4 k n) (aa (.int k n)) ae
 |.bool b=>aa (.bool b)
 |.string s=>cond (bu s.size 9223372036854775807) (aa (.str s.data.toList)) ae
 |.slice ae 0 0=>aa (.sl ab 0 0 (λ_=>[]))
 |.pointer ae=>aa .hY
 |.nilIface=>aa .iw
 |.nilFunc=>aa .xZ
 |.map m=>aa (.val (.map m))
 |_=>ae
theorem Rd.jF{M:Mem}{t:Bool}{k:Nat}{a:Option Addr}{es:Nat->List C}:Rd M (.slice a 0 0) (.sl t k 0 es) :=
 Rd.sl 0 0 (λ_ _=>ai) (bh _) (by omega) (λ_=>rfl) (by omega) (by omega) (by omega) (by omega)
def Rd.qS{M:Mem}{v:ah}{c:C}(h:qS v=aa c):Rd M v c:=by
 unfold AM.qS at h;split at h<;>first
  |(rename_i k n;cases a:N4 k n<;>rw[a]at h<;>cases h;exact .int (RL a))
  |(rename_i s;cases a:bu s.size 9223372036854775807<;>rw[a]at h<;>cases h;exact .str rfl (by rw[jh];exact cV a))
  |(cases h;done)
  |(cases h;exact .bool)
  |(cases h;exact Rd.jF)
  |(cases h;exact .hY)
  |(cases h;exact .iw)
  |(cases h;exact .xZ)
  |(cases h;exact .val rfl)
def dOf:Option C->D
 |some c=>.e (.one (.c c))
 |none=>.any
def bM(φ:Fr):ak->D
 |.tmp t=>look φ t
 |.const v=>dOf (qS v)
 |.func f=>.e (.one (.c (.fn (.func f) [] [])))
 |.global _=>.any
theorem cX{N:Nat}{σ:List aP}{s:St}{φ:Fr}{a:Act}(f:cm N σ s φ a)(y:ak):dj σ s (a.eval y) (bM φ y):=by
 cases y with
 |tmp t=>exact f.slot t
 |const v =>
  simp only[bM,Act.eval];cases h:qS v with
  |none=>trivial
  |some c=>exact Rd.qS h
 |func g =>
  exact Rd.fn [] [] rfl rfl (λ_=>ai) (λ_=>ai) (by simp) (by simp) (by simp) (by simp)
 |global g=>trivial
def kl:Option Nat->D->Fr->Fr
 |some t,x,φ=>(t,x)::φ
 |none,_,φ=>φ
def qY{P:aq}{X:Cx P}{S:av->St->Prop}{b:aR}{k:List Item}{cs:List aR}{a:Act}{s:St}{ops:Array au}{i:Nat}{rest:List Nat}{o:au}(m:b.kind≠.early)(p:ops[i]?=aa o)(n:bd o (yielded ops a.tmps)=ab)(h:∀c,ck s c->∃d s' v,(aw a.eval o).run P c.w=.ok d s'.w/\(d=.value v∨(d=.skip/\v=ai))/\qO c s' ((aw a.eval o).events P c.w #[])/\fA X S (G (b.aT (a.put o.dst v) (.inRegion ops rest::k)) cs) s'):
  fA X S (G (b.aT a (.inRegion ops (i::rest)::k)) cs) s:=by refine .next rfl λc j=>?_;obtain⟨d,s',v,l,g,e,f⟩:=h c (X.iv j);refine⟨_,s',Go.Conc.listed P b.fn a o c.w,?_,⟨e.1,e.2.seen⟩,f⟩;grind[I5,FA]
theorem bF.move{P:aq}{o:au}{a:ak->D}{σ:List aP}{x:ak}(h:o.op=.move x):bF P o a σ (a x) σ :=
 .quiet λs c _ b=>⟨c x,by simp[aw,h,pure],b x,by simp[aw,h]⟩
theorem bF.assign{P:aq}{o:au}{a:ak->D}{σ:List aP}{x:ak}(h:o.op=.assign x):bF P o a σ (a x) σ :=
 .quiet λs c _ b=>⟨c x,by simp[aw,h,pure],b x,by simp[aw,h]⟩
def eT{σ:List aP}{s:St}{v:ah}{c:C}(h:dj σ s v (.e (.one (.c c)))):Rd s.M v c:=h
def bF.pick{P:aq}{o:au}{f:ak->D}{σ:List aP}{c a b:ak}(h:o.op=.pick c a b){t:Bool}(j:f c=.e (.one (.c (.bool t)))):
  bF P o f σ (match t with|true=>f a|false=>f b) σ:=by
 refine .quiet λs i _ g=>?_;have h1:=g c;rw[j]at h1;have h2:=eT h1;generalize d:i c=v at h2;cases h2;cases t
 .exact⟨i b,by simp[aw,h,d,asBool],g b,by simp[aw,h,d,asBool]⟩
 .exact⟨i a,by simp[aw,h,d,asBool],g a,by simp[aw,h,d,asBool]⟩
def J9(op:BinOp)(k:IntKind)(x y:Int):Option (C×List Prop) :=
 match op with
 |.add=>aa (.int k (x+y),[bA k (x+y)])
 |.sub=>aa (.int k (x-y),[bA k (x-y)])
 |.mul=>aa (.int k (x*y),[bA k (x*y)])
 |.quo=>aa (.int k (x / y),[0<=x,0<y])
 |.rem=>aa (.int k (x % y),[0<=x,0<y])
 |.eql=>aa (.bool (x==y),[])
 |.neq=>aa (.bool (x != y),[])
 |.lss=>aa (.bool (decide (x<y)),[])
 |.leq=>aa (.bool (decide (x<=y)),[])
 |.gtr=>aa (.bool (decide (y<x)),[])
 |.geq=>aa (.bool (decide (y<=x)),[])
 |_=>ae
def Ka(op:BinOp)(x y:List UInt8):Option (C×List Prop) :=
 match op with
 |.add=>aa (.str (x++y),[x.length+y.length<=9223372036854775807])
 |.eql=>aa (.bool (x==y),[])
 |.neq=>aa (.bool (!(x==y)),[])
 |.lss=>aa (.bool (bk x y),[])
 |.leq=>aa (.bool (bk x y||x==y),[])
 |.gtr=>aa (.bool (!(bk x y||x==y)),[])
 |.geq=>aa (.bool (!(bk x y)),[])
 |_=>ae
@[simp] def az:List Prop->Prop
 |[]=>True
 |[p]=>p
 |p::q::r=>p/\az (q::r)
def az.cons{p:Prop}{r:List Prop}:az (p::r)↔p/\az r:=by cases r<;>simp
theorem mr{k:IntKind}{n:Int}(h:bA k n):k.wrap n=n:=by cases k<;>simp only[bA,IntKind.wrap,IntKind.bits,IntKind.signed]at h⊢<;>simp<;>(try split)<;>omega
def Kb{P:aq}{w:aA}{op:BinOp}{k:IntKind}{x y:Int}{c:C}{obs:List Prop}(h:J9 op k x y=aa (c,obs))(a:az obs)(g:bA k x)(i:bA k y)(t:aj)(M:Mem):
  ∃v,(binOp op t (.int k x) (.int k y)).run P w=.ok v w/\Rd M v c:=by
 cases op<;>simp only[J9,dm,lT,reduceCtorEq]at h
 case add=>obtain⟨rfl,rfl⟩:=h;exact⟨_,by simp only[binOp,dq,fb,b7,Op.intArith,mr a];rfl,.int a⟩
 case sub=>obtain⟨rfl,rfl⟩:=h;exact⟨_,by simp only[binOp,dq,fb,b7,Op.intArith,mr a];rfl,.int a⟩
 case mul=>obtain⟨rfl,rfl⟩:=h;exact⟨_,by simp only[binOp,dq,fb,b7,Op.intArith,mr a];rfl,.int a⟩
 case quo =>
  obtain⟨rfl,rfl⟩:=h;obtain⟨d,b⟩:=a;replace b:0<y:=b;have e:x.tdiv y=x / y:=Int.tdiv_eq_ediv_of_nonneg d;have f:bA k (x / y):=by have l:0<=x / y:=Int.ediv_nonneg d (by omega);have j:x / y<=x:=Int.ediv_le_self _ d;cases k<;>simp only[bA]at g⊢<;>omega
  exact⟨_,by simp only[binOp,dq,fb,b7,Op.intDiv,show y≠0 by omega,e,mr f];rfl,.int f⟩
 case rem =>
  obtain⟨rfl,rfl⟩:=h;obtain⟨d,b⟩:=a;replace b:0<y:=b;have e:x.tmod y=x % y:=Int.tmod_eq_emod_of_nonneg d;have f:bA k (x % y):=by have l:0<=x % y:=pR _ (by omega);have j:x % y<y:=pO _ b;cases k<;>simp only[bA]at i⊢<;>omega
  exact⟨_,by simp only[binOp,dq,fb,b7,Op.intDiv,show y≠0 by omega,e];rfl,.int f⟩
 all_goals (obtain⟨rfl,rfl⟩:=h;exact⟨_,by simp only[binOp,dq,fb,b7,Op.intCmp,gt_iff_lt,ge_iff_le];rfl,.bool⟩)
def Kc{P:aq}{w:aA}{op:BinOp}{x y:ByteArray}{a b:List UInt8}{c:C}{obs:List Prop}(h:Ka op a b=aa (c,obs))(d:az obs)(f:x.data.toList=a)(g:y.data.toList=b)(t:aj)(M:Mem):
  ∃v,(binOp op t (.string x) (.string y)).run P w=.ok v w/\Rd M v c:=by
 subst f g;cases op<;>simp only[Ka,dm,lT,reduceCtorEq]at h
 case add =>
  obtain⟨rfl,rfl⟩:=h;have i:¬((x.size+y.size:Nat):Int)>IntKind.i64.max:=by have l:x.data.toList.length=x.size:=jh;have k:y.data.toList.length=y.size:=jh;have e:IntKind.i64.max=9223372036854775807:=rfl;have j:x.data.toList.length+y.data.toList.length<=9223372036854775807:=d;grind
  refine⟨_,by simp only[binOp,Op.stringOp,i,b7];rfl,.str (by simp) (by simpa using d)⟩
 all_goals (obtain⟨rfl,rfl⟩:=h;exact⟨_,by simp only[binOp,Op.stringOp,ByteArray.toList_eq];rfl,.bool⟩)
def N5{P:aq}{w:aA}{op:BinOp}{k:IntKind}{x y:Int}{c:C}{obs:List Prop}(h:J9 op k x y=aa (c,obs))(b:az obs)(t:aj):
  (binOp op t (.int k x) (.int k y)).events P w #[]=#[]:=by
 cases op<;>simp only[J9,dm,lT,reduceCtorEq]at h
 case quo =>
  obtain⟨rfl,rfl⟩:=h;obtain⟨d,a⟩:=b;replace a:0<y:=a;simp only[binOp,dq,fb,b7,Op.intDiv,show y≠0 by omega];rfl
 case rem =>
  obtain⟨rfl,rfl⟩:=h;obtain⟨d,a⟩:=b;replace a:0<y:=a;simp only[binOp,dq,fb,b7,Op.intDiv,show y≠0 by omega];rfl
 all_goals (simp only[binOp,dq,fb,b7,Op.intCmp,Op.intArith];rfl)
def N6{P:aq}{w:aA}{op:BinOp}{x y:ByteArray}{a b:List UInt8}{c:C}{obs:List Prop}(h:Ka op a b=aa (c,obs))(i:az obs)(d:x.data.toList=a)(f:y.data.toList=b)(t:aj):
  (binOp op t (.string x) (.string y)).events P w #[]=#[]:=by
 subst d f;cases op<;>simp only[Ka,dm,lT,reduceCtorEq]at h
 case add =>
  obtain⟨rfl,rfl⟩:=h;have g:¬((x.size+y.size:Nat):Int)>IntKind.i64.max:=by have l:x.data.toList.length=x.size:=jh;have k:y.data.toList.length=y.size:=jh;have e:IntKind.i64.max=9223372036854775807:=rfl;have j:x.data.toList.length+y.data.toList.length<=9223372036854775807:=i;grind
  simp only[binOp,Op.stringOp,g,b7];rfl
 all_goals (simp only[binOp,Op.stringOp];rfl)
def Hu:IntKind->IntKind->Bool
 |.i8,.i8|.i16,.i16|.i32,.i32|.i64,.i64|.u8,.u8|.u16,.u16|.u32,.u32|.u64,.u64=>ab
 |_,_=>af
def Aa{k k':IntKind}(h:Hu k k'=ab):k=k':=by cases k<;>cases k'<;>first|rfl|(cases h;done)
def NA(op:BinOp):C->C->Option (C×List Prop)
 |.int k x,.int k' y=>cond (Hu k k') (J9 op k x y) ae
 |.str a,.str b=>Ka op a b
 |_,_=>ae
def gM{P:aq}(op:BinOp)(t:aj)(x y:ak)(k k':IntKind)(n a:Int)(u:aA):(eqGuard op t x y (.int k n) (.int k' a)).run P u=.ok () u:=by cases op<;>rfl
def um{P:aq}(op:BinOp)(t:aj)(x y:ak)(a b:ByteArray)(u:aA):(eqGuard op t x y (.string a) (.string b)).run P u=.ok () u:=by cases op<;>rfl
def jG{P:aq}(op:BinOp)(t:aj)(x y:ak)(k k':IntKind)(n a:Int)(u:aA)(es:Array Event):(eqGuard op t x y (.int k n) (.int k' a)).events P u es=es:=by cases op<;>rfl
def wO{P:aq}(op:BinOp)(t:aj)(x y:ak)(a b:ByteArray)(u:aA)(es:Array Event):(eqGuard op t x y (.string a) (.string b)).events P u es=es:=by cases op<;>rfl
theorem bF.binOp{P:aq}{o:au}{p:ak->D}{σ:List aP}{op:BinOp}{t ty:aj}{x y:ak}(h:o.op=.binOp op t x y ty){a b c:C}{obs:List Prop}(B:p x=.e (.one (.c a)))(A:p y=.e (.one (.c b)))(g:NA op a b=aa (c,obs))(i:az obs):bF P o p σ (.e (.one (.c c))) σ:=by
 refine .quiet λs u _ q=>?_;have h1:=q x;have h2:=q y;rw[B]at h1;rw[A]at h2;replace h1:=eT h1;replace h2:=eT h2;generalize d:u x=vx at h1;generalize f:u y=vy at h2;cases h1<;>cases h2<;>simp only[NA,reduceCtorEq]at g
 case int.int k n z k' n' hn' =>
  cases hk:Hu k k'<;>simp only[hk,cond,reduceCtorEq]at g
  cases Aa hk;obtain⟨v,j,m⟩:=Kb (P:=P) (w:=s.w) g i z hn' t s.M;exact⟨v,by simp only[aw,h,bL,d,f,gM,bU,j,dn],m,by simp[aw,h,d,f,gM,jG,N5 g i]⟩
 case str.str =>
  rename_i E l r hl y' l' hy Ds;obtain⟨v,j,m⟩:=Kc (P:=P) (w:=s.w) g i r hy t s.M;exact⟨v,by simp only[aw,h,bL,d,f,um,bU,j,dn],m,by simp[aw,h,d,f,um,wO,N6 g i r hy]⟩
def W9(op:UnOp):C->Option C
 |.bool b=>match op with|.not=>aa (.bool (!b))|_=>ae
 |_=>ae
theorem bF.unOp{P:aq}{o:au}{f:ak->D}{σ:List aP}{op:UnOp}{t:aj}{x:ak}(h:o.op=.unOp op t x){a c:C}(i:f x=.e (.one (.c a)))(d:W9 op a=aa c):bF P o f σ (.e (.one (.c c))) σ:=by
 refine .quiet λs j _ g=>?_;have h1:=g x;rw[i]at h1;replace h1:=eT h1;generalize b:j x=vx at h1;cases h1<;>simp only[W9,reduceCtorEq]at d
 cases op<;>simp only[reduceCtorEq,dm]at d
 subst d;exact⟨_,by simp only[aw,h,b,Op.unary,bL,dn,bU],Rd.bool,by simp[aw,h,b,Op.unary]⟩
theorem gZ.get{σ:List aP}{s:St}{vs:List ah}{xs:List E1}(r:gZ σ s vs xs){j:Nat}{x:E1}(h:xs[j]?=aa x):∃v,vs[j]?=aa v/\m7 σ s v x:=by
 induction vs generalizing xs j with
 |nil=>cases xs<;>simp_all[gZ]
 |cons v vs ih =>
  cases xs with
  |nil=>grind
  |cons b cs =>
   cases j with
   |zero=>simp at h;subst h;exact⟨v,rfl,r.1⟩
   |succ j=>simp at h;obtain⟨u,c,a⟩:=ih r.2 h;grind
theorem bF.extract{P:aq}{o:au}{c:ak->D}{σ:List aP}{x:ak}{j:Nat}(h:o.op=.extract x j){xs:List E1}{e:E1}(k:c x=.eX xs)(g:xs[j]?=aa e):bF P o c σ (.e e) σ:=by refine .quiet λs l _ d=>?_;have h1:=d x;rw[k]at h1;obtain⟨vs,f,i⟩:=h1;obtain⟨v,a,b⟩:=i.get g;refine⟨v,?_,b,?_⟩<;>simp[aw,h,f,Instr.extract,a]
def zv(b o:Nat):Event:=⟨.cell ⟨b,o,ae⟩,af,af⟩
def Hb(b o:Nat):Event:=⟨.cell ⟨b,o,ae⟩,ab,af⟩
theorem dk(b o n:Nat):(⟨b,o,ae⟩:Addr).add n=⟨b,o+n,ae⟩:=by unfold Addr.add;split<;>simp_all
section
variable {P:aq}
def zy{w:aA}{b o:Nat}{v:ah}(h:w.cell? ⟨b,o,ae⟩=aa v)(es:Array Event):(load ⟨b,o,ae⟩).events P w es=es.push (zv b o):=by rw[events_load,h];rfl
def nv{w:aA}{b o:Nat}:∀(n i:Nat) (acc:Array ah) (es:Array Event),(∀j,j<n->∃v,w.cell? ⟨b,o+(i+j),ae⟩=aa v) ->
    ∀e∈(loadCellsFrom ⟨b,o,ae⟩ i n acc).events P w es,e∈es∨∃j,j<i+n/\e=zv b (o+j)
  | 0,i,acc,es,_=>λe h=>.inl (by simpa[loadCellsFrom]using h)
  | n+1,i,acc,es,d=>λe h=>by
    obtain⟨v,a⟩:=d 0 (by omega);simp only[iq]at a;simp only[loadCellsFrom,aM,dk,run_load,a,aO,zy a]at h;rcases nv n (i+1) (acc.push v) _ (λj c=>by grind) e h with f|⟨j,c,rfl⟩
    · grind
    grind
def rP{w:aA}{b o n:Nat}{es:Array Event}(h:∀j,j<n->∃v,w.cell? ⟨b,o+j,ae⟩=aa v):∀e∈(loadCells ⟨b,o,ae⟩ n).events P w es,e∈es∨∃j,j<n/\e=zv b (o+j):=by intro e a;have:=nv (P:=P) n 0 #[] es (by grind) e a;grind
def dE{b o:Nat}{t:aj}:∀(vs:List ah) (i:Nat) (a:Array ah) (w:aA) (es:Array Event),w.heap[b]?=aa (.cells a t (0,0))->o+i+vs.length<=a.size->(∀v∈vs,v.oneCell'=ab) ->
    ∀e∈(storeCells ⟨b,o,ae⟩ vs i).events P w es,e∈es∨∃j,i<=j/\j<i+vs.length/\e=Hb b (o+j)
  | [],_,_,_,_,_,_,_=>λe h=>.inl (by simpa[storeCells]using h)
  | v::rest,i,a,w,es,k,n,l=>λe h=>by
    have hi:o+i<a.size:=by grind
    have c:w.cell? ⟨b,o+i,ae⟩=aa a[o+i]:=by simp[aV,k,hi]
    have d:w.frozen? ⟨b,o+i,ae⟩=af:=by simp[World.frozen?,k]
    have f:(store (⟨b,o+i,ae⟩:Addr) v).run P w=.ok () (w.setRow b (a.setIfInBounds (o+i) v)):=by grind[run_store,setCell_eq_setRow]
    have g:(store (⟨b,o+i,ae⟩:Addr) v).events P w es=es.push (Hb b (o+i)):=by rw[events_store P w es _ v _ (l v (by simp)),c];simp only[d,jz,b7];rfl
    simp only[storeCells,aM,dk,f,g,aO]at h;rcases dE rest (i+1) (a.setIfInBounds (o+i) v) _ _ (setRow_heap _ _ _ _ _ _ k) (by grind) (λu q=>l u (by grind)) e h with r|⟨j,p,m,rfl⟩
    · grind
    grind
def cZ{α:Type}(P:aq)(m:Sem α):Prop:=∀w es,m.events P w es=es
def cZ.bind{α β:Type}{m:Sem α}{f:α->Sem β}(h:cZ P m)(k:∀a,cZ P (f a)):cZ P (m >>= f):=by
  intro w es;rw[aM,h w es];cases m.run P w with
  | ok a w'=>exact k a w' es
  | halt x w'=>rfl
def cZ.pure{α:Type}{a:α}:cZ P (Pure.pure a:Sem α):=λ_ _=>rfl
def cZ.stuck{α:Type}{a:String}:cZ P (Go.stuck a:Sem α):=λ_ _=>rfl
def cZ.unsupported{α:Type}{u:Unsupported}:cZ P (Go.unsupported u:Sem α):=λ_ _=>rfl
def cZ.sizeOf{t:aj}:cZ P (sizeOf t):=λ_ _=>events_sizeOf ..
def cZ.underlying{t:aj}:cZ P (underlying t):=λ_ _=>events_underlying ..
def cZ.zeroValue{t:aj}:cZ P (zeroValue t):=λ_ _=>events_zeroValue ..
def cZ.newObj{o:Obj}:cZ P (newObj o):=λ_ _=>rfl
def cZ.newRow{t:aj}{c:Array ah}:cZ P (newRow t c):=.bind .newObj λ_=>.pure
def cZ.PT{α β:Type}{f:α->Sem β}(h:∀a,cZ P (f a)):∀l:List α,cZ P (l.mapM f)
  | []=>by rw[List.mapM_nil];exact .pure
  | a::l=>by rw[n3];exact .bind (h a) λ_=>.bind (cZ.PT h l) λ_=>.pure
def cZ.map{α β:Type}{f:α->β}{m:Sem α}(h:cZ P m):cZ P (Functor.map f m):=λw es=>by rw[Sem.events_map];exact h w es
def cZ.Uw{α β:Type}{f:α->Sem β}(h:∀a,cZ P (f a))(l:Array α):cZ P (l.mapM f):=by rw[qK];exact .map (.PT h _)
def cZ.Jv{α β:Type}{F:α->β->Sem (ForInStep β)}(h:∀a b,cZ P (F a b)):∀(l:List α) (b:β),cZ P (forIn l b F)
  | [],b=>by rw[List.forIn_nil];exact .pure
  | a::l,b=>by
    rw[List.forIn_cons];refine .bind (h a b) λr=>?_;cases r with
    | done b=>exact .pure
    | yield b=>exact cZ.Jv h l b
theorem cZ.build{t:aj}{parts:Array (Nat×ah)}:cZ P (Instr.build t parts):=by
  unfold Instr.build;refine .bind .zeroValue λz=>.bind .underlying λd=>?_;cases d<;>first
    | exact .stuck
    | (refine .bind (.Uw (λ_=>.bind .sizeOf λ_=>.pure) _) λpl=>?_
       split
       · exact .pure
       · exact .stuck)
    | (refine .bind .sizeOf λn=>?_
       split
       · exact .pure
       · exact .stuck)
theorem cZ.buildSlice{t:aj}{n:Nat}{parts:Array (Nat×ah)}:cZ P (Instr.buildSlice t n parts):=by
  unfold Instr.buildSlice;refine .bind .underlying λd=>?_;cases d<;>first
    | exact .stuck
    | (refine .bind .sizeOf λm=>?_
       dsimp only
       have hj:∀(elem:aj) (zero:Array ah),cZ P (match Instr.fill (λi=>aa (i*m,m)) (Array.map (λx=>zero[x % zero.size]!) (Array.range (n*m))) parts.toList with
          | some cells=>do
            let a<-Go.newRow elem cells
            Pure.pure (Value.slice (aa a) n n)
          | _=>Go.stuck "buildSlice: a part of the wrong size"):=by
         intro elem zero;split
         · exact .bind .newRow λ_=>.pure
         · exact .stuck
       by_cases b:n*m=0
       · simp only[b,cj]
         rw[b]at hj;split
         · grind
         · exact .bind .pure λz=>hj _ z
       · simp only[b,b7]
         split
         · exact .bind .unsupported λ_=>.bind .zeroValue λz=>.bind .pure λz=>hj _ z
         · exact .bind .zeroValue λz=>.bind .pure λz=>hj _ z)
def jH{s:St}{b o:Nat}{L:Loc}(a:L∈s.β)(c:b∈L.bs):oa s (zv b o):=⟨rfl,rfl,.inr (.inl ⟨⟨L,a,c⟩,λh=>by cases h⟩)⟩
def Bm{s:St}{b o:Nat}{v:ah}(h:s.M b o=aa v):oa s (zv b o):=⟨rfl,rfl,.inr (.inr ⟨rfl,v,h⟩)⟩
theorem jE{s:St}{b o:Nat}{L:Loc}(c:L∈s.β)(d:b∈L.bs)(a:s.M b o=ae):oa s (Hb b o):=⟨rfl,rfl,.inr (.inl ⟨⟨L,c,d⟩,λ_=>a⟩)⟩
end
structure TI where
 size:Nat
 bytes:Nat
 agg:Bool
 desc:TypeDesc
 zero:List C
 eq:List TypeDesc:=[]
def rh:TypeDesc->ah->ah->Option Bool
 |.int _,.int k a,.int k' b=>if k=k' then aa (a==b)else ae
 |.string,.string a,.string b=>aa (a.toList==b.toList)
 |.bool,.bool a,.bool b=>aa (a==b)
 |_,_,_=>ae
def jQ:List TypeDesc->List ah->List ah->Option Bool
 |[],[],[]=>aa ab
 |d::ds,v::vs,w::ws=>match rh d v w with
  |some a=>match jQ ds vs ws with
   |some b=>aa (a&&b)
   |none=>ae
  |none=>ae
 |_,_,_=>ae
def Ah:TypeDesc->Bool
 |.struct _|.array _ _=>ab
 |_=>af
structure dx(P:aq)(t:aj)(i:TI):Prop where
 TG:P.underlying t=aa i.desc
 agg:Ah i.desc=i.agg
 info:∃inf z,P.info? t=aa inf/\inf.size=i.size/\inf.bytes=i.bytes/\inf.zero=aa z/\z.cells.toList.map qS=i.zero.map aa/\(∃cs,z=if i.agg then .agg cs else z)/\i.zero.length=i.size
 eqs:i.eq≠[]->P.eqGuardType P.depth t=af/\∀(w:aA) (vs ws:List ah) (b:Bool),jQ i.eq vs ws=aa b->(Op.equal t (.agg vs.toArray) (.agg ws.toArray)).run P w=.ok b w/\∀es,(Op.equal t (.agg vs.toArray) (.agg ws.toArray)).events P w es=es
def bD:List (Nat×TI)->Nat->Option TI
 |[],_=>ae
 |(i,d)::r,t=>cond (aB i t) (aa d) (bD r t)
def cN(P:aq)(T:List (Nat×TI)):Prop:=∀t i,bD T t=aa i->dx P t i
section
variable {P:aq}{w:aA}{t:aj}{i:TI}
def dx.run_underlying(h:dx P t i):(underlying t).run P w=.ok i.desc w:=by simp[underlying,h.TG]
def dx.ki(h:dx P t i):(isAgg t).run P w=.ok i.agg w:=by have:=h.agg;unfold Go.isAgg;rw[bL,h.run_underlying];cases a:i.desc<;>rw[a]at this<;>simp[Ah]at this<;>simp[this]
def dx.run_sizeOf(h:dx P t i):(sizeOf t).run P w=.ok i.size w:=by obtain⟨a,z,h1,h2,_⟩:=h.info;simp[sizeOf,typeInfo,h1,h2]
def kJ{σ:List aP}{s:St}:∀{vs:List ah}{cs:List C},vs.map qS=cs.map aa->dX σ s vs (cs.map A.c)
 |[],[],_=>trivial
 |[],_::_,h=>by grind
 |_::_,[],h=>by grind
 |v::vs,c::cs,h=>by simp only[pU,List.cons.injEq]at h;exact⟨Rd.qS h.1,kJ h.2⟩
def dx.B5(h:dx P t i)(σ:List aP)(s:St):∃z,(zeroValue t).run P w=.ok z w/\dX σ s z.cells.toList (i.zero.map A.c):=by obtain⟨d,z,h1,h2,e,b,a,_⟩:=h.info;exact⟨z,by simp[zeroValue,typeInfo,h1,b],kJ a⟩
end
def km:D->Option (List A)
 |.e (.one a)=>aa [a]
 |.e (.agg cs)=>aa cs
 |_=>ae
theorem lO{σ:List aP}{s:St}{v:ah}{d:D}{cs:List A}(h:km d=aa cs)(r:dj σ s v d):dX σ s v.cells.toList cs:=by
 cases d with
 |e x =>
  cases x with
  |one a =>
   cases h;have:=gn.cell r;cases v<;>first|exact⟨r,ay⟩|cases this
  |agg c =>
   cases h;obtain⟨vs,rfl,b⟩:=r;simpa[Value.cells]using b
 |eX xs=>cases h
 |any=>cases h
def bF.newVar{P:aq}{o:au}{b:ak->D}{σ:List aP}{E:aj}{cs:List A}(h:∀s a,aF σ s->(∀y,dj σ s (a y) (b y))->∃v:ah,(aw a o).run P s.w=((do pure (.value (.pointer (aa (<-newVar E v))))):Sem Next).run P s.w/\dX σ s v.cells.toList cs/\(aw a o).events P s.w #[]=#[]):
  bF P o b σ (.e (.one (.ptr σ.length 0))) (σ++[.cells E cs]):=by
 intro s a hh hr;obtain⟨v,h1,h2,c⟩:=h s a hh hr;refine⟨.value (.pointer (aa ⟨s.w.heap.size,0,ae⟩)),s.fO E v.cells.toList,?_,?_,hh.fO h2,.fO s E _ _,by rw[c];exact .nil⟩
 .rw[h1];simp[Go.newVar,newRow,St.fO]
 .refine⟨by simp,⟨.pointer (aa ⟨s.w.heap.size,0,ae⟩),[s.w.heap.size]⟩,s.w.heap.size,?_,rfl,rfl⟩;simp[St.fO,<-hh.len]
theorem bF.alloc{P:aq}{T:List (Nat×TI)}(hT:cN P T){o:au}{d:ak->D}{σ:List aP}{E:aj}(h:o.op=.alloc E){i:TI}(hi:bD T E=aa i):
  bF P o d σ (.e (.one (.ptr σ.length 0))) (σ++[.cells E (i.zero.map A.c)]):=by refine .newVar λs f _ _=>?_;obtain⟨z,a,b⟩:=(hT E i hi).B5 (w:=s.w) σ s;exact⟨z,by simp[aw,h,Instr.alloc,a],b,by simp[aw,h,Instr.alloc,a,Go.newVar,newRow]⟩
theorem bF.box{P:aq}{o:au}{a:ak->D}{σ:List aP}{E:aj}{x:ak}(h:o.op=.box E x){cs:List A}(d:km (a x)=aa cs):
  bF P o a σ (.e (.one (.ptr σ.length 0))) (σ++[.cells E cs]) :=
 .newVar λs c _ b=>⟨c x,by simp[aw,h,Instr.box],lO d (b x),by simp[aw,h,Instr.box,Go.newVar,newRow]⟩
def oC{α:Type}:Nat->List α->Option (List α)
 |0,_=>aa []
 |n+1,x::xs=>match oC n xs with|some r=>aa (x::r)|none=>ae
 |_+1,[]=>ae
def nk{α:Type}:∀{n:Nat}{l r:List α},oC n l=aa r->r=l.take n/\r.length=n
 |0,l,r,h=>by cases h;simp
 |n+1,[],r,h=>by simp[oC]at h
 |n+1,x::xs,r,h=>by
  simp only[oC]at h;cases a:oC n xs with
  |none=>grind
  |some q =>
   simp[a]at h;subst h;obtain⟨c,b⟩:=nk a;grind
def dt{α:Type}:Nat->List α->Option α
 |_,[]=>ae
 |0,x::_=>aa x
 |n+1,_::xs=>dt n xs
theorem b5{α:Type}:∀{n:Nat}{l:List α}{x:α},dt n l=aa x->l[n]?=aa x
 |_,[],_,h=>by simp[dt]at h
 |0,x::_,_,h=>by simpa[dt]using h
 |n+1,_::xs,_,h=>by simpa using b5 (n:=n) (l:=xs) h
def fK{α:Type}:Nat->List α->List α
 |0,l=>l
 |_+1,[]=>[]
 |n+1,_::xs=>fK n xs
def l5{α:Type}:∀(n:Nat)(l:List α),fK n l=l.drop n
 |0,_=>by simp[fK]
 |_+1,[]=>by simp[fK]
 |n+1,_::xs=>by simp[fK,l5 n xs]
def kN(i:TI)(cs:List A):Option E1 :=
 match i.agg with
 |true=>match oC i.size cs with|some r=>aa (.agg r)|none=>ae
 |false=>match dt 0 cs with|some a=>aa (.one a)|none=>ae
def iA{P:aq}{σ:List aP}{s:St}{t:aj}{i:TI}(l:dx P t i){b off:Nat}{vs:List ah}{cs:List A}{e:E1}(u:∀(j:Nat) (v:ah),vs[j]?=aa v->s.w.cell? ⟨b,off+j,ae⟩=aa v)(k:dX σ s vs cs)(g:kN i cs=aa e):
  ∃v,(loadVar t ⟨b,off,ae⟩).run P s.w=.ok v s.w/\m7 σ s v e:=by
 simp only[loadVar,bL,l.ki,bU];cases o:i.agg<;>simp only[kN,o]at g
 .cases d:dt 0 cs with
  |none=>grind
  |some a =>
   simp[d]at g;subst g;obtain⟨v,q,h⟩:=k.get (b5 d);refine⟨v,?_,h⟩;grind[run_load]
 .cases d:oC i.size cs with
  |none=>grind
  |some r =>
   simp[d]at g;subst g;obtain⟨p,n⟩:=nk d;have c:=k.take i.size;rw[<-p]at c;have m:(vs.take i.size).length=i.size:=by rw[c.length,n]
   have f:=run_loadCells_list (P:=P) s.w ⟨b,off,ae⟩ (vs.take i.size) (λj v x=>by grind[dk])
   rw[m]at f;refine⟨.agg (vs.take i.size).toArray,?_,vs.take i.size,rfl,c⟩;simp[l.run_sizeOf,f]
def fZ{P:aq}{w:aA}{t:aj}{i:TI}(g:dx P t i){b off n:Nat}(f:∀j,j<n->∃v,w.cell? ⟨b,off+j,ae⟩=aa v)(c:(if i.agg then i.size else 1)<=n):
  ∀e∈(loadVar t ⟨b,off,ae⟩).events P w #[],∃j,j<n/\e=zv b (off+j):=by
 intro e a;simp only[loadVar,aM,g.ki,aO,events_isAgg]at a;cases k:i.agg
 .rw[k]at c a;obtain⟨v,d⟩:=f 0 (by grind);simp only[iq]at d;simp only[jz,b7,zy d]at a;rcases Array.mem_push.1 a with h|rfl
  .grind
  .exact⟨0,by grind,rfl⟩
 .rw[k]at c a;simp only[cj]at c;simp only[cj,aM,g.run_sizeOf,aO,events_sizeOf]at a;have key:∀e∈(loadCells ⟨b,off,ae⟩ i.size).events P w #[],∃j,j<n/\e=zv b (off+j):=by
   intro e a;rcases rP (P:=P) (λj l=>f j (by omega)) e a with h|⟨j,l,rfl⟩
   .grind
   grind
  apply key;generalize(loadCells ⟨b,off,ae⟩ i.size).run P w=r at a;cases r with
  |ok v w'=>simpa using a
  |halt x w'=>simpa using a
theorem kO{i:TI}{cs:List A}{e:E1}(h:kN i cs=aa e):(if i.agg then i.size else 1)<=cs.length:=by
 unfold kN at h;cases b:i.agg<;>rw[b]at h
 .cases cs with
  |nil=>simp[dt]at h
  |cons c cs=>simp
 .simp only at h;cases a:oC i.size cs with
  |none=>grind
  |some r =>
   obtain⟨f,d⟩:=nk a;grind
theorem bF.FO{P:aq}{T:List (Nat×TI)}(hT:cN P T){o:au}{B:ak->D}{σ:List aP}{t:aj}{x:ak}(h:o.op=.load t x){l off:Nat}{E:aj}{cs:List A}{i:TI}{e:E1}(C:B x=.e (.one (.ptr l off)))(hB:σ[l]?=aa (.cells E cs))(hi:bD T t=aa i)(z:kN i (fK off cs)=aa e):bF P o B σ (.e e) σ:=by
 refine .od λs F hh hr=>?_
 have h1:=hr x;rw[C]at h1;obtain⟨_,L,b,p,a,r⟩:=h1;obtain⟨m,vs,rfl,y,c,_⟩:=hh.box l _ L hB p;simp at a;subst a;rw[l5]at z;obtain⟨v,f,k⟩:=iA (s:=s) (σ:=σ) (P:=P) (hT t i hi) (b:=m) (off:=off) (vs:=vs.drop off) (cs:=cs.drop off) (e:=e) (λj v hj=>by
  simp only[aV,y]
  grind) (c.drop off) z
 refine⟨v,by simp[aw,h,r,Instr.loadAt,bq,f],k,λu g=>?_⟩;have d:u∈(loadVar t ⟨m,off,ae⟩).events P s.w #[]:=by
  have e:aw F o=(do pure (.value (<-loadVar t ⟨m,off,ae⟩))):=by simp[aw,h,r,Instr.loadAt,bq]
  rw[e]at g;simpa[f]using g
 have q:(vs.drop off).length=(cs.drop off).length:=(c.drop off).length;obtain⟨j,hj,rfl⟩:=fZ (hT t i hi) (n:=(vs.drop off).length) (λj hj=>by refine⟨(vs.drop off)[j],?_⟩;simp only[aV,y];simp at hj⊢<;>omega) (by grind[kO]) u d
 exact jH (bH p) (by simp)
theorem bF.JD{P:aq}{T:List (Nat×TI)}(hT:cN P T){o:au}{B:ak->D}{σ:List aP}{t:aj}{x:ak}(h:o.op=.load t x){cs:List C}{i:TI}{e:E1}(F:B x=.e (.one (.c (.rp cs))))(hi:bD T t=aa i)(z:kN i (cs.map A.c)=aa e):bF P o B σ (.e e) σ:=by
 refine .od λs E hh hr=>?_;have h1:=hr x;rw[F]at h1;have h2:=eT h1;generalize a:E x=vx at h2;cases h2;rename_i b off f r G;have q:∀(n:Nat) (ds:List C),(∀j c,ds[j]?=aa c->Rd s.M (f (n+j)) c)->dX σ s ((bg ds.length).map λj=>f (n+j)) (ds.map A.c):=by
  intro n ds;induction ds generalizing n with
  |nil=>intro _;trivial
  |cons d ds ih =>
   intro u;rw[eU,uX];refine⟨u 0 d rfl,?_⟩;have:=ih (n+1) (λj c hj=>by have:=u (j+1) c (by grind);grind);grind[Function.comp_def]
 obtain⟨v,k,p⟩:=iA (s:=s) (σ:=σ) (P:=P) (hT t i hi) (b:=b) (off:=off) (vs:=(bg cs.length).map λj=>f (0+j)) (cs:=cs.map A.c) (e:=e) (λj v hj=>by
  simp only[mU,bC]at hj;by_cases l:j<cs.length
  .simp[l]at hj;subst hj;exact hh.mem _ _ _ (r j cs[j] (br l))
  grind) (q 0 cs (by grind)) z
 refine⟨v,by simp[aw,h,a,Instr.loadAt,bq,k],p,λy m=>?_⟩;have g:y∈(loadVar t ⟨b,off,ae⟩).events P s.w #[]:=by
  have e:aw E o=(do pure (.value (<-loadVar t ⟨b,off,ae⟩))):=by simp[aw,h,a,Instr.loadAt,bq]
  rw[e]at m;simpa[k]using m
 obtain⟨j,hj,rfl⟩:=fZ (hT t i hi) (n:=cs.length) (λj hj=>⟨f j,hh.mem _ _ _ (r j cs[j] (br hj))⟩) (by have:=kO z;grind) y g;exact Bm (r j cs[j] (br hj))
def fj{α:Type}:Nat->List α->List α->Option (List α)
 |0,[],l=>aa l
 |0,n::ns,_::cs=>match fj 0 ns cs with|some r=>aa (n::r)|none=>ae
 |k+1,ns,c::cs=>match fj k ns cs with|some r=>aa (c::r)|none=>ae
 |_,_,[]=>ae
def qj{α:Type}:∀{off:Nat}{new l r:List α},fj off new l=aa r->off+new.length<=l.length/\r=l.take off++new++l.drop (off+new.length)
 |0,[],l,r,h=>by cases l<;>cases h<;>simp
 |0,n::ns,c::cs,r,h=>by
  simp only[fj]at h;cases a:fj 0 ns cs with
  |none=>grind
  |some q =>
   simp[a]at h;subst h;obtain⟨d,b⟩:=qj a;grind
 |0,n::ns,[],r,h=>by simp[fj]at h
 |k+1,ns,c::cs,r,h=>by
  simp only[fj]at h;cases a:fj k ns cs with
  |none=>grind
  |some q =>
   simp[a]at h;subst h;obtain⟨d,b⟩:=qj a;grind
 |k+1,ns,[],r,h=>by simp[fj]at h
def dX.fj{σ:List aP}{s:St}{off:Nat}{vs new:List ah}{cs RM r:List A}(h:AM.fj off RM cs=aa r)(h1:dX σ s vs cs)(h2:dX σ s new RM):
  off+new.length<=vs.length/\dX σ s (vs.take off++new++vs.drop (off+new.length)) r:=by obtain⟨k1,rfl⟩:=qj h;rw[h2.length,h1.length];refine⟨k1,((h1.take off).append h2).append (by have:=h1.drop (off+RM.length);exact this)⟩
theorem bF.store{P:aq}{T:List (Nat×TI)}(hT:cN P T){o:au}{z:ak->D}{σ:List aP}{t:aj}{x y:ak}(h:o.op=.store t x y){l off:Nat}{E:aj}{cs new na:List A}{i:TI}(H:z x=.e (.one (.ptr l off)))(hB:σ[l]?=aa (.cells E cs))(hi:bD T t=aa i)(J:km (z y)=aa new)(G:new.length=i.size)(K:fj off new cs=aa na):
  bF P o z σ .any (σ.set l (.cells E na)):=by
 intro s d hh hr;have h1:=hr x;rw[H]at h1;obtain⟨_,L,b,u,n,F⟩:=h1;obtain⟨p,vs,rfl,B,q,k⟩:=hh.box l _ L hB u;simp at n;subst n;have c:=lO J (hr y);obtain⟨k1,M⟩:=dX.fj K q c;obtain⟨w1,w2⟩:=hh.write hB u rfl M;refine⟨.skip,_,?_,rfl,w1,w2,?_⟩
 rotate_left
 .intro C a;have f:(d y).cells.size=i.size:=by rw[<-G,<-c.length,jh]
  have e:aw d o=(do storeVar t ⟨p,off,ae⟩ (d y);pure .skip):=by simp[aw,h,F,Instr.storeAt,bq]
  rw[e]at a;have m:C∈(storeCells ⟨p,off,ae⟩ (d y).cells.toList).events P s.w #[]:=by
   simp only[storeVar,aM,(hT t i hi).run_sizeOf,f,aO,events_sizeOf,dq,fb,b7,bL,bU,Sem.events_pure]at a;generalize(storeCells ⟨p,off,ae⟩ (d y).cells.toList).run P s.w=r at a;cases r with
   |ok v w'=>simpa using a
   |halt x w'=>simpa using a
  rcases dE (d y).cells.toList 0 vs.toArray s.w #[] B (by grind) c.cell C m with I|⟨j,_,_,rfl⟩
  .grind
  .exact jE (bH u) (by simp) (k _)
 have g:=run_storeCells_at P p off E (d y).cells.toList 0 vs.toArray s.w B (by grind) (c.cell);have f:(d y).cells.size=i.size:=by rw[<-G,<-c.length,jh]
 simp only[iq]at g;simp[aw,h,F,Instr.storeAt,bq,storeVar,(hT t i hi).run_sizeOf,f,g]
def jL(T:List (Nat×TI))(t:aj)(f:Nat):Option (Nat×TI) :=
 match bD T t with
 |some i=>match i.desc with
  |.struct fs=>match dt f fs.toList with
   |some fl=>match bD T fl.type with
    |some j=>cond (aB j.size 0) ae (aa (fl.offset,j))
    |none=>ae
   |none=>ae
  |_=>ae
 |none=>ae
def tB{P:aq}{T:List (Nat×TI)}(hT:cN P T){t:aj}{f off:Nat}{j:TI}(h:jL T t f=aa (off,j)):
  ∃i fs fl,bD T t=aa i/\i.desc=.struct fs/\fs[f]?=aa fl/\fl.offset=off/\bD T fl.type=aa j/\j.size≠0/\dx P t i/\dx P fl.type j:=by
 unfold jL at h;split at h
 .rename_i i hi;split at h
  .rename_i fs YD;split at h
   .rename_i fl hfl;split at h
    .rename_i c b;cases a:aB c.size 0<;>simp[a]at h
     obtain⟨rfl,rfl⟩:=h;refine⟨i,fs,fl,hi,YD,by simpa using b5 hfl,rfl,b,?_,hT _ _ hi,hT _ _ b⟩;intro e;rw[e]at a;cases a
    grind
   grind
  grind
 grind
def mF{P:aq}{T:List (Nat×TI)}(hT:cN P T){t:aj}{f off:Nat}{j:TI}(h:jL T t f=aa (off,j))(b o:Nat)(w:aA):
  (Instr.fieldAt t (.pointer (aa ⟨b,o,ae⟩)) f).run P w=.ok (.pointer (aa ⟨b,o+off,ae⟩)) w:=by obtain⟨i,fs,m,n,e,k,d,l,a,g,c⟩:=tB hT h;simp[Instr.fieldAt,g.run_underlying,e,k,bq,fieldPlace,c.run_sizeOf,a,dk,d]
def ou{P:aq}{T:List (Nat×TI)}(hT:cN P T){t:aj}{f off:Nat}{j:TI}(h:jL T t f=aa (off,j))(b o:Nat)(w:aA)(es:Array Event):
  (Instr.fieldAt t (.pointer (aa ⟨b,o,ae⟩)) f).events P w es=es:=by obtain⟨i,fs,m,n,d,g,l,k,a,e,c⟩:=tB hT h;simp[Instr.fieldAt,e.run_underlying,d,g,bq,fieldPlace,c.run_sizeOf,a]
def bF.r9{P:aq}{T:List (Nat×TI)}(hT:cN P T){o:au}{g:ak->D}{σ:List aP}{t:aj}{x:ak}{f:Nat}(h:o.op=.fieldAddr t x f){l off k:Nat}{j:TI}(i:g x=.e (.one (.ptr l off)))(d:jL T t f=aa (k,j)):bF P o g σ (.e (.one (.ptr l (off+k)))) σ:=by refine .quiet λs p hh hr=>?_;have h1:=hr x;rw[i]at h1;obtain⟨n,L,b,m,a,c⟩:=h1;exact⟨.pointer (aa ⟨b,off+k,ae⟩),by simp[aw,h,c,mF hT d],⟨n,L,b,m,a,rfl⟩,by simp[aw,h,c,ou hT d]⟩
theorem bF.uh{P:aq}{T:List (Nat×TI)}(hT:cN P T){o:au}{g:ak->D}{σ:List aP}{t:aj}{x:ak}{f:Nat}(h:o.op=.fieldAddr t x f){cs:List C}{k:Nat}{j:TI}(i:g x=.e (.one (.c (.rp cs))))(d:jL T t f=aa (k,j)):bF P o g σ (.e (.one (.c (.rp (fK k cs))))) σ:=by
 refine .quiet λs n hh hr=>?_;have h1:=hr x;rw[i]at h1;have h2:=eT h1;generalize a:n x=vx at h2;cases h2;rename_i b o l p m;refine⟨.pointer (aa ⟨b,o+k,ae⟩),by simp[aw,h,a,mF hT d],?_,by simp[aw,h,a,ou hT d]⟩;rw[l5];refine Rd.rp b (o+k) (λj=>l (k+j)) (λj c hj=>?_) (λj c hj=>?_)
 .grind
 grind
def Kd{σ:List aP}{s:St}{P:aq}{t:aj}{i:TI}(g:dx P t i){vs:List ah}{cs:List A}(r:dX σ s vs cs){off:Nat}{e:E1}(b:kN i (fK off cs)=aa e)(w:aA):
  ∃v,(part t vs.toArray off).run P w=.ok v w/\m7 σ s v e/\∀es,(part t vs.toArray off).events P w es=es:=by
 simp only[part,bL,g.ki,bU,aM,aO,events_isAgg];rw[l5]at b;cases j:i.agg<;>simp only[kN,j]at b
 .cases c:dt 0 (cs.drop off)with
  |none=>grind
  |some a =>
   simp[c]at b;subst b;obtain⟨v,h,f⟩:=(r.drop off).get (b5 c);simp at h;refine⟨v,?_,f,λes=>?_⟩<;>simp[h]
 .cases c:oC i.size (cs.drop off)with
  |none=>grind
  |some q =>
   simp[c]at b;subst b;obtain⟨k,l⟩:=nk c;have d:=(r.drop off).take i.size;rw[<-k]at d;refine⟨.agg (vs.toArray.extract off (off+i.size)),by simp[g.run_sizeOf],⟨(vs.drop off).take i.size,?_,d⟩,λes=>by simp⟩;simp
theorem bF.field{P:aq}{T:List (Nat×TI)}(hT:cN P T){o:au}{n:ak->D}{σ:List aP}{t:aj}{x:ak}{f:Nat}(h:o.op=.field t x f){cs:List A}{k:Nat}{j:TI}{e:E1}(q:n x=.e (.agg cs))(y:jL T t f=aa (k,j))(u:kN j (fK k cs)=aa e):bF P o n σ (.e e) σ:=by refine .quiet λs C hh hr=>?_;have h1:=hr x;rw[q]at h1;obtain⟨vs,l,c⟩:=h1;obtain⟨i,fs,fl,h1,h2,p,g,z,B,m,r⟩:=tB hT y;obtain⟨v,d,a,b⟩:=Kd r c u s.w;exact⟨v,by simp[aw,h,l,Instr.field,m.run_underlying,h2,p,asAgg,g,d],a,by simp[aw,h,l,Instr.field,m.run_underlying,h2,p,asAgg,g,b]⟩
theorem bF.ui{P:aq}{o:au}{d:ak->D}{σ:List aP}{x:ak}(h:o.op=.nilCheck x){l off:Nat}(g:d x=.e (.one (.ptr l off))):bF P o d σ (.e (.one (.ptr l off))) σ:=by refine .quiet λs f hh hr=>?_;have h1:=hr x;rw[g]at h1;have a:=h1;obtain⟨k,L,b,j,i,c⟩:=h1;exact⟨f x,by simp[aw,h,c],a,by simp[aw,h,c]⟩
theorem bF.wy{P:aq}{o:au}{b:ak->D}{σ:List aP}{x:ak}(h:o.op=.nilCheck x){cs:List C}(f:b x=.e (.one (.c (.rp cs)))):bF P o b σ (.e (.one (.c (.rp cs)))) σ:=by refine .quiet λs d hh hr=>?_;have h1:=hr x;rw[f]at h1;have h2:=eT h1;generalize a:d x=vx at h2;cases h2;exact⟨_,by simp[aw,h,a];rfl,by grind,by simp[aw,h,a]⟩
def Hy(new:List ah):∀(j off:Nat)(cs:Array ah),off+j+new.length<=cs.size ->
  ((new.zipIdx j).foldl (λcs (x:ah×Nat)=>cs.setIfInBounds (off+x.2) x.1) cs).toList=cs.toList.take (off+j)++new++cs.toList.drop (off+j+new.length):=by
 induction new with
 |nil=>intro j off cs _;simp
 |cons v vs ih =>
  intro j off cs h;simp only[List.zipIdx_cons,lh];rw[ih (j+1) off _ (by grind)];have:=list_seg_step cs.toList (off+j) v vs (by grind);simpa[Array.toList_setIfInBounds,Nat.add_assoc]using this
def yz(place:Nat->Option (Nat×Nat)):List (Nat×List A)->List A->Option (List A)
 |[],cs=>aa cs
 |(i,new)::rest,cs=>match place i with
  |some (off,size)=>match aB new.length size with
   |true=>match fj off new cs with
    |some r=>yz place rest r
    |none=>ae
   |false=>ae
  |none=>ae
def wP{σ:List aP}{s:St}{place place':Nat->Option (Nat×Nat)}(j:∀i p,place i=aa p->place' i=aa p):∀{parts:List (Nat×List A)}{vparts:List (Nat×ah)}{cs r:List A}{vs:Array ah},
  yz place parts cs=aa r->vparts.map (·.1)=parts.map (·.1)->(∀(k:Nat) (p:Nat×List A) (q:Nat×ah),parts[k]?=aa p->vparts[k]?=aa q->dX σ s q.2.cells.toList p.2)->dX σ s vs.toList cs ->
  ∃d,Instr.fill place' vs vparts=aa d/\dX σ s d.toList r
 |[],[],cs,r,vs,h,_,_,b=>by cases h;exact⟨vs,rfl,b⟩
 |[],_::_,cs,r,vs,h,a,_,b=>by grind
 |_::_,[],cs,r,vs,h,a,_,b=>by grind
 |(i,new)::rest,(g,v)::U0,cs,r,vs,h,a,hk,b=>by
  simp only[pU,List.cons.injEq]at a;obtain⟨rfl,a⟩:=a;simp only[yz]at h;cases c:place g with
  |none=>grind
  |some p =>
   obtain⟨off,size⟩:=p;simp only[c]at h;cases l:aB new.length size with
   |false=>grind
   |true =>
    simp only[l]at h;cases n:fj off new cs with
    |none=>grind
    |some q =>
     simp only[n]at h;have e:=hk 0 (g,new) (g,v) rfl rfl;simp only at e;have w:=e.length;have o:new.length=size:=bP l;obtain⟨k1,z⟩:=dX.fj n b e;have y:=Hy v.cells.toList 0 off vs (by grind);have f:v.cells.size=size:=by grind
     have t:off+size<=vs.size:=by grind
     obtain⟨d,u,m⟩:=wP (σ:=σ) (s:=s) j (parts:=rest) (vparts:=U0) (cs:=q) (r:=r)
      (vs:=v.cells.zipIdx.foldl (λcs (x:ah×Nat)=>cs.setIfInBounds (off+x.2) x.1) vs) h a (λk p q u m=>hk (k+1) p q (by grind) (by grind)) (by grind[Array.toList_zipIdx])
     refine⟨d,?_,m⟩;simp only[Instr.fill,j _ _ c,f,dq,fb,kA,Bool.false_or,ba];grind
def qk(T:List (Nat×TI)):List Field->Option (List (Nat×Nat))
 |[]=>aa []
 |f::fs=>match bD T f.type with
  |some j=>match qk T fs with
   |some r=>aa ((f.offset,j.size)::r)
   |none=>ae
  |none=>ae
def wQ{P:aq}{T:List (Nat×TI)}(hT:cN P T):∀{fs:List Field}{r:List (Nat×Nat)},qk T fs=aa r->fs.mapM (λf=>(P.info? f.type).map λi=>(f.offset,i.size))=aa r
 |[],r,h=>by cases h;simp
 |f::fs,r,h=>by
  simp only[qk]at h;cases b:bD T f.type with
  |none=>grind
  |some j =>
   cases a:qk T fs with
   |none=>grind
   |some q =>
    simp[b,a]at h;subst h;obtain⟨d,z,e,c,_⟩:=(hT _ _ b).info;simp[n3,e,c,wQ hT a]
def pt(a:ak->D):List (Nat×ak)->Option (List (Nat×List A))
 |[]=>aa []
 |(i,x)::r=>match km (a x)with
  |some cs=>match pt a r with
   |some q=>aa ((i,cs)::q)
   |none=>ae
  |none=>ae
def tD{σ:List aP}{s:St}{b:ak->ah}{a:ak->D}(d:∀y,dj σ s (b y) (a y)):∀{l:List (Nat×ak)}{q:List (Nat×List A)},pt a l=aa q ->
  (l.map λ(i,x)=>(i,b x)).map (·.1)=q.map (·.1)/\∀(k:Nat) (p:Nat×List A) (u:Nat×ah),q[k]?=aa p->(l.map λ(i,x)=>(i,b x))[k]?=aa u->dX σ s u.2.cells.toList p.2
 |[],q,h=>by cases h;simp
 |(i,x)::r,q,h=>by
  simp only[pt]at h;cases e:km (a x)with
  |none=>grind
  |some cs =>
   cases c:pt a r with
   |none=>grind
   |some q' =>
    simp[e,c]at h;subst h;obtain⟨g,f⟩:=tD d c;grind[lO]
def zR(T:List (Nat×TI))(a:ak->D)(t:aj)(parts:List (Nat×ak)):Option (List A) :=
 match bD T t with
 |some i=>match i.desc with
  |.struct fs=>match qk T fs.toList with
   |some pl=>match pt a parts with
    |some ps=>yz (λk=>dt k pl) ps (i.zero.map A.c)
    |none=>ae
   |none=>ae
  |_=>ae
 |none=>ae
theorem bF.build{P:aq}{T:List (Nat×TI)}(hT:cN P T){o:au}{g:ak->D}{σ:List aP}{t:aj}{parts:Array (Nat×ak)}(h:o.op=.build t parts){cs:List A}(b:zR T g t parts.toList=aa cs):bF P o g σ (.e (.agg cs)) σ:=by
 refine .quiet λs B hh hr=>?_;unfold zR at b;cases hi:bD T t with
 |none=>grind
 |some i =>
  simp only[hi]at b;cases j:i.desc with
  |struct fs =>
   simp only[j]at b;cases f:qk T fs.toList with
   |none=>grind
   |some pl =>
    simp only[f]at b;cases d:pt g parts.toList with
    |none=>grind
    |some ps =>
     simp only[d]at b;obtain⟨q,z,r,F,C,n,m,G,E⟩:=(hT t i hi).info;obtain⟨u,p2⟩:=tD (σ:=σ) (s:=s) hr d;obtain⟨c,y,v⟩:=wP (σ:=σ) (s:=s) (place':=λk=>pl.toArray[k]?) (λk p hk=>by grind[b5]) b u p2 (kJ m);have l:P.built t (parts.map λ(i,x)=>(i,B x)).toList=aa c:=by unfold Program.built;have a:=(hT t i hi).TG;rw[j]at a;simp only[r,a,n,wQ hT f];simpa using y
     refine⟨.agg c,?_,⟨c.toList,by simp,v⟩,?_⟩
     .simp only[aw,h,bL,run_build s.w t _ c l,bU,dn]
     .simp only[aw,h,aM,run_build s.w t _ c l,aO,Sem.events_pure];exact cZ.build s.w #[]
  |_=>grind
theorem RV{k n i j:Nat}(hi:i<n)(a:j<k):i*k+j<n*k:=by have b:(i+1)*k<=n*k:=eC k (by omega);grind
theorem N9{k i j:Nat}(a:j<k):(i*k+j) / k=i:=by grind[Nat.mul_comm,Nat.mul_add_div,Nat.div_eq_of_lt]
theorem Oa{k i j:Nat}(a:j<k):(i*k+j) % k=j:=by rw[Nat.mul_comm,Nat.mul_add_mod,Nat.mod_eq_of_lt a]
def Flat.nil{M:Mem}{k:Nat}{es:Nat->List C}:Flat M k 0 es []:=⟨by simp,by omega,by omega⟩
def cC(n:Nat)(f g:Nat->List C):Nat->List C:=λi=>if i<n then f i else g (i-n)
def Flat.append{M:Mem}{k n m:Nat}{es es':Nat->List C}{vs zD:List ah}(h:Flat M k n es vs)(b:Flat M k m es' zD):Flat M k (n+m) (cC n es es') (vs++zD):=by
 refine⟨by simp[h.len,b.len,ir],λi hi=>?_,λi hi j c hj=>?_⟩
 .simp only[cC];split
  .rename_i a;exact h.width i a
  .exact b.width _ (by omega)
 .simp only[cC]at hj;split at hj
  .rename_i a;obtain⟨v,h1,h2⟩:=h.rd i a j c hj;grind
  .rename_i d;obtain⟨v,h1,h2⟩:=b.rd _ (by omega) j c hj;refine⟨v,?_,h2⟩;have e1:i*k+j=vs.length+((i-n)*k+j):=by rw[h.len,<-Nat.add_assoc,<-ir,zq (by omega)]
   grind
def Flat.cell{M:Mem}{k n:Nat}{es:Nat->List C}{vs:List ah}(h:Flat M k n es vs):∀v∈vs,v.oneCell'=ab:=by
 intro v b;obtain⟨p,a,rfl⟩:=dM b;rw[h.len]at a;have hk:0<k:=by grind
 have hi:p / k<n:=pL (by grind);have hj:p % k<k:=j9 _ hk;have c:=h.width _ hi;obtain⟨v,h1,h2⟩:=h.rd (p / k) hi (p % k) ((es (p / k))[p % k]'(by omega)) (br (by omega));have e:p / k*k+p % k=p:=pQ p k;rw[e]at h1;rw[br (by grind)]at h1;simp at h1;rw[h1];have:=Rd.cell h2;cases v<;>simp_all[cE,Value.oneCell']
def Rd.flat{M:Mem}{v:ah}{t:Bool}{k n:Nat}{es:Nat->List C}(h:Rd M v (.sl t k n es)):
  ∃a cap vs,v=.slice a n cap/\n<=cap/\cap<=9223372036854775807/\(t=ab->cap=n)/\Flat M k n es vs/\∀p u,vs[p]?=aa u->∃b off,a=aa ⟨b,off,ae⟩/\M b (off+p)=aa u:=by
 cases h with
 |@sl a _ cap _ _ _ b off f c i j hk ha hm hr =>
  refine⟨a,cap,(bg (n*k)).map λp=>f (p / k) (p % k),rfl,c,i,j,⟨by simp,hk,?_⟩,?_⟩
  .grind [RV,N9,Oa]
  .intro p u e;simp only[mU]at e;by_cases g:p<n*k
   .simp[g]at e;subst e;have d:0<k:=by grind
    have hi:p / k<n:=pL (by grind);have hj:p % k<k:=j9 _ d;have l:=hk _ hi;have:=hm (p / k) hi (p % k) ((es (p / k))[p % k]'(by omega)) (br (by omega));refine⟨b,off,ha (Nat.lt_of_le_of_lt (lk _) hi),?_⟩;grind[Nat.div_add_mod']
   grind
def Rd.qN{M:Mem}{k n:Nat}{es:Nat->List C}{vs:List ah}(h:Flat M k n es vs){a:Option Addr}{b off cap:Nat}{t:Bool}(f:0<n->a=aa ⟨b,off,ae⟩)(d:n<=cap)(e:cap<=9223372036854775807)(g:t=ab->cap=n)(l:∀p u,vs[p]?=aa u->M b (off+p)=aa u):Rd M (.slice a n cap) (.sl t k n es):=by
 refine .sl b off (λi j=>(vs[i*k+j]?).getD ai) d e g h.width f (λi hi j c hj=>?_) (λi hi j c hj=>?_)
 .obtain⟨v,h1,h2⟩:=h.rd i hi j c hj;grind
 .obtain⟨v,h1,h2⟩:=h.rd i hi j c hj;grind
def dY{P:aq}{σ:List aP}{s:St}(i:aF σ s){v:ah}{t:Bool}{k n:Nat}{es:Nat->List C}(h:Rd s.M v (.sl t k n es)):
  ∃vs,Flat s.M k n es vs/\(Builtin.firstCells k n v).run P s.w=.ok vs.toArray s.w/\Builtin.lenOf v=pure n:=by
 obtain⟨a,cap,vs,rfl,f,o,q,d,e⟩:=h.flat;refine⟨vs,d,?_,rfl⟩;have g:vs.length=n*k:=d.len;cases a with
 |none =>
  have:vs=[]:=by
   cases vs with
   |nil=>rfl
   |cons u p=>obtain⟨b,off,c,_⟩:=e 0 u rfl;cases c
  subst this;rfl
 |some ad =>
  simp only[Builtin.firstCells];rw[<-g];refine run_loadCells_list s.w ad vs λj u m=>?_;obtain⟨b,off,c,l⟩:=e j u m;cases c;rw[dk];exact i.mem _ _ _ l
def bF.JB{P:aq}{T:List (Nat×TI)}(hT:cN P T){o:au}{f:ak->D}{σ:List aP}{t:aj}{x y:ak}(h:o.op=.index t x y){l:List UInt8}{j:Int}{k:IntKind}{i:TI}{m:Nat}(hi:bD T t=aa i)(g:i.desc=.string)(q:f x=.e (.one (.c (.str l))))(r:f y=.e (.one (.c (.int k j))))(hj:j=m)(v:m<l.length):bF P o f σ (.e (.one (.c (.int .u8 (l[m]).toNat)))) σ:=by
 refine .quiet λs p hh hr=>?_;have h1:=hr x;have h2:=hr y;rw[q]at h1;rw[r]at h2;replace h1:=eT h1;replace h2:=eT h2;generalize a:p x=vx at h1;generalize b:p y=vy at h2;cases h1 with
 |@str sb _ u hl =>
 cases h2;subst u;have n:sb[m]?=aa (sb.data.toList[m]):=by
  have hm':m<sb.size:=by have e:sb.data.toList.length=sb.size:=jh;omega
  rw[getElem?_pos sb m hm'];congr 1
 refine⟨.int .u8 (sb.data.toList[m]).toNat,?_,Rd.int ?_,?_⟩
 rotate_left 2
 .have d:=(hT t i hi).run_underlying (w:=s.w);rw[g]at d;simp[aw,h,a,b,Instr.index,asIntOf,d,hj,n]
 .have d:=(hT t i hi).run_underlying (w:=s.w);rw[g]at d;simp[aw,h,a,b,Instr.index,asIntOf,d,hj,n]
 .have:=(sb.data.toList[m]).toNat_lt;simp only[bA];omega
def bF.indexAddr{P:aq}{T:List (Nat×TI)}(hT:cN P T){o:au}{z:ak->D}{σ:List aP}{t:aj}{x y:ak}(h:o.op=.indexAddr t x y){i g:TI}{E:aj}(hi:bD T t=aa i)(H:i.desc=.slice E)(J:bD T E=aa g){tt:Bool}{n:Nat}{es:Nat->List C}{j:Int}{k:IntKind}{m:Nat}(G:∀s v,dj σ s v (z x)->Rd s.M v (.sl tt g.size n es))(I:z y=.e (.one (.c (.int k j))))(hj:j=m)(d:m<n):
  bF P o z σ (.e (.one (.c (.rp (es m))))) σ:=by
 refine .quiet λs F hh hr=>?_;have h1:=G s _ (hr x);have h2:=hr y;rw[I]at h2;replace h2:=eT h2;generalize r:F x=vx at h1;generalize u:F y=vy at h2;cases h2;cases h1 with
 |@sl a _ cap _ _ _ b off f A L K hk ha hm' MW =>
 have l:0<n:=by omega
 have B:=(hT t i hi).run_underlying (w:=s.w);rw[H]at B;refine⟨.pointer (aa ⟨b,off+m*g.size,ae⟩),?_,Rd.rp b (off+m*g.size) (f m) (λq c p=>hm' m d q c p) (λq c p=>MW m d q c p),?_⟩<;>
 simp[aw,h,r,u,Instr.indexAt,asIntOf,B,hj,ha l,(hT E g J).run_sizeOf,dk,d]
def bF.Uy{P:aq}{T:List (Nat×TI)}(hT:cN P T){o:au}{j:ak->D}{σ:List aP}{x:ak}{b:Array aj}{t:aj}(h:o.op=.call {callee:=.builtin .len,args:=#[x],argTypes:=b})(q:b[0]?=aa t){i:TI}{E:aj}(hi:bD T t=aa i)(p:i.desc=.slice E){tt:Bool}{k n:Nat}{es:Nat->List C}(l:∀s v,dj σ s v (j x)->Rd s.M v (.sl tt k n es)):bF P o j σ (.e (.one (.c (.int .i64 n)))) σ:=by
 refine .quiet λs r hh hr=>?_;obtain⟨a,cap,vs,m,f,u,_⟩:=(l s _ (hr x)).flat;have g:=(hT t i hi).run_underlying (w:=s.w);rw[p]at g;have d:b[0]?=aa t:=q;refine⟨.int .i64 n,?_,Rd.int (by simp only[bA];omega),?_⟩<;>
 simp[aw,h,resolve,invoke,builtin,Builtin.len_,m,g,goInt,d]
theorem bF.Rg{P:aq}{T:List (Nat×TI)}(hT:cN P T){o:au}{j:ak->D}{σ:List aP}{x:ak}{a:Array aj}{t:aj}(h:o.op=.call {callee:=.builtin .len,args:=#[x],argTypes:=a})(q:a[0]?=aa t){i:TI}(hi:bD T t=aa i)(n:i.desc=.string){l:List UInt8}(k:j x=.e (.one (.c (.str l)))):bF P o j σ (.e (.one (.c (.int .i64 l.length)))) σ:=by
 refine .quiet λs m hh hr=>?_;have h1:=hr x;rw[k]at h1;replace h1:=eT h1;generalize d:m x=vx at h1;cases h1 with
 |@str sb _ p hl =>
 have g:=(hT t i hi).run_underlying (w:=s.w);rw[n]at g;have f:a[0]?=aa t:=q;have b:sb.size=l.length:=by rw[<-p];exact jh.symm
 refine⟨.int .i64 l.length,?_,Rd.int (by simp only[bA];omega),?_⟩<;>
 simp[aw,h,resolve,invoke,builtin,Builtin.len_,d,g,goInt,f,b]
def St.newRow(s:St)(E:aj)(vs:List ah):St :=
 {β:=s.β,M:=λb o=>if b=s.w.heap.size then vs[o]? else s.M b o,w:=s.w.alloc (.cells vs.toArray E),own:=s.own}
def aF.newRow{σ:List aP}{s:St}(h:aF σ s)(E:aj)(vs:List ah):aF σ (s.newRow E vs)/\Step σ s σ (s.newRow E vs):=by
 refine h.grow (by simp) (λb a=>cJ _ _ a) (λb a o=>by grind) (λb a o v c=>?_) rfl rfl rfl;by_cases e:b=s.w.heap.size
 .subst e;simp at c;show aV (s.w.alloc (.cells vs.toArray E)) ⟨s.w.heap.size,o,ae⟩=aa v;unfold aV;grind[dG]
 .simp only[e,b7]at c;have:=h.block c;omega
def Hz(s:St)(E:aj)(vs:List ah):∀p u,vs[p]?=aa u->(s.newRow E vs).M s.w.heap.size (0+p)=aa u:=by intro p u h;simpa[St.newRow]using h
def gC:List A->Option (List C)
 |[]=>aa []
 |.c c::r=>match gC r with|some q=>aa (c::q)|none=>ae
 |.vec _ k n es::r=>match gC r with|some q=>aa (.sl af k n es::q)|none=>ae
 |_::_=>ae
def lQ{σ:List aP}{s:St}:∀{cs:List A}{r:List C}{vs:List ah},gC cs=aa r->dX σ s vs cs->dX σ s vs (r.map A.c)
 |[],r,vs,h,a=>by cases h;exact a
 |_::_,_,[],_,a=>a.elim
 |.c c::al,r,v::vs,h,a=>by
  simp only[gC]at h;cases b:gC al with
  |none=>grind
  |some q=>simp[b]at h;subst h;exact⟨a.1,lQ b a.2⟩
 |.vec l k n es::al,r,v::vs,h,a=>by
  simp only[gC]at h;cases b:gC al with
  |none=>grind
  |some q=>simp[b]at h;subst h;exact⟨a.1.1,lQ b a.2⟩
 |.ptr l o::al,r,v::vs,h,a=>by simp[gC]at h
 |.ref l::al,r,v::vs,h,a=>by simp[gC]at h
 |.bp l w::al,r,v::vs,h,a=>by simp[gC]at h
 |.any::al,r,v::vs,h,a=>by simp[gC]at h
def tE{α:Type}(k:Nat):Nat->List α->Option (List (List α))
 |0,[]=>aa []
 |0,_::_=>ae
 |n+1,l=>match oC k l with
  |some c=>match tE k n (fK k l)with
   |some r=>aa (c::r)
   |none=>ae
  |none=>ae
def dX.closed{σ:List aP}{s:St}:∀{vs:List ah}{cs:List C},dX σ s vs (cs.map A.c)->∀(j:Nat)(c:C),cs[j]?=aa c->∃v,vs[j]?=aa v/\Rd s.M v c:=by intro vs cs h j c hj;obtain⟨v,h1,h2⟩:=h.get (j:=j) (a:=.c c) (by grind);exact⟨v,h1,h2⟩
def yA{M:Mem}{k:Nat}:∀{n:Nat}{cs:List C}{es:List (List C)}{vs:List ah},tE k n cs=aa es->vs.length=cs.length->(∀(j:Nat)(c:C),cs[j]?=aa c->∃v,vs[j]?=aa v/\Rd M v c)->es.length=n/\Flat M k n (λi=>es.getD i []) vs
 |0,[],es,vs,h,a,b=>by cases h;simp at a;subst a;exact⟨rfl,.nil⟩
 |0,_::_,es,vs,h,a,b=>by cases h
 |n+1,cs,es,vs,h,a,b=>by
  simp only[tE]at h;cases f:oC k cs with
  |none=>grind
  |some c =>
   simp only[f]at h;cases d:tE k n (fK k cs)with
   |none=>grind
   |some q =>
    simp[d]at h;subst h;obtain⟨p,g⟩:=nk f;rw[l5]at d;obtain⟨r,o⟩:=yA (vs:=vs.drop k) d (by grind) (λj c l=>by
     obtain⟨v,p,g⟩:=b (k+j) c (by grind)
     exact⟨v,by grind,g⟩)
    refine⟨by grind,?_⟩;have hk:k<=cs.length:=by grind
    have m:Flat M k 1 (λ_=>c) (vs.take k):=by refine⟨by grind,by grind,λi hi j x l=>?_⟩;grind
    have:=m.append o;rw[Nat.add_comm 1 n]at this;have e:cC 1 (λ_=>c) (λi=>q.getD i [])=λi=>(c::q).getD i []:=by funext i;cases i<;>simp[cC]
    rw[e]at this;simpa using this
def NB(T:List (Nat×TI))(a:ak->D)(t:aj)(n:Nat)(parts:List (Nat×ak)):Option (Nat×List (List C)) :=
 match bD T t with
 |some i=>match i.desc with
  |.slice E=>match bD T E with
   |some ie=>match aB ie.size 0 with
    |true=>ae
    |false=>match bu (n*ie.size) 16777216 with
     |true=>match pt a parts with
      |some ps=>match yz (λk=>aa (k*ie.size,ie.size)) ps (List.replicate (n*ie.size) A.any)with
       |some cs=>match gC cs with
        |some r=>match tE ie.size n r with
         |some es=>aa (ie.size,es)
         |none=>ae
        |none=>ae
       |none=>ae
      |none=>ae
     |false=>ae
   |none=>ae
  |_=>ae
 |none=>ae
theorem bF.buildSlice{P:aq}{T:List (Nat×TI)}(hT:cN P T){o:au}{U:ak->D}{σ:List aP}{t:aj}{n:Nat}{parts:Array (Nat×ak)}(h:o.op=.buildSlice t n parts){k:Nat}{es:List (List C)}(a:NB T U t n parts.toList=aa (k,es)):bF P o U σ (.e (.one (.c (.sl ab k n λi=>es.getD i [])))) σ:=by
 intro s N hh hr;unfold NB at a;cases hi:bD T t with
 |none=>grind
 |some i =>
  simp only[hi]at a;cases X:i.desc with
  |slice E =>
   simp only[X]at a;cases L:bD T E with
   |none=>grind
   |some ie =>
    simp only[L]at a;cases R:aB ie.size 0 with
    |true=>grind
    |false =>
     simp only[R]at a;cases I:bu (n*ie.size) 16777216 with
     |false=>grind
     |true =>
      simp only[I]at a;cases l:pt U parts.toList with
      |none=>grind
      |some ps =>
       simp only[l]at a;cases G:yz (λk=>aa (k*ie.size,ie.size)) ps (List.replicate (n*ie.size) A.any)with
       |none=>grind
       |some cs =>
        simp only[G]at a;cases y:gC cs with
        |none=>grind
        |some r =>
         simp only[y]at a;cases H:tE ie.size n r with
         |none=>grind
         |some es' =>
          simp only[H,dm,lT]at a;obtain⟨rfl,rfl⟩:=a;have hz0:ie.size≠0:=λe=>by rw[e]at R;cases R
          have Y:=cV I;obtain⟨inf,z,z1,z2,z3,z4,V,z6,z7⟩:=(hT E ie L).info;have hzs:z.cells.size=ie.size:=by have:=dA List.length V;grind
          have Z:∀v∈z.cells.toList,cE v=ab:=by intro v K;have d:qS v∈z.cells.toList.map qS:=kB.2 ⟨v,K,rfl⟩;rw[V]at d;obtain⟨c,_,hc⟩:=kB.1 d;exact(Rd.qS (M:=s.M) hc.symm).cell
          have j:∀m,(∀v∈(bg m).map (λq=>z.cells[q % z.cells.size]!),cE v=ab):=by grind[Nat.mod_lt]
          have F:∀vs:List ah,(∀v∈vs,cE v=ab)->dX σ s vs (List.replicate vs.length A.any):=by
           intro vs;induction vs with
           |nil=>intro _;trivial
           |cons v vs ih=>intro K;exact⟨K v (by simp),ih λu J=>K u (by grind)⟩
          obtain⟨p1,p2⟩:=tD (σ:=σ) (s:=s) hr l;have O:dX σ s ((Array.range (n*ie.size)).map (λq=>z.cells[q % z.cells.size]!)).toList (List.replicate (n*ie.size) A.any):=by have:=F _ (j (n*ie.size));simpa using this
          obtain⟨g,u1,u2⟩:=wP (σ:=σ) (s:=s) (place':=λk=>aa (k*ie.size,ie.size)) (λk p hk=>hk) G p1 p2 O;have u3:=lQ y u2;obtain⟨c1,c2⟩:=yA (M:=s.M) (vs:=g.toList) H (by simpa using u3.length) u3.closed;obtain⟨g1,W⟩:=hh.newRow E g.toList;refine⟨.value (.slice (aa ⟨s.w.heap.size,0,ae⟩) n n),s.newRow E g.toList,?_,?_,g1,W,?_⟩
          rotate_left 2
          .have e:(aw N o).events P s.w #[]=#[]:=by simp only[aw,h];exact cZ.bind cZ.buildSlice (λ_=>cZ.pure) _ _
           rw[e];exact .nil
          .have J:=(hT t i hi).run_underlying (w:=s.w);rw[X]at J;have S:(zeroValue E).run P s.w=.ok z s.w:=by simp[zeroValue,typeInfo,z1,z4]
           have f:Instr.fill (λk=>aa (k*ie.size,ie.size)) ((Array.range (n*ie.size)).map (λq=>z.cells[q % z.cells.size]!)) (parts.map λ(i,x)=>(i,N x)).toList=aa g:=by simpa using u1
           by_cases h0:n*ie.size=0
           .have Q:n=0:=by grind[Nat.mul_eq_zero]
            subst Q;have B:Array.range 0=#[]:=rfl;simp[B]at f;simp[aw,h,Instr.buildSlice,J,(hT E ie L).run_sizeOf,B,f,Go.newRow,St.newRow]
           .rw[show aw N o=(do pure (.value (<-Instr.buildSlice t n (parts.map λ(i,x)=>(i,N x))))) by simp[aw,h]];simp only[Instr.buildSlice,bL,J,bU,(hT E ie L).run_sizeOf,h0,b7,S,show¬n*ie.size>2 ^ 24 by omega,rM,f,dn];simp[Go.newRow,St.newRow]
          .refine Rd.qN (c2.mono W.mem) (b:=s.w.heap.size) (off:=0) (λ_=>rfl) (bh _) ?_ (λ_=>rfl) (Hz s E g.toList);have:n<=n*ie.size:=uW n (by omega);omega
  |_=>grind
def Ext.trans{σ σ1 σ2:List aP}{s a s2:St}(h:Ext σ s σ1 a)(k:Ext σ1 a σ2 s2):Ext σ s σ2 s2:=by refine⟨λb o v e=>k.mem _ _ _ (h.mem _ _ _ e),λl B L hB hL=>?_⟩;obtain⟨B1,L1,h1,h2,n⟩:=h.box l B L hB hL;obtain⟨c,f,k1,m,j⟩:=k.box l B1 L1 h1 h2;exact⟨c,f,k1,m,n.trans j⟩
def fY{α:Type}{l:List α}{x y:α}{i:Nat}(h:(l++[x])[i]?=aa y):l[i]?=aa y∨(i=l.length/\y=x):=by grind
def aF.hO{σ:List aP}{s a:St}(h1:aF σ a)(st:Step σ s σ a)(q:a.β=s.β)(hh:aF σ s){B:aP}{L:Loc}(hB:et (σ++[B]) {a with β:=a.β++[L]} B L)(k:∀b∈L.bs,s.w.heap.size<=b/\b<a.w.heap.size):aF (σ++[B]) {a with β:=a.β++[L]}/\Step σ s (σ++[B]) {a with β:=a.β++[L]}:=by
 have ex:Ext σ a (σ++[B]) {a with β:=a.β++[L]}:=by refine⟨λ_ _ _ h=>h,λl B' L' j0 ff=>?_⟩;have hl:l<a.β.length:=(bY.1 ff).1;have o:l<σ.length:=(bY.1 j0).1;exact⟨B',L',by grind,by grind,.refl _ _⟩
 have e2:=st.ext.trans ex;refine⟨⟨h1.mem,by simp[h1.len],?_,?_,?_,?_⟩,⟨st.size,st.fe,st.mem,st.iU,?_,e2.box,st.os,st.tape,st.output,st.own⟩⟩
 .intro l B' L' j0 ff;rcases fY j0 with m|⟨rfl,rfl⟩
  .have hl:l<a.β.length:=by rw[h1.len];grind
   rw[jy hl]at ff;exact(h1.box l B' L' m ff).carry ex h1.len λ_ _=>⟨rfl,λ_=>rfl⟩
  .rcases fY ff with j|⟨_,rfl⟩
   .have:=(bY.1 j).1;rw[h1.len]at this;omega
   grind
 .intro l l' L1 L2 j n b c f;rcases fY j with k1|⟨rfl,rfl⟩<;>rcases fY n with p|⟨rfl,rfl⟩
  .exact h1.eB l l' L1 L2 k1 p b c f
  .have a1:=k b f;have a2:=hh.lt L1 (by grind) b c;omega
  .have a1:=k b c;have a2:=hh.lt L2 (by grind) b f;omega
  .rfl
 .intro L' ff b c;simp only[fX,fW]at ff;rcases ff with ff|rfl
  .exact h1.lt L' ff b c
  grind
 .intro b c;refine⟨(h1.own b c).1,λL' ff Nb=>?_⟩;simp only[fX,fW]at ff;rcases ff with ff|rfl
  .exact(h1.own b c).2 L' ff Nb
  .have e:=st.own;simp only at c;rw[e]at c;have:=(hh.own b c).1;grind
 grind
def aF.gz{σ:List aP}{s:St}{M':Mem}{w':aA}(hh:aF σ s){l:Nat}{B B':aP}{L L':Loc}(u:σ[l]?=aa B)(k:s.β[l]?=aa L)(J:gy B L B' L')(p:s.w.heap.size<=w'.heap.size)(hk:∀b,b<s.w.heap.size->b∉L.bs->w'.heap[b]?=s.w.heap[b]?)(N:∀b,b<s.w.heap.size->b∉L.bs->∀o,M' b o=s.M b o)(h:∀b o v,s.M b o=aa v->M' b o=aa v)(G:∀b o v,M' b o=aa v->w'.cell? ⟨b,o,ae⟩=aa v)(F:∀b∈L'.bs,(b∈L.bs∨s.w.heap.size<=b)/\b<w'.heap.size)(K:w'.os=s.w.os)(I:w'.tape=s.w.tape)(H:w'.output=s.w.output)(hB:et (σ.set l B') ⟨s.β.set l L',M',w',s.own⟩ B' L'):aF (σ.set l B') ⟨s.β.set l L',M',w',s.own⟩/\Step σ s (σ.set l B') ⟨s.β.set l L',M',w',s.own⟩:=by
 have A:l<σ.length:=(bY.1 u).1;have z:l<s.β.length:=(bY.1 k).1;have a:∀i X,(s.β.set l L')[i]?=aa X->(i=l/\X=L')∨(i≠l/\s.β[i]?=aa X):=by grind
 have ex:Ext σ s (σ.set l B') ⟨s.β.set l L',M',w',s.own⟩:=by
  refine⟨h,λi X Y c n=>?_⟩;by_cases e:l=i
  .grind
  .exact⟨X,Y,by grind,by grind,.refl _ _⟩
 have out:∀i X,i≠l->s.β[i]?=aa X->∀b∈X.bs,b<s.w.heap.size/\b∉L.bs:=by intro i X hi c b f;exact⟨hh.lt X (bH c) b f,λr=>hi (hh.eB i l X L c k b f r)⟩
 refine⟨⟨G,by simp[hh.len],?_,?_,?_,?_⟩,⟨p,?_,h,?_,?_,ex.box,K,I,H,rfl⟩⟩
 .intro i X Y c n;rcases a i Y n with⟨rfl,rfl⟩|⟨hi,n⟩
  .grind
  .rw[j6 (λe=>hi e.symm)]at c;refine(hh.box i X Y c n).carry ex hh.len λb f=>?_;grind
 .intro i C X D c m b f q;rcases a i X c with⟨rfl,rfl⟩|⟨hi,x⟩<;>rcases a C D m with⟨rfl,rfl⟩|⟨y,j⟩
  .rfl
  .grind
  .grind
  .exact hh.eB i C X D x j b f q
 .intro X c b f;obtain⟨i,hi,rfl⟩:=dM c;rcases a i _ (br hi)with⟨rfl,e⟩|⟨y,m⟩
  .grind
  grind
 .intro b f;obtain⟨O,Q⟩:=hh.own b f;grind
 .grind
 .grind
 grind
def rO{a old bytes:Nat}(h:old<a)(b:a*bytes<=140737488355328):¬Builtin.nextslicecap a old*bytes>2 ^ 48:=by have:=growslice_fits h b;omega
section
variable {P:aq}{T:List (Nat×TI)}(hT:cN P T){σ:List aP}{s:St}{t g ty E:aj}{i i2 d:TI}
def jb(hi:dx P t i)(p:i.desc=.slice E)(j:dx P g i2)(f:i2.desc=.slice E)(r:dx P E d)(u:aF σ s){a:Option Addr}{n cap:Nat}(c:n<=cap){x:ah}{tx:Bool}{es':Nat->List C}(k:Rd s.M x (.sl tx d.size 0 es')):
  (Builtin.append_ #[t,g] ty #[.slice a n cap,x]).run P s.w=.ok (.slice a n cap) s.w:=by obtain⟨b,q,v,o⟩:=dY (P:=P) u k;have m:=hi.run_underlying (w:=s.w);have e:=j.run_underlying (w:=s.w);rw[p]at m;rw[f]at e;obtain⟨a',l,vs,rfl,_⟩:=k.flat;have h:b=[]:=jf (by simpa using q.len);subst h;cases a<;>simp[Builtin.append_,m,e,r.run_sizeOf,Builtin.lenOf,c,v,storeCells]
def iu(hi:dx P t i)(hd:i.desc=.slice E)(H:dx P g i2)(G:i2.desc=.slice E)(O:dx P E d)(hh:aF σ s){a:Option Addr}{n cap m:Nat}{W tx:Bool}{es es':Nat->List C}{x:ah}(Y:Rd s.M (.slice a n cap) (.sl W d.size n es))(U:Rd s.M x (.sl tx d.size m es'))(S:cap<n+m)(K:(n+m)*d.bytes<=140737488355328)(I:d.bytes≠0):
  ∃vs zs Nc,Flat s.M d.size (n+m) (cC n es es') vs/\n+m<=Nc/\Nc<=9223372036854775807/\(vs++zs).length=Nc*d.size /\
   (Builtin.append_ #[t,g] ty #[.slice a n cap,x]).run P s.w=.ok (.slice (aa ⟨s.w.heap.size,0,ae⟩) (n+m) Nc) (s.w.drew.alloc (.cells (vs++zs).toArray E)):=by
 have r:aF σ {s with w:=s.w.drew}:=hh.same rfl;obtain⟨c,N,B,p⟩:=dY (P:=P) r (v:=x) U;obtain⟨b,q,f,hlo⟩:=dY (P:=P) r (v:=.slice a n cap) Y;have J:=hi.run_underlying (w:=s.w);have o:=H.run_underlying (w:=s.w);rw[hd]at J;rw[G]at o;obtain⟨j,z,L,z2,z3,V,Q,z6,z7⟩:=O.info;have hle:n+m<=140737488355328:=iP (uW _ (Nat.pos_of_ne_zero I)) K;have D:z.cells.size=d.size:=by have:=dA List.length Q;grind
 refine⟨b++c,(Builtin.zeroCells z.cells (grownCap s.w (n+m) cap E-(n+m))).toList,grownCap s.w (n+m) cap E,q.append N,grownCap_ge _ _ _ _,?_,?_,?_⟩
 .have:=grownCap_le_maxLen s.w (n+m) cap E (by unfold maxLen;omega);unfold maxLen at this;omega
 .have R:=grownCap_ge s.w (n+m) cap E;simp only[c7,q.len,N.len,jh,size_zeroCells,D,<-ir];grind
 .have X:=rO S K;have l:¬Builtin.nextslicecap (n+m) cap*j.bytes>2 ^ 48:=by grind
  have k:¬n+m<=cap:=by omega
  have F:¬((n+m:Nat):Int)>IntKind.i64.max:=by have e:IntKind.i64.max=9223372036854775807:=rfl;grind
  have y:∀u,(typeInfo E).run P u=.ok j u:=λu=>by simp[typeInfo,L]
  have A:∀u,(zeroValue E).run P u=.ok z u:=λu=>by simp[zeroValue,typeInfo,L,V]
  have h:(Builtin.lenOf x).run P s.w=.ok m s.w:=by rw[p];rfl
  replace B:(Builtin.firstCells d.size m x).run P s.w.drew=.ok c.toArray s.w.drew:=B;replace f:(Builtin.firstCells d.size n (.slice a n cap)).run P s.w.drew=.ok b.toArray s.w.drew:=f
  unfold Builtin.append_;simp only[ik,la,nT,bL,J,o,bU,O.run_sizeOf,dn,jz,b7,h,k,
   F,false_and,y,l,run_choose,Question.forced,run_askRoom,rM,World.drew_eq,f,B,n9,cj,A]
  simp[Go.newRow,grownCap];have e:∀Z:Array ah,(b++c).toArray++Z=(b++(c++Z.toList)).toArray:=λZ=>by grind
  rw[e];rfl
def kg(hi:dx P t i)(B:i.desc=.slice E)(o:dx P g i2)(l:i2.desc=.slice E)(F:dx P E d)(D:aF σ s){b n cap m:Nat}{v:aj}{c:List ah}(y:s.w.heap[b]?=aa (.cells c.toArray v (0,0)))(h:c.length=cap*d.size){tx:Bool}{es':Nat->List C}{x:ah}(z:Rd s.M x (.sl tx d.size m es'))(q:n+m<=cap):
  ∃a,Flat s.M d.size m es' a/\(Builtin.append_ #[t,g] ty #[.slice (aa ⟨b,0,ae⟩) n cap,x]).run P s.w=.ok (.slice (aa ⟨b,0,ae⟩) (n+m) cap) (s.w.setRow b (c.take (n*d.size)++a++c.drop (n*d.size+a.length)).toArray):=by
 obtain⟨a,p,A,k⟩:=dY (P:=P) D z;have u:=hi.run_underlying (w:=s.w);have j:=o.run_underlying (w:=s.w);rw[B]at u;rw[l]at j;have r:n*d.size+a.length<=c.length:=by rw[p.len,h,<-ir];exact eC _ q
 have f:=run_storeCells_at P b (n*d.size) v a 0 c.toArray s.w y (by grind) p.cell;simp only[iq]at f;have e:(Builtin.lenOf x).run P s.w=.ok m s.w:=by rw[k];rfl
 refine⟨a,p,?_⟩;unfold Builtin.append_;simp only[ik,la,nT,bL,u,j,bU,F.run_sizeOf,dn,jz,b7,e,q,cj,n9,A,dk,bC,f]
end
def DD{α:Type}{P:aq}{x:Sem α}{w:aA}{es:Array Event}{e:Event}(h:e∈x.events P w es):e∈es∨e∈x.events P w #[]:=by grind[Sem.events_acc]
def ZV(s:St)(e:Event):Prop:=∃b o u,e=zv b o/\s.M b o=aa u
def g8{P:aq}{σ:List aP}{s:St}(B:aF σ s){v:ah}{t:Bool}{k n:Nat}{es:Nat->List C}(h:Rd s.M v (.sl t k n es)){w:aA}(y:w.heap=s.w.heap):
  ∀e∈(Builtin.firstCells k n v).events P w #[],ZV s e:=by
 obtain⟨a,cap,vs,rfl,q,F,H,x,z⟩:=h.flat;have G:vs.length=n*k:=x.len;intro e l;cases a with
 |none=>simp[Builtin.firstCells]at l
 |some ad =>
  simp only[Builtin.firstCells]at l;have c:∀j,j<n*k->∃b off u,ad=⟨b,off,ae⟩/\s.M b (off+j)=aa u:=by intro j o;obtain⟨b,off,I,m⟩:=z j (vs[j]'(by omega)) (br (by omega));grind
  by_cases r:n*k=0
  .rw[r]at l;simp[loadCells,loadCellsFrom]at l
  .obtain⟨b,off,_,rfl,_⟩:=c 0 (by omega);have A:∀j,j<n*k->∃v,w.cell? ⟨b,off+j,ae⟩=aa v:=by intro j o;obtain⟨D,f,u,p,m⟩:=c j o;cases p;have:=B.mem _ _ _ m;exact⟨u,by simp only[aV,y]at this⊢;exact this⟩
   rcases rP (P:=P) A e l with h|⟨j,o,rfl⟩
   .grind
   .obtain⟨D,f,u,p,m⟩:=c j o;cases p;exact⟨_,_,u,rfl,m⟩
theorem s8{s:St}{e:Event}(h:ZV s e):oa s e:=by obtain⟨b,o,u,rfl,a⟩:=h;exact Bm a
section
variable {P:aq}{σ:List aP}{s:St}{t g ty E:aj}{i i2 d:TI}
def jD(hi:dx P t i)(u:i.desc=.slice E)(m:dx P g i2)(j:i2.desc=.slice E)(y:dx P E d)(p:aF σ s){a:Option Addr}{n cap:Nat}(c:n<=cap){x:ah}{tx:Bool}{es':Nat->List C}(h:Rd s.M x (.sl tx d.size 0 es')):
  eY s ((Builtin.append_ #[t,g] ty #[.slice a n cap,x]).events P s.w #[]):=by obtain⟨b,v,A,r⟩:=dY (P:=P) p h;have l:=g8 (P:=P) p h (w:=s.w) rfl;have q:=hi.run_underlying (w:=s.w);have f:=m.run_underlying (w:=s.w);rw[u]at q;rw[j]at f;obtain⟨a',o,vs,rfl,_⟩:=h.flat;have k:b=[]:=jf (by simpa using v.len);subst k;intro e z;refine s8 (l e ?_);cases a<;>simpa[Builtin.append_,q,f,y.run_sizeOf,Builtin.lenOf,c,A,storeCells]using z
def iV(hi:dx P t i)(hd:i.desc=.slice E)(L:dx P g i2)(J:i2.desc=.slice E)(X:dx P E d)(K:aF σ s){a:Option Addr}{n cap m:Nat}{td tx:Bool}{es es':Nat->List C}{x:ah}(S:Rd s.M (.slice a n cap) (.sl td d.size n es))(Q:Rd s.M x (.sl tx d.size m es'))(Y:cap<n+m)(U:(n+m)*d.bytes<=140737488355328)(O:d.bytes≠0):
  eY s ((Builtin.append_ #[t,g] ty #[.slice a n cap,x]).events P s.w #[]):=by
 have D:aF σ {s with w:=s.w.drew}:=K.same rfl;obtain⟨B,hF,H,b⟩:=dY (P:=P) D (v:=x) Q;obtain⟨p,hFo,c,hlo⟩:=dY (P:=P) D (v:=.slice a n cap) S;have G8:=g8 (P:=P) K Q (w:=s.w.drew) rfl;have W:=g8 (P:=P) K S (w:=s.w.drew) rfl;have R:=hi.run_underlying (w:=s.w);have A:=L.run_underlying (w:=s.w);rw[hd]at R;rw[J]at A;obtain⟨f,z,V,z2,z3,Z,z5,z6,z7⟩:=X.info;have hle:n+m<=140737488355328:=iP (uW _ (Nat.pos_of_ne_zero O)) U;have hnx:=rO Y U;have y:¬Builtin.nextslicecap (n+m) cap*f.bytes>2 ^ 48:=by grind
 have q:¬n+m<=cap:=by omega
 have I:¬((n+m:Nat):Int)>IntKind.i64.max:=by have e:IntKind.i64.max=9223372036854775807:=rfl;grind
 have F:∀u,(typeInfo E).run P u=.ok f u:=λu=>by simp[typeInfo,V]
 have G:∀u,(zeroValue E).run P u=.ok z u:=λu=>by simp[zeroValue,typeInfo,V,Z]
 have k:(Builtin.lenOf x).run P s.w=.ok m s.w:=by rw[b];rfl
 have l:(Builtin.lenOf x).events P s.w #[]=#[]:=by rw[b];rfl
 replace H:(Builtin.firstCells d.size m x).run P s.w.drew=.ok B.toArray s.w.drew:=H;replace c:(Builtin.firstCells d.size n (.slice a n cap)).run P s.w.drew=.ok p.toArray s.w.drew:=c
 intro e o;unfold Builtin.append_ at o;simp only[ik,la,nT,aM,bL,R,A,bU,aO,X.run_sizeOf,dn,jz,b7,k,l,q,
  I,false_and,F,y,run_choose,Question.forced,run_askRoom,rM,Sem.events_ite,World.drew_eq,c,H,n9,cj,G,events_underlying,events_sizeOf,events_typeInfo,events_choose,events_zeroValue,Sem.events_pure]at o
 have N:∀(x:Nat) (w:aA) (e:Event),e∈(askRoom x).events P w #[]->e=⟨.mark .noRoom,af,ab⟩:=by intro x w e h;unfold askRoom at h;simp_all
 rw[cZ.newRow (P:=P)]at o;generalize(Go.newRow E _).run P s.w.drew=r at o;have j:e∈(Builtin.firstCells d.size m x).events P s.w.drew ((Builtin.firstCells d.size n (.slice a n cap)).events P s.w.drew ((askRoom ((Question.appendCap (n+m) cap E).cut (s.w.tape s.w.drawn (Question.appendCap (n+m) cap E))*f.bytes)).events P s.w.drew #[])):=by
  cases r with
  |ok v w'=>simpa using o
  |halt v w'=>simpa using o
 rcases DD j with j|j
 .rcases DD j with j|j
  .rw[N _ _ _ j];exact .inl rfl
  grind[s8]
 grind[s8]
def lU(hi:dx P t i)(Q:i.desc=.slice E)(y:dx P g i2)(u:i2.desc=.slice E)(R:dx P E d)(J:aF σ s){b n cap m:Nat}{I:aj}{a:List ah}(B:s.w.heap[b]?=aa (.cells a.toArray I (0,0)))(q:a.length=cap*d.size){tx:Bool}{es':Nat->List C}{x:ah}(F:Rd s.M x (.sl tx d.size m es'))(D:n+m<=cap){L:Loc}(U:L∈s.β)(K:b∈L.bs)(A:∀o,n*d.size<=o->s.M b o=ae):
  eY s ((Builtin.append_ #[t,g] ty #[.slice (aa ⟨b,0,ae⟩) n cap,x]).events P s.w #[]):=by
 obtain⟨c,z,N,f⟩:=dY (P:=P) J F;have O:=g8 (P:=P) J F (w:=s.w) rfl;have H:=hi.run_underlying (w:=s.w);have r:=y.run_underlying (w:=s.w);rw[Q]at H;rw[u]at r;have G:n*d.size+c.length<=a.length:=by rw[z.len,q,<-ir];exact eC _ D
 have p:=run_storeCells_at P b (n*d.size) I c 0 a.toArray s.w B (by grind) z.cell;simp only[iq]at p;have l:(Builtin.lenOf x).run P s.w=.ok m s.w:=by rw[f];rfl
 have k:(Builtin.lenOf x).events P s.w #[]=#[]:=by rw[f];rfl
 intro e v;unfold Builtin.append_ at v;simp only[ik,la,nT,aM,bL,H,r,aO,R.run_sizeOf,dn,jz,b7,l,k,D,cj,n9,N,dk,bC,p,
  rM,Sem.events_ite,events_underlying,events_sizeOf,Sem.events_pure]at v
 rcases dE c 0 a.toArray s.w _ B (by grind) z.cell e v with h|⟨j,V,S,rfl⟩
 .grind [s8]
 grind[jE]
end
structure lz(P:aq)(o:au)(x y:ak)(E:aj)(d:TI):Prop where
 op:∃t g i i2,o.op=.call {callee:=.builtin .append,args:=#[x,y],argTypes:=#[t,g]}/\dx P t i/\i.desc=.slice E/\dx P g i2/\i2.desc=.slice E
 elem:dx P E d
 bytes:d.bytes≠0
 size:d.size≠0
def St.grown(s:St)(E:aj)(vs zs:List ah)(β:List Loc):St :=
 {β:=β,M:=λb o=>if b=s.w.heap.size then vs[o]? else s.M b o,w:=s.w.drew.alloc (.cells (vs++zs).toArray E),own:=s.own}
def ym{σ:List aP}{s:St}(h:aF σ s)(E:aj)(vs zs:List ah):∀b o v,(if b=s.w.heap.size then vs[o]? else s.M b o)=aa v->(s.w.drew.alloc (.cells (vs++zs).toArray E)).cell? ⟨b,o,ae⟩=aa v:=by
 intro b o v a;by_cases e:b=s.w.heap.size
 .subst e;simp only[cj]at a;unfold aV;have:(s.w.drew.alloc (.cells (vs++zs).toArray E)).heap[s.w.heap.size]?=aa (.cells (vs++zs).toArray E):=dG s.w.drew _;grind
 .simp only[e,b7]at a;have c:=h.block a;rw[<-h.mem b o v a];unfold aV;have:(s.w.drew.alloc (.cells (vs++zs).toArray E)).heap[b]?=s.w.heap[b]?:=cJ s.w.drew _ c;grind
def yn{σ:List aP}{s:St}(h:aF σ s)(vs:List ah):∀b o v,s.M b o=aa v->(if b=s.w.heap.size then vs[o]? else s.M b o)=aa v:=by intro b o v a;have:=h.block a;grind
theorem eH{P:aq}{s:St}{m:Sem ah}(h:eY s (m.events P s.w #[])):eY s ((do pure (.value (<-m)):Sem Next).events P s.w #[]):=by simp_all
theorem de{o:au}{x y:ak}{t g:aj}(h:o.op=.call {callee:=.builtin .append,args:=#[x,y],argTypes:=#[t,g]})(a:ak->ah):
  aw a o=(do pure (.value (<-Builtin.append_ #[t,g] o.type #[a x,a y]))):=by simp[aw,h,resolve,invoke,builtin]
def Rd.loose{M:Mem}{v:ah}{t:Bool}{k n:Nat}{es:Nat->List C}(h:Rd M v (.sl t k n es)):Rd M v (.sl af k n es):=by
 cases h with
 |sl b off f a c e hk ha hm hr=>exact .sl b off f a c (by simp) hk ha hm hr
def Rd.Dz{M:Mem}{v:ah}{t:Bool}{k n:Nat}{es es':Nat->List C}(m:∀i,i<n->es i=es' i)(h:Rd M v (.sl t k n es)):Rd M v (.sl t k n es'):=by
 cases h with
 |sl b off f a e l hk ha hm hr=>exact .sl b off f a e l (λi hi=>by grind) ha (λi hi j c hj=>hm i hi j c (by grind)) (λi hi j c hj=>hr i hi j c (by grind))
def Rd.u9{M:Mem}{v:ah}{k k' n:Nat}{es:Nat->List C}(hk:k=k'∨n=0)(h:Rd M v (.sl ab k n es)):Rd M v (.sl ab k' n es):=by
 rcases hk with rfl|rfl
 .exact h
 .obtain⟨a,cap,vs,f,e,b,c,_⟩:=h.flat;grind[Rd.jF]
def pW{σ:List aP}{s:St}{l:Nat}{E:aj}{k n:Nat}{es:Nat->List C}{L:Loc}(hB:σ[l]?=aa (.vec E k n es))(a:s.β[l]?=aa L)(h:et σ s (.vec E k n es) L):gn σ s L.v (.vec l k n es):=by refine⟨h.1,(bY.1 hB).1,λb k' n' es' he=>?_⟩;grind
def bF.oX{P:aq}{o:au}{S:ak->D}{σ:List aP}{x y:ak}{E:aj}{d:TI}(h:lz P o x y E d){n m k:Nat}{tx:Bool}{es es':Nat->List C}(Y:S x=.e (.one (.c (.sl ab k n es))))(hk:k=d.size∨n=0)(hy:∀s v,dj σ s v (S y)->Rd s.M v (.sl tx d.size m es'))(r:(n+m)*d.bytes<=140737488355328)(hz:n=0∨0<m):
  bF P o S σ (.e (.one (.vec σ.length d.size (n+m) (cC n es es')))) (σ++[.vec E d.size (n+m) (cC n es es')]):=by
 intro s ρ hh hr;obtain⟨t,g,i,i2,R,hi,J,A,z⟩:=h.op;have h1:=hr x;rw[Y]at h1;have l:=Rd.u9 hk (eT h1);have h2:=hy s _ (hr y);obtain⟨a,cap,vs,hv,B,X,ht,hF,W⟩:=l.flat;have L:cap=n:=ht rfl;subst L;rw[de R];rw[hv]at l⊢;by_cases Z:m=0
 .subst Z;have q:=jb (P:=P) (ty:=o.type) hi J A z h.elem hh (a:=a) B h2;simp only[iq];have l:=Rd.Dz (es':=cC cap es es') (λi hi=>by grind) l;have hB:et (σ++[.vec E d.size cap (cC cap es es')]) {s with β:=s.β++[⟨.slice a cap cap,[]⟩]} (.vec E d.size cap (cC cap es es')) ⟨.slice a cap cap,[]⟩:=⟨l.loose,.inl ⟨⟨rfl,by omega⟩,l⟩⟩
  obtain⟨N,O⟩:=hh.hO (.refl _ _) rfl hh hB (by simp);refine⟨.value (.slice a cap cap),_,?_,?_,N,O,eH (jD hi J A z h.elem hh B h2)⟩
  .simp[q]
  .exact pW (by simp) (by simp[<-hh.len]) hB
 .have V:cap<cap+m:=by omega
  obtain⟨j,G,f,H,K,U,I,q⟩:=iu (P:=P) (ty:=o.type) hi J A z h.elem hh l h2 V r h.bytes;have F:aF σ (s.grown E j G s.β)/\Step σ s σ (s.grown E j G s.β) :=
   hh.grow (by simp) (λb r=>cJ s.w.drew _ r) (λb r o=>by grind)
    (λb r o v W=>ym hh E j G b o v W) rfl rfl rfl
  have Q:Rd (s.grown E j G s.β).M (.slice (aa ⟨s.w.heap.size,0,ae⟩) (cap+m) f) (.sl af d.size (cap+m) (cC cap es es')) :=
   Rd.qN (H.mono F.2.mem) (b:=s.w.heap.size) (off:=0) (λ_=>rfl) K U (by simp) (λp u hp=>by simpa[St.grown]using hp)
  have hB:et (σ++[.vec E d.size (cap+m) (cC cap es es')]) {(s.grown E j G s.β)with β:=(s.grown E j G s.β).β++[⟨.slice (aa ⟨s.w.heap.size,0,ae⟩) (cap+m) f,[s.w.heap.size]⟩]} (.vec E d.size (cap+m) (cC cap es es')) ⟨.slice (aa ⟨s.w.heap.size,0,ae⟩) (cap+m) f,[s.w.heap.size]⟩:=by
   refine⟨Q,.inr ⟨s.w.heap.size,f,j++G,rfl,dG s.w.drew _,I,λo R=>?_⟩⟩;have hl:j.length<=o:=by rw[H.len];exact R
   simp[St.grown,rD hl]
  obtain⟨N,O⟩:=F.1.hO F.2 rfl hh hB (λb r=>by simp at r;subst r;refine⟨bh _,?_⟩;simp[St.grown])
  refine⟨.value (.slice (aa ⟨s.w.heap.size,0,ae⟩) (cap+m) f),_,?_,?_,N,O,eH (iV hi J A z h.elem hh l h2 V r h.bytes)⟩
  .simp[q];rfl
  .exact pW (by simp) (by simp[St.grown,<-hh.len]) hB
def bF.G9{P:aq}{o:au}{η:ak->D}{σ:List aP}{x y:ak}{E:aj}{d:TI}(h:lz P o x y E d){l n m:Nat}{tx:Bool}{es es':Nat->List C}(hx:η x=.e (.one (.vec l d.size n es)))(hl:σ[l]?=aa (.vec E d.size n es))(hy:∀s v,dj σ s v (η y)->Rd s.M v (.sl tx d.size m es'))(O:(n+m)*d.bytes<=140737488355328):
  bF P o η σ (.e (.one (.vec l d.size (n+m) (cC n es es')))) (σ.set l (.vec E d.size (n+m) (cC n es es'))):=by
 intro s ρ hh hr;obtain⟨t,g,i,i2,ho,hi,Z,J,H⟩:=h.op;have QT:l<σ.length:=(bY.1 hl).1;have h1:=hr x;rw[hx]at h1;obtain⟨S,_,h1v⟩:=h1;obtain⟨L,U,hv⟩:=(h1v _ _ _ _ hl).2 rfl;have h2:=hy s _ (hr y);have QU:l<s.β.length:=(bY.1 U).1;have K:=hh.box l _ L hl U;obtain⟨a,cap,vs,QV,V,Nd,ht,hF,hm⟩:=S.flat;rw[de ho,QV];rw[QV]at S;have R:L.v=.slice a n cap:=by grind
 by_cases h0:m=0
 .subst h0;have z:=jb (P:=P) (ty:=o.type) hi Z J H h.elem hh (a:=a) V h2;simp only[iq];have ha:∀i,i<n->es i=cC n es es' i:=λi hi=>by simp[cC,hi]
  have WW:et (σ.set l (.vec E d.size n (cC n es es'))) ⟨s.β.set l L,s.M,s.w,s.own⟩ (.vec E d.size n (cC n es es')) L:=by
   refine⟨K.1.Dz ha,?_⟩;rcases K.2 with⟨h3,h4⟩|h3
   .exact .inl ⟨h3,h4.Dz ha⟩
   grind
  have f:=hh.gz (M':=s.M) (w':=s.w) (B':=.vec E d.size n (cC n es es')) (L':=L) hl U ⟨λ_=>rfl,bh _⟩ (bh _) (λ_ _ _=>rfl) (λ_ _ _ _=>rfl) (λ_ _ _ h=>h) hh.mem
   (λb O=>⟨.inl O,hh.lt L (bH U) b O⟩) rfl rfl rfl WW
  refine⟨.value (.slice a n cap),_,?_,?_,f.1,f.2,eH (jD hi Z J H h.elem hh V h2)⟩
  .simp[z]
  .rw[<-R];exact pW (E:=E) (by grind) (by grind) WW
 .have Q:¬(n+m=n):=by omega
  by_cases k:n+m<=cap
  .rcases K.2 with⟨T8,B⟩|⟨b,Nf,A,rfl,hw,N,W⟩
   .rw[R]at B;obtain⟨_,_,_,e,_,_,ht2,_⟩:=B.flat;grind
   .simp only at R;cases R;obtain⟨c,MU,z⟩:=kg (P:=P) (ty:=o.type) hi Z J H h.elem hh hw N h2 k;have T5:c.length=m*d.size:=MU.len;have XD:b<s.w.heap.size:=(ij.1 hw).1;let M':Mem:=λF o=>if F=b/\n*d.size<=o/\o<(n+m)*d.size then c[o-n*d.size]? else s.M F o;have IM:A.length=cap*d.size:=N;have hnm:(n+m)*d.size=n*d.size+m*d.size:=ir _ _ _;have ZW:(n+m)*d.size<=cap*d.size:=eC _ k;have T9:∀F o v,s.M F o=aa v->M' F o=aa v:=by grind
    have QS:∀p u,c[p]?=aa u->M' b (n*d.size+p)=aa u:=by grind
    have Y:Rd M' (.slice (aa ⟨b,0,ae⟩) (n+m) cap) (.sl af d.size (n+m) (cC n es es')):=by refine Rd.qN (vs:=vs++c) ((hF.append MU).mono T9) (b:=b) (off:=0) (λ_=>rfl) k Nd (by simp) (λp u hp=>?_);have PK:vs.length=n*d.size:=hF.len;grind
    have f:=hh.gz (M':=M') (w':=s.w.setRow b (A.take (n*d.size)++c++A.drop (n*d.size+c.length)).toArray) (B':=.vec E d.size (n+m) (cC n es es')) (L':=⟨.slice (aa ⟨b,0,ae⟩) (n+m) cap,[b]⟩) hl U
     ⟨λe=>absurd e Q,by omega⟩ (by simp) (λF _ G=>setRow_other _ _ _ _ (by grind)) (λF _ G o=>by
      grind) T9 ?_ (λF G=>by simp at G;subst G;exact⟨.inl (by simp),by simpa using XD⟩) rfl rfl rfl ?_
    .refine⟨.value (.slice (aa ⟨b,0,ae⟩) (n+m) cap),_,?_,?_,f.1,f.2,eH (lU hi Z J H h.elem hh hw N h2 k (bH U) (by simp) W)⟩
     .simp[z]
     .exact pW (L:=⟨.slice (aa ⟨b,0,ae⟩) (n+m) cap,[b]⟩) (E:=E) (by grind) (by grind) (f.1.box l _ _ (by grind) (by grind))
    .intro F o v I;by_cases G:F=b
     .subst G;have X:∀j,(s.w.setRow F (A.take (n*d.size)++c++A.drop (n*d.size+c.length)).toArray).cell? ⟨F,j,ae⟩=(A.take (n*d.size)++c++A.drop (n*d.size+c.length))[j]?:=by grind[cell_setRow_same]
      rw[X];simp only[M']at I;have hkl:(A.take (n*d.size)).length=n*d.size:=by rw[List.length_take];omega
      split at I
      .grind
      .rename_i hc;have h3:=hh.mem F o v I;have ho:o<n*d.size:=by grind
       rw[lS,jy (by omega),iL,bm ho];simp only[aV,hw]at h3;grind
     .simp only[M']at I;rw[aZ (by omega)]at I;rw[<-hh.mem F o v I];simp only[aV];grind[setRow_other]
    .refine⟨Y,.inr ⟨b,cap,_,rfl,setRow_heap _ _ _ _ _ _ hw,?_,λo ho=>?_⟩⟩
     .grind
     grind
  .have hg:cap<n+m:=by omega
   obtain⟨r,zs,q,T6,WX,WY,hlen,z⟩:=iu (P:=P) (ty:=o.type) hi Z J H h.elem hh S h2 hg O h.bytes;have hbl:∀b∈L.bs,b<s.w.heap.size:=hh.lt L (bH U);have Y:Rd (λb o=>if b=s.w.heap.size then r[o]? else s.M b o) (.slice (aa ⟨s.w.heap.size,0,ae⟩) (n+m) q) (.sl af d.size (n+m) (cC n es es')) :=
    Rd.qN (T6.mono (yn hh r)) (b:=s.w.heap.size) (off:=0) (λ_=>rfl) WX WY (by simp) (λp u hp=>by grind)
   have f:=hh.gz (M':=λb o=>if b=s.w.heap.size then r[o]? else s.M b o) (w':=s.w.drew.alloc (.cells (r++zs).toArray E)) (B':=.vec E d.size (n+m) (cC n es es')) (L':=⟨.slice (aa ⟨s.w.heap.size,0,ae⟩) (n+m) q,[s.w.heap.size]⟩) hl U
    ⟨λe=>absurd e Q,by omega⟩ (by simp) (λb O _=>cJ s.w.drew _ O) (λb O _ o=>by grind) (yn hh r) (ym hh E r zs) (λb O=>by
     simp at O;subst O;exact⟨.inr (bh _),by simp⟩) rfl rfl rfl ⟨Y,.inr ⟨s.w.heap.size,q,r++zs,rfl,dG s.w.drew _,hlen,λo ho=>by
      have hl:r.length<=o:=by rw[T6.len];exact ho
      grind⟩⟩
   refine⟨.value (.slice (aa ⟨s.w.heap.size,0,ae⟩) (n+m) q),_,?_,?_,f.1,f.2,eH (iV hi Z J H h.elem hh S h2 hg O h.bytes)⟩
   .simp[z]
   .exact pW (L:=⟨.slice (aa ⟨s.w.heap.size,0,ae⟩) (n+m) q,[s.w.heap.size]⟩) (E:=E) (by grind) (by grind) (f.1.box l _ _ (by grind) (by grind))
def jJ{α:Type}:List Nat->List α->Option (List α)
 |[],_=>aa []
 |k::ks,l=>match dt k l with
  |some x=>match jJ ks l with
   |some r=>aa (x::r)
   |none=>ae
  |none=>ae
def fg{α:Type}:∀(n:Nat)(l:List α),dt n l=l[n]?
 |_,[]=>by simp[dt]
 |0,x::_=>by simp[dt]
 |n+1,_::xs=>by simpa[dt]using fg n xs
def iH{α:Type}:∀{ks:List Nat}{l r:List α},jJ ks l=aa r->r.length=ks.length/\∀(j k:Nat),ks[j]?=aa k->∃x,r[j]?=aa x/\l[k]?=aa x
 |[],l,r,h=>by cases h;simp
 |k::ks,l,r,h=>by
  simp only[jJ]at h;cases b:dt k l with
  |none=>grind
  |some x =>
   cases a:jJ ks l with
   |none=>grind
   |some q =>
    simp[b,a]at h;subst h;obtain⟨d,c⟩:=iH a;grind[b5]
def vM{α e:Type}:∀{ks:List Nat}{l r:List α}{l':List e},jJ ks l=aa r->l'.length=l.length->∃r',jJ ks l'=aa r'
 |[],l,r,l',_,_=>⟨[],rfl⟩
 |k::ks,l,r,l',h,b=>by
  simp only[jJ]at h;cases d:dt k l with
  |none=>grind
  |some x =>
   cases c:jJ ks l with
   |none=>grind
   |some q =>
    obtain⟨r',a⟩:=vM (l':=l') c b;have hk:k<l'.length:=by rw[b];exact(bY.1 (b5 d)).1
    exact⟨l'[k]::r',by simp[jJ,fg,hk,a]⟩
def oL(ks:List Nat):A->A
 |.ptr l o=>match dt l ks with|some k=>.ptr k o|none=>.any
 |.vec l k n es=>match dt l ks with|some m=>.vec m k n es|none=>.c (.sl af k n es)
 |.ref l=>match dt l ks with|some k=>.ref k|none=>.any
 |.bp l w=>match dt l ks with|some k=>.bp k w|none=>.any
 |.c x=>.c x
 |.any=>.any
def Bx(ks:List Nat):List A->List A
 |[]=>[]
 |a::r=>oL ks a::Bx ks r
def zB(ks:List Nat):E1->E1
 |.one a=>.one (oL ks a)
 |.agg cs=>.agg (Bx ks cs)
def yp(ks:List Nat):List E1->List E1
 |[]=>[]
 |a::r=>zB ks a::yp ks r
def hZ(ks:List Nat):D->D
 |.e x=>.e (zB ks x)
 |.eX xs=>.eX (yp ks xs)
 |.any=>.any
def fI(ks:List Nat):List D->List D
 |[]=>[]
 |a::r=>hZ ks a::fI ks r
def DK:A->Bool
 |.c _|.any=>ab
 |_=>af
def zC:List A->Bool
 |[]=>ab
 |a::r=>match DK a with|true=>zC r|false=>af
def vN:aP->Bool
 |.cells _ cs=>zC cs
 |.loop ..=>af
 |_=>ab
def cq:List aP->Bool
 |[]=>ab
 |a::r=>match vN a with|true=>cq r|false=>af
def kK:∀{l:List aP},cq l=ab->∀B∈l,vN B=ab
 |[],_,B,hB=>by grind
 |b::r,h,B,hB=>by
  simp only[cq]at h;cases a:vN b with
  |false=>grind
  |true =>
   simp only[a]at h;rcases eE.1 hB with rfl|hB
   .exact a
   .exact kK h B hB
def dX.plain{σ σ':List aP}{s s':St}(e:s'.M=s.M):∀{vs:List ah}{cs:List A},zC cs=ab->dX σ s vs cs->dX σ' s' vs cs
 |[],[],_,_=>trivial
 |[],_::_,_,h=>h.elim
 |_::_,[],_,h=>h.elim
 |v::vs,a::al,b,h=>by
  simp only[zC]at b;cases d:DK a with
  |false=>grind
  |true =>
   simp only[d]at b;refine⟨?_,dX.plain e b h.2⟩;cases a with
   |c x=>have:=h.1;simp only[gn]at this⊢;grind
   |any=>exact h.1
   |_=>simp[DK]at d
def et.plain{σ σ':List aP}{s s':St}(a:s'.M=s.M)(c:s'.w=s.w){B:aP}{L:Loc}(d:vN B=ab)(h:et σ s B L):et σ' s' B L:=by
 cases B with
 |cells E cs =>
  obtain⟨b,vs,h1,h2,e,f⟩:=h;exact⟨b,vs,h1,by grind,e.plain a d,λo=>by rw[a];grind⟩
 |vec E k n es=>simp only[et,a,c]at h⊢;exact h
 |b8 H=>simp only[et,a,c]at h⊢;exact h
 |dead=>trivial
 |loop N φ r=>simp[vN]at d
 |qP=>simp only[et,a,c]at h⊢;exact h
 |buf E k n es=>simp only[et,a,c]at h⊢;exact h
def ia:Nat->List Nat->Bool
 |_,[]=>af
 |k,x::r=>match aB k x with|true=>ab|false=>ia k r
def dw:List Nat->Bool
 |[]=>ab
 |k::r=>match ia k r with|true=>af|false=>dw r
theorem vf:∀{k:Nat}{l:List Nat},k∈l->ia k l=ab
 |k,[],h=>by grind
 |k,x::r,h=>by
  simp only[ia];cases a:aB k x with
  |true=>rfl
  |false =>
   rcases eE.1 h with rfl|h
   .grind [Nat.beq_refl]
   .exact vf h
def vO:∀{l:List Nat},dw l=ab->∀(i j k:Nat),l[i]?=aa k->l[j]?=aa k->i=j
 |[],_,i,j,k,hi,_=>by grind
 |x::r,h,i,j,k,hi,a=>by
  simp only[dw]at h;cases c:ia x r with
  |true=>grind
  |false =>
   simp only[c]at h;have no:∀q,r[q]?=aa x->False:=λq b=>by have:=vf (bH b);grind
   cases i with
   |zero =>
    grind
   |succ i =>
    cases j with
    |zero =>
     grind
    |succ j =>
     simp at hi a;rw[vO h i j k hi a]
def Hc(n:Nat):A->Bool
 |.ptr l _|.vec l _ _ _|.ref l|.bp l _=>bu (l+1) n
 |_=>ab
def FF(n:Nat):List A->Bool
 |[]=>ab
 |a::r=>match Hc n a with|true=>FF n r|false=>af
def Hd(n:Nat):E1->Bool
 |.one a=>Hc n a
 |.agg cs=>FF n cs
def x0(n:Nat):List E1->Bool
 |[]=>ab
 |a::r=>match Hd n a with|true=>x0 n r|false=>af
def vP(n:Nat):D->Bool
 |.e x=>Hd n x
 |.eX xs=>x0 n xs
 |.any=>ab
def ll(n:Nat):List D->Bool
 |[]=>ab
 |a::r=>match vP n a with|true=>ll n r|false=>af
section sub
variable {ks:List Nat}{σ σ':List aP}{s:St}{β':List Loc}
def gn.sub(p:jJ ks σ=aa σ')(u:jJ ks s.β=aa β'){v:ah}{a:A}(d:gn σ s v (oL ks a))(e:Hc ks.length a=ab):gn σ' {s with β:=β'} v a:=by
 obtain⟨z,m⟩:=iH p;obtain⟨C,i⟩:=iH u;cases a with
 |c x=>exact d
 |any=>exact d
 |ptr l o =>
  have hl:l<ks.length:=cV e;simp only[oL,fg,br hl]at d;obtain⟨h1,L,b,h2,h,q⟩:=d;obtain⟨x,j,t⟩:=m l _ (br hl);obtain⟨y,f,g⟩:=i l _ (br hl);rw[g]at h2;cases h2;exact⟨λB r=>h1 B (by grind),L,b,f,h,q⟩
 |vec l k n es =>
  have hl:l<ks.length:=cV e;simp only[oL,fg,br hl]at d;obtain⟨h1,h2,h⟩:=d;obtain⟨x,j,t⟩:=m l _ (br hl);obtain⟨y,f,g⟩:=i l _ (br hl);refine⟨h1,by grind,λE k' n' es' r=>?_⟩;grind
 |ref l =>
  have hl:l<ks.length:=cV e;simp only[oL,fg,br hl]at d;obtain⟨h1,L,h2,h,q⟩:=d;obtain⟨x,j,t⟩:=m l _ (br hl);obtain⟨y,f,g⟩:=i l _ (br hl);rw[g]at h2;cases h2;exact⟨λB r=>h1 B (by grind),L,f,h,q⟩
 |bp l w =>
  have hl:l<ks.length:=cV e;simp only[oL,fg,br hl]at d;obtain⟨lv,h1,h2,h⟩:=d;obtain⟨x,j,t⟩:=m l _ (br hl);obtain⟨y,f,g⟩:=i l _ (br hl);refine⟨lv,h1,(bY.1 j).1,λE k n es r=>?_⟩;grind
def gn.ni{σ2:List aP}{s2:St}(u:s2.M=s.M)(e:∀(j:Nat)(B:aP),σ[j]?=aa B->∃k,ks[j]?=aa k/\σ2[k]?=aa B)(g:∀(j:Nat)(L:Loc),s.β[j]?=aa L->∃k,ks[j]?=aa k/\s2.β[k]?=aa L)(t:s.β.length=σ.length){v:ah}{a:A}(f:gn σ s v a):gn σ2 s2 v (oL ks a):=by
 cases a with
 |c x=>simp only[oL,gn,u];exact f
 |any=>exact f
 |ptr l o =>
  obtain⟨h1,L,b,h2,h,i⟩:=f;obtain⟨k,k1,r⟩:=g l L h2;have hl:l<σ.length:=by grind
  obtain⟨k',d,p⟩:=e l _ (br hl);rw[k1]at d;cases d;simp only[oL,fg,k1];refine⟨λB q=>?_,L,b,r,h,i⟩;grind
 |vec l k n es =>
  obtain⟨h1,h2,h⟩:=f;obtain⟨k1,m,p2⟩:=e l _ (br h2);simp only[oL,fg,m];refine⟨by grind,(bY.1 p2).1,λE k' n' es' q=>?_⟩;grind
 |ref l =>
  obtain⟨h1,L,h2,h,i⟩:=f;obtain⟨k,k1,r⟩:=g l L h2;have hl:l<σ.length:=by grind
  obtain⟨k',d,p⟩:=e l _ (br hl);rw[k1]at d;cases d;simp only[oL,fg,k1];refine⟨λB q=>?_,L,r,h,i⟩;grind
 |bp l w =>
  obtain⟨lv,h1,h2,h⟩:=f;obtain⟨k1,m,p2⟩:=e l _ (br h2);simp only[oL,fg,m];refine⟨lv,h1,(bY.1 p2).1,λE k' n' es' q=>?_⟩;grind
def dX.sub(b:jJ ks σ=aa σ')(c:jJ ks s.β=aa β'):∀{vs:List ah}{cs:List A},dX σ s vs (Bx ks cs)->FF ks.length cs=ab->dX σ' {s with β:=β'} vs cs
 |[],[],_,_=>trivial
 |[],_::_,h,_=>h.elim
 |_::_,[],h,_=>h.elim
 |v::vs,a::al,h,d=>by
  simp only[FF]at d;cases e:Hc ks.length a with
  |false=>grind
  |true=>simp only[e]at d;exact⟨h.1.sub b c e,dX.sub b c h.2 d⟩
def m7.sub(b:jJ ks σ=aa σ')(c:jJ ks s.β=aa β'){v:ah}{x:E1}(h:m7 σ s v (zB ks x))(d:Hd ks.length x=ab):m7 σ' {s with β:=β'} v x:=by
 cases x with
 |one a=>exact gn.sub b c h d
 |agg cs=>obtain⟨vs,h1,h2⟩:=h;exact⟨vs,h1,h2.sub b c d⟩
def gZ.sub(b:jJ ks σ=aa σ')(c:jJ ks s.β=aa β'):∀{vs:List ah}{xs:List E1},gZ σ s vs (yp ks xs)->x0 ks.length xs=ab->gZ σ' {s with β:=β'} vs xs
 |[],[],_,_=>trivial
 |[],_::_,h,_=>h.elim
 |_::_,[],h,_=>h.elim
 |v::vs,a::al,h,d=>by
  simp only[x0]at d;cases e:Hd ks.length a with
  |false=>grind
  |true=>simp only[e]at d;exact⟨h.1.sub b c e,gZ.sub b c h.2 d⟩
def dj.sub(a:jJ ks σ=aa σ')(b:jJ ks s.β=aa β'){v:ah}{d:D}(h:dj σ s v (hZ ks d))(c:vP ks.length d=ab):dj σ' {s with β:=β'} v d:=by
 cases d with
 |e x=>exact m7.sub a b h c
 |eX xs=>obtain⟨vs,h1,h2⟩:=h;exact⟨vs,h1,h2.sub a b c⟩
 |any=>trivial
def cg.sub(b:jJ ks σ=aa σ')(c:jJ ks s.β=aa β'):∀{vs:List ah}{ds:List D},cg σ s vs (fI ks ds)->ll ks.length ds=ab->cg σ' {s with β:=β'} vs ds
 |[],[],_,_=>trivial
 |[],_::_,h,_=>h.elim
 |_::_,[],h,_=>h.elim
 |v::vs,a::al,h,d=>by
  simp only[ll]at d;cases e:vP ks.length a with
  |false=>grind
  |true=>simp only[e]at d;exact⟨h.1.sub b c e,cg.sub b c h.2 d⟩
variable {σ2:List aP}{s2:St}
def dX.ni(d:s2.M=s.M)(b:∀(j:Nat)(B:aP),σ[j]?=aa B->∃k,ks[j]?=aa k/\σ2[k]?=aa B)(c:∀(j:Nat)(L:Loc),s.β[j]?=aa L->∃k,ks[j]?=aa k/\s2.β[k]?=aa L)(a:s.β.length=σ.length):
  ∀{vs:List ah} {cs:List A},dX σ s vs cs->dX σ2 s2 vs (Bx ks cs)
 |[],[],_=>trivial
 |[],_::_,h=>h.elim
 |_::_,[],h=>h.elim
 |_::_,_::_,h=>⟨h.1.ni d b c a,dX.ni d b c a h.2⟩
def m7.ni(e:s2.M=s.M)(c:∀(j:Nat)(B:aP),σ[j]?=aa B->∃k,ks[j]?=aa k/\σ2[k]?=aa B)(d:∀(j:Nat)(L:Loc),s.β[j]?=aa L->∃k,ks[j]?=aa k/\s2.β[k]?=aa L)(b:s.β.length=σ.length){v:ah}{x:E1}(h:m7 σ s v x):m7 σ2 s2 v (zB ks x):=by
 cases x with
 |one a=>exact gn.ni e c d b h
 |agg cs=>obtain⟨vs,h1,h2⟩:=h;exact⟨vs,h1,h2.ni e c d b⟩
def gZ.ni(d:s2.M=s.M)(b:∀(j:Nat)(B:aP),σ[j]?=aa B->∃k,ks[j]?=aa k/\σ2[k]?=aa B)(c:∀(j:Nat)(L:Loc),s.β[j]?=aa L->∃k,ks[j]?=aa k/\s2.β[k]?=aa L)(a:s.β.length=σ.length):
  ∀{vs:List ah} {xs:List E1},gZ σ s vs xs->gZ σ2 s2 vs (yp ks xs)
 |[],[],_=>trivial
 |[],_::_,h=>h.elim
 |_::_,[],h=>h.elim
 |_::_,_::_,h=>⟨h.1.ni d b c a,gZ.ni d b c a h.2⟩
def dj.ni(f:s2.M=s.M)(b:∀(j:Nat)(B:aP),σ[j]?=aa B->∃k,ks[j]?=aa k/\σ2[k]?=aa B)(c:∀(j:Nat)(L:Loc),s.β[j]?=aa L->∃k,ks[j]?=aa k/\s2.β[k]?=aa L)(a:s.β.length=σ.length){v:ah}{d:D}(h:dj σ s v d):dj σ2 s2 v (hZ ks d):=by
 cases d with
 |e x=>exact m7.ni f b c a h
 |eX xs=>obtain⟨vs,h1,h2⟩:=h;exact⟨vs,h1,h2.ni f b c a⟩
 |any=>trivial
end sub
def dH.qw{α:Type}:Nat->α->List α->List α
 |_,_,[]=>[]
 |0,x,_::r=>x::r
 |k+1,x,y::r=>y::dH.qw k x r
def dH{α:Type}:List Nat->List α->List α->List α
 |[],new,old=>old++new
 |k::ks,x::new,old=>dH ks new (dH.qw k x old)
 |_::_,[],old=>old
theorem jc{α:Type}:∀(k:Nat)(x:α)(l:List α),dH.qw k x l=l.set k x
 |_,_,[]=>by simp[dH.qw]
 |0,x,_::r=>by simp[dH.qw]
 |k+1,x,y::r=>by simp[dH.qw,jc k x r]
def vQ{α:Type}:∀{ks:List Nat}{new old:List α},dw ks=ab->(∀k∈ks,k<old.length)->ks.length<=new.length ->
  (dH ks new old).length=old.length+(new.length-ks.length)/\(∀(j k:Nat),ks[j]?=aa k->(dH ks new old)[k]?=new[j]?) /\
  (∀j,(dH ks new old)[old.length+j]?=new[ks.length+j]?)/\(∀l,l<old.length->l∉ks->(dH ks new old)[l]?=old[l]?)
 |[],new,old,_,_,_=>by
  refine⟨by simp[dH],by simp,λj=>?_,λl d _=>?_⟩
  .simp only[dH,gx,bC];grind
  .simp[dH,jy d]
 |k::ks,[],old,_,_,h=>by grind
 |k::ks,x::new,old,a,b,g=>by
  have c:=a;simp only[dw]at a;cases e:ia k ks with
  |true=>grind
  |false =>
   simp only[e]at a;have hk:k<old.length:=b k (by simp);have f:k∉ks:=λh=>by grind[vf]
   obtain⟨o,n,m,i⟩:=vQ (ks:=ks) (new:=new) (old:=old.set k x) a (λk' Um=>by grind) (by grind);simp only[dH,jc];grind
def Ev{P:aq}(X:Cx P)(f:aJ)(args:List D)(σ:List aP)(res:D)(σ':List aP):Prop :=
 (∃fn,P.funcs[f]?=aa fn/\(fn.name== "runtime.NumGoroutine")=af/\fn.body.isNone=af) /\
 ∀s (vs:List ah),cg σ s vs args->aF σ s->∀(S:av->St->Prop) (cs:List aR),
  (∀a v s',uI P f a v s'->dj σ' s' v res->aF σ' s'->cR σ s σ' s'->fA X S (G a cs) s')->fA X S (G (Frame.enter P f vs.toArray .normal) cs) s
def eb{P:aq}{ι:Type}(X:Cx P)(f:aJ)(args:List D)(σ:List aP)(res:ι->D)(σ':ι->List aP):Prop :=
 (∃fn,P.funcs[f]?=aa fn/\(fn.name== "runtime.NumGoroutine")=af/\fn.body.isNone=af) /\
 ∀s (vs:List ah),cg σ s vs args->aF σ s->∀(S:av->St->Prop) (cs:List aR),
  (∀i a v s',uI P f a v s'->dj (σ' i) s' v (res i)->aF (σ' i) s'->cR σ s (σ' i) s'->fA X S (G a cs) s')->fA X S (G (Frame.enter P f vs.toArray .normal) cs) s
def Ev.tc{P:aq}{X:Cx P}{f:aJ}{args:List D}{σ:List aP}{res:D}{σ':List aP}(h:Ev X f args σ res σ'):eb (ι:=Unit) X f args σ (λ_=>res) (λ_=>σ') :=
 ⟨h.1,λs vs hr hh S cs hS=>h.2 s vs hr hh S cs (hS ())⟩
def eb.DL{P:aq}{X:Cx P}{f:aJ}{args:List D}{σ:List aP}{res:D}{σ':List aP}(h:eb (ι:=Unit) X f args σ (λ_=>res) (λ_=>σ')):Ev X f args σ res σ' :=
 ⟨h.1,λs vs hr hh S cs hS=>h.2 s vs hr hh S cs (λ_=>hS)⟩
def vR(s:St)(a:List Loc):Nat->Prop:=λb=>s.own b∨((∃L∈s.β,b∈L.bs)/\∀L∈a,b∉L.bs)
def kL(n:Nat):Nat->List Nat
 |0=>[]
 |m+1=>n::kL (n+1) m
def By:∀(m n j:Nat),(kL n m)[j]?=if j<m then aa (n+j)else ae
 |0,n,j=>by simp[kL]
 |m+1,n,0=>by simp[kL]
 |m+1,n,j+1=>by simp only[kL,nT,By m (n+1) j,Nat.add_lt_add_iff_right];grind
def frame{ks:List Nat}{σ Q σ1:List aP}{s a:St}{m:List Loc}(q:aF σ s)(T:jJ ks σ=aa Q)(hβ:jJ ks s.β=aa m)(hn:dw ks=ab)(hp:cq σ1=ab)(u:aF σ1 a)(st:cR Q {s with β:=m,own:=vR s m} σ1 a)(S:ks.length<=σ1.length){v:ah}{res:D}(hr:dj σ1 a v res):
  ∃s2:St,s2.w=a.w/\dj (dH ks σ1 σ) s2 v (hZ (ks++kL σ.length (σ1.length-ks.length)) res)/\aF (dH ks σ1 σ) s2/\cR σ s (dH ks σ1 σ) s2/\s2.M=a.M/\s2.own=s.own/\∀L∈s2.β,L∈a.β∨(L∈s.β/\∀b∈L.bs,∀L'∈m,b∉L'.bs):=by
 have G:∀k∈ks,k<σ.length:=by intro k hk;obtain⟨j,p,rfl⟩:=dM hk;obtain⟨x,_,h2⟩:=(iH T).2 j _ (br p);grind
 have C:∀k∈ks,k<s.β.length:=by rw[q.len];exact G
 have I:ks.length<=a.β.length:=by rw[u.len];exact S
 obtain⟨a1,a2,a3,a4⟩:=vQ (new:=σ1) (old:=σ) hn G S;obtain⟨b1,b2,b3,b4⟩:=vQ (new:=a.β) (old:=s.β) hn C I;obtain⟨c1,c2⟩:=iH T;obtain⟨d1,d2⟩:=iH hβ;let J:=ks++kL σ.length (σ1.length-ks.length);have O:∀j,j<σ1.length->∃k,J[j]?=aa k/\(dH ks σ1 σ)[k]?=σ1[j]?/\(dH ks a.β s.β)[k]?=a.β[j]?:=by
  intro j p;rcases cD j ks.length with n|z
  .refine⟨ks[j],?_,a2 j _ (br n),b2 j _ (br n)⟩;grind
  .refine⟨σ.length+(j-ks.length),?_,?_,?_⟩
   .simp only[J];rw[gw z,By,bm (by omega)]
   .rw[a3];grind
   .rw[<-q.len,b3];grind
 have f:∀l L,(dH ks a.β s.β)[l]?=aa L->(∃j,j<σ1.length/\a.β[j]?=aa L/\(∀B,(dH ks σ1 σ)[l]?=aa B->σ1[j]?=aa B)/\(∀k,ks[j]?=aa k->k=l)/\(j≥ks.length->l=σ.length+(j-ks.length))) ∨
   (l<σ.length/\l∉ks/\s.β[l]?=aa L/\(dH ks σ1 σ)[l]?=σ[l]?):=by
  intro l L c;have Z:l<(dH ks a.β s.β).length:=(bY.1 c).1;rcases cD l σ.length with n|z
  .by_cases r:l∈ks
   .obtain⟨j,p,rfl⟩:=dM r;have hk:=br p;grind
   .exact .inr ⟨n,r,by rw[<-b4 l (by rw[q.len];exact n) r];exact c,a4 l n r⟩
  .rw[b1,u.len,q.len]at Z;refine .inl ⟨ks.length+(l-σ.length),by omega,?_,λB hB=>?_,λk hk=>?_,λ_=>by omega⟩
   .rw[<-b3,q.len,zq z];exact c
   .rw[<-a3,zq z];exact hB
   grind
 have E:∀L∈m,L∈s.β:=by
  intro L c;obtain⟨j,p,rfl⟩:=dM c;have A:j<ks.length:=by grind
  obtain⟨x,K,U⟩:=d2 j _ (br A);grind
 have other:∀l L,l∉ks->s.β[l]?=aa L->∀b∈L.bs,b<s.w.heap.size/\∀L'∈m,b∉L'.bs:=by
  intro l L t c b d;refine⟨q.lt L (bH c) b d,λL' ff Dt=>?_⟩;obtain⟨j,p,rfl⟩:=dM ff;have A:j<ks.length:=by grind
  obtain⟨x,K,U⟩:=d2 j _ (br A);rw[br p]at K;cases K;have:=q.eB l ks[j] L _ c U b d Dt;grind
 have out:∀b,b<s.w.heap.size->(∀L∈s.β,b∉L.bs)->∀L∈m,b∉L.bs:=λb _ h L c=>h L (E L c);have ex:Ext σ s (dH ks σ1 σ) ⟨dH ks a.β s.β,a.M,a.w,s.own⟩:=by
  refine⟨st.mem,λl B L hB c=>?_⟩;have n:l<σ.length:=(bY.1 hB).1;by_cases r:l∈ks
  .obtain⟨j,p,rfl⟩:=dM r;have hk:=br p;obtain⟨x,K,U⟩:=c2 j _ hk;obtain⟨y,y1,y2⟩:=d2 j _ hk;rw[hB]at U;cases U;rw[c]at y2;cases y2;obtain⟨B',L',p1,p2,p3⟩:=st.box j B L K y1;grind
  .exact⟨B,L,by grind,by grind,.refl _ _⟩
 refine⟨⟨dH ks a.β s.β,a.M,a.w,s.own⟩,rfl,?_,⟨u.mem,?_,?_,?_,?_,?_⟩,⟨st.size,?_,st.mem,?_,?_,ex.box,st.os,st.tape,st.output,rfl⟩,rfl,rfl,?_⟩
 .refine dj.ni (s:=a) (s2:=⟨dH ks a.β s.β,a.M,a.w,s.own⟩) (σ2:=dH ks σ1 σ) (ks:=J) rfl (λj B hB=>?_) (λj L c=>?_) u.len hr
  .grind
  .obtain⟨k,k1,_,k3⟩:=O j (by rw[<-u.len];grind);grind
 .simp only;rw[a1,b1,u.len,q.len]
 .intro l B L hB c;rcases f l L c with⟨j,p,g,R,_⟩|⟨t,r,ff,Y⟩
  .exact et.plain (σ:=σ1) (s:=a) (s':=⟨dH ks a.β s.β,a.M,a.w,s.own⟩) rfl rfl (kK hp B (bH (R B hB))) (u.box j B L (R B hB) g)
  .rw[Y]at hB;refine(q.box l B L hB ff).carry ex q.len λb d=>?_;obtain⟨X,V⟩:=other l L r ff b d;exact⟨st.fe b (.inr ⟨⟨L,bH ff,d⟩,V⟩),st.iU b X V⟩
 .intro l l' L L' c ff b d Dt;rcases f l L c with⟨j,p,g,_,hjk,hjn⟩|⟨t,r,i,_⟩<;>rcases f l' L' ff with⟨j',A,F,_,abX,abY⟩|⟨Ds,hm',H,_⟩
  .have e:=u.eB j j' L L' g F b d Dt;grind
  .obtain⟨X,V⟩:=other l' L' hm' H b Dt;rcases st.vb L (bH g) b d with h|⟨L0,h0,P⟩
   .grind
   grind
  .obtain⟨X,V⟩:=other l L r i b d;rcases st.vb L' (bH F) b Dt with h|⟨L0,h0,P⟩
   .grind
   grind
  .exact q.eB l l' L L' i H b d Dt
 .intro L c b d;obtain⟨l,t,rfl⟩:=dM c;rcases f l _ (br t)with⟨j,p,g,_⟩|⟨_,_,i,_⟩
  .exact u.lt _ (bH g) b d
  .have:=q.lt _ (bH i) b d;have:=st.size;grind
 .intro b d;refine⟨?_,λL c N=>?_⟩
  .have:=(q.own b d).1;have:=st.size;grind
  .obtain⟨l,t,rfl⟩:=dM c;rcases f l _ (br t)with⟨j,p,g,_⟩|⟨_,_,i,_⟩
   .have ho:a.own b:=by rw[st.own];exact .inl d
    exact(u.own b ho).2 _ (bH g) N
   .exact(q.own b d).2 _ (bH i) N
 .intro b d;exact st.fe b (.inl d)
 .intro b d W o;exact st.iU b d (out b d W) o
 .intro L c b d;obtain⟨l,t,rfl⟩:=dM c;rcases f l _ (br t)with⟨j,p,g,_⟩|⟨_,_,i,_⟩
  .rcases st.vb _ (bH g) b d with h|⟨L0,h0,P⟩
   .grind
   grind
  grind
 .intro L c;obtain⟨l,t,rfl⟩:=dM c;rcases f l _ (br t)with⟨j,p,g,_⟩|⟨_,r,i,_⟩
  .grind
  grind
def eG:D->Option (aJ×List C)
 |.e (.one (.c (.fn (.func f) [] cap)))=>aa (f,cap)
 |_=>ae
theorem lJ{σ:List aP}{s:St}{c:ak->ah}{b:ak->D}(a:∀y,dj σ s (c y) (b y)):∀l:List ak,cg σ s (l.map c) (l.map b)
 |[]=>trivial
 |x::r=>⟨a x,lJ a r⟩
def cg.append{σ:List aP}{s:St}:∀{vs zD:List ah}{ds FE:List D},cg σ s vs ds->cg σ s zD FE->cg σ s (vs++zD) (ds++FE)
 |[],_,[],_,_,h=>h
 |[],_,_::_,_,h,_=>h.elim
 |_::_,_,[],_,h,_=>h.elim
 |_::_,_,_::_,_,h,a=>⟨h.1,cg.append h.2 a⟩
def Q3:A->A
 |.vec _ k n es=>.c (.sl af k n es)
 |.c (.sl _ k n es)=>.c (.sl af k n es)
 |a=>a
def FG{σ:List aP}{s:St}{v:ah}{a:A}(h:gn σ s v a):gn σ s v (Q3 a):=by
 cases a with
 |vec l k n es=>exact h.1
 |c x=>cases x<;>first|exact h|exact Rd.loose h
 |_=>exact h
def Q4:List A->List A
 |[]=>[]
 |a::r=>Q3 a::Q4 r
def FH{σ:List aP}{s:St}:∀{vs:List ah}{cs:List A},dX σ s vs cs->dX σ s vs (Q4 cs)
 |[],[],_=>trivial
 |[],_::_,h=>h.elim
 |_::_,[],h=>h.elim
 |_::_,_::_,h=>⟨FG h.1,FH h.2⟩
def Un:D->D
 |.e (.one a)=>.e (.one (Q3 a))
 |.e (.agg cs)=>.e (.agg (Q4 cs))
 |d=>d
def Nv{σ:List aP}{s:St}{v:ah}{d:D}(h:dj σ s v d):dj σ s v (Un d):=by
 cases d with
 |e x=>cases x with
  |one a=>exact FG h
  |agg cs=>obtain⟨vs,c,b⟩:=h;exact⟨vs,c,FH b⟩
 |eX xs=>exact h
 |any=>trivial
def mv:List D->List D
 |[]=>[]
 |a::r=>Un a::mv r
theorem o7{σ:List aP}{s:St}:∀{vs:List ah}{ds:List D},cg σ s vs ds->cg σ s vs (mv ds)
 |[],[],_=>trivial
 |[],_::_,h=>h.elim
 |_::_,[],h=>h.elim
 |_::_,_::_,h=>⟨Nv h.1,o7 h.2⟩
def fJ:List C->List D
 |[]=>[]
 |c::r=>.e (.one (.c c))::fJ r
theorem nj{σ:List aP}{s:St}:∀{vs:List ah}{cs:List C},(∀(j:Nat)(c:C),cs[j]?=aa c->∃v,vs[j]?=aa v/\Rd s.M v c)->vs.length=cs.length->cg σ s vs (fJ cs)
 |[],[],_,_=>trivial
 |[],_::_,_,h=>by grind
 |_::_,[],_,h=>by grind
 |v::vs,c::cs,h,e=>by obtain⟨u,a,b⟩:=h 0 c rfl;simp at a;subst a;exact⟨b,nj (λj c d=>by simpa using h (j+1) c (by grind)) (by grind)⟩
def zF{α:Type}{ks:List Nat}{l r:List α}(h:jJ ks l=aa r):∀x∈r,x∈l:=by intro x a;obtain⟨f,b⟩:=iH h;obtain⟨j,d,rfl⟩:=dM a;obtain⟨y,c,e⟩:=b j _ (br (by omega));grind
def aF.sub{ks:List Nat}{σ d:List aP}{s:St}{a:List Loc}(hh:aF σ s)(n:jJ ks σ=aa d)(g:jJ ks s.β=aa a)(t:cq d=ab)(u:dw ks=ab):
  aF d {s with β:=a,own:=vR s a}/\eu s {s with β:=a,own:=vR s a}:=by
 obtain⟨c1,c2⟩:=iH n;obtain⟨d1,d2⟩:=iH g;have i:∀L∈a,L∈s.β:=zF g;refine⟨⟨hh.mem,by grind,?_,?_,?_,?_⟩,⟨rfl,λ_ _ _ h=>h,λ_ _ _=>rfl,hh.mem,?_⟩⟩
 .intro j B L hB hL;have hj:j<ks.length:=by grind
  obtain⟨x,r,v⟩:=c2 j _ (br hj);obtain⟨y,e,q⟩:=d2 j _ (br hj);rw[hB]at r;cases r;simp only at hL;rw[hL]at e;cases e;exact et.plain (σ:=σ) (s:=s) (s':={s with β:=a,own:=vR s a}) rfl rfl (kK t B (bH hB)) (hh.box _ B L v q)
 .intro j o L L' hL ff b c l;simp only at hL ff;have hj:j<ks.length:=by grind
  have m:o<ks.length:=by grind
  obtain⟨y,e,q⟩:=d2 j _ (br hj);obtain⟨w,f,p⟩:=d2 o _ (br m);rw[hL]at e;cases e;rw[ff]at f;cases f;have:=hh.eB _ _ L L' q p b c l;exact vO u j o ks[j] (br hj) (by grind)
 .intro L hL b c;exact hh.lt _ (i L hL) b c
 .rintro b (c|⟨⟨L,hL,c⟩,k⟩)
  .exact⟨(hh.own b c).1,λL hL=>(hh.own b c).2 L (i L hL)⟩
  .exact⟨hh.lt L hL b c,k⟩
 .rintro b ((c|⟨⟨L,hL,c⟩,_⟩)|⟨L,hL,c⟩)
  .grind
  .grind
  grind
def eu.back{σ e σ1:List aP}{s c s2:St}{a:List Loc}(hh:aF σ s)(h1:aF σ1 c)(st:cR e {s with β:=a,own:=vR s a} σ1 c)(i:s2.w=c.w)(g:s2.M=c.M)(l:s2.own=s.own)(f:∀L∈s2.β,L∈c.β∨(L∈s.β/\∀b∈L.bs,∀L'∈a,b∉L'.bs)):eu c s2:=by
 refine⟨i,λb o v h=>by grind,λb _ o=>by rw[g],λb o v h=>by rw[g]at h;exact h1.mem b o v h,?_⟩;rintro b (d|⟨L,j,d⟩)
 .left;rw[st.own];exact .inl (by grind)
 .rcases f L j with h|⟨h,k⟩
  .grind
  .left;rw[st.own];exact .inr ⟨⟨L,h,d⟩,k b d⟩
def te{P:aq}{ι:Type}{X:Cx P}{S:av->St->Prop}{b:aR}{k:List Item}{cs:List aR}{a:Act}{s:St}{ops:Array au}{i:Nat}{rest:List Nat}{o:au}{ks:List Nat}{σ e:List aP}{σ1:ι->List aP}{f:aJ}{d:List D}{res:ι->D}{vs:List ah}(hb:b.kind≠.early)(ho:ops[i]?=aa o)(hw:bd o (yielded ops a.tmps)=ab)(hh:aF σ s)(F:∀w,(aw a.eval o).run P w=.ok (.enter f vs.toArray) w)(A:∀w,(aw a.eval o).events P w #[]=#[])(R:eb X f d e res σ1)(r:cg σ s vs (fI ks d))(Z:ll ks.length d=ab)(q:jJ ks σ=aa e)(hp:cq e=ab)(U:∀j,cq (σ1 j)=ab)(hn:dw ks=ab)(W:∀j,ks.length<=(σ1 j).length)(h:∀j v s',dj (dH ks (σ1 j) σ) s' v (hZ (ks++kL σ.length ((σ1 j).length-ks.length)) (res j))->aF (dH ks (σ1 j) σ) s'->cR σ s (dH ks (σ1 j) σ) s'->fA X S (G (b.aT (a.put o.dst v) (.inRegion ops rest::k)) cs) s'):
  fA X S (G (b.aT a (.inRegion ops (i::rest)::k)) cs) s:=by
 obtain⟨_,u⟩:=R;refine .next rfl λn J=>?_;have I:=X.iv J;have g:=hh.rely I;obtain⟨m,x⟩:=vM (l':=n.β) q g.len;obtain⟨H,K⟩:=g.sub q x hp hn;have p:cg σ n vs (fI ks d):=r.mono I.stepW.ext hh.len;have C:cg e {n with β:=m,own:=vR n m} vs d:=(p.sub (s:=n) q x Z).mono (σ:=e) (s:={n with β:=m}) (σ':=e) (s':={n with β:=m,own:=vR n m}) ⟨λ_ _ _ h=>h,λl B L hB hL=>⟨B,L,hB,hL,.refl _ _⟩⟩ H.len;refine⟨_,n,_,oY ho hw hb (F n.w),?_,.ghost K (u _ vs C H S _ λj fr v s2 hl mh IN mf=>?_)⟩
 .refine⟨⟨σ,σ,g,g,.refl _ _⟩,eY.seen ?_⟩;rw[A];exact .nil
 refine pZ (cs:=cs) (c:=b.aT a (.inRegion ops (i::rest)::k)) IN hl λs3 t=>?_;have z:=IN.rely t;have y:=mf.trans t.stepW;obtain⟨s4,Q,V,M,Y,N,T,E⟩:=frame g q x hn (U j) z y (W j) (mh.mono t.stepW.ext IN.len);refine .ghost (eu.back g z y Q N T E) ?_;have O:=kh (b:=b) (a:=a) (k:=k) ops i rest v;rw[ho]at O;simp only[nY]at O;rw[O];exact h j v s4 V M (I.stepW.trans Y)
def Jg{P:aq}{X:Cx P}{S:av->St->Prop}{b:aR}{k:List Item}{cs:List aR}{a:Act}{s:St}{ops:Array au}{i:Nat}{rest:List Nat}{o:au}{ks:List Nat}{σ d:List aP}{σ1:List aP}{f:aJ}{c:List D}{res:D}{vs:List ah}(t:b.kind≠.early)(y:ops[i]?=aa o)(u:bd o (yielded ops a.tmps)=ab)(x:aF σ s)(j:∀w,(aw a.eval o).run P w=.ok (.enter f vs.toArray) w)(g:∀w,(aw a.eval o).events P w #[]=#[])(q:Ev X f c d res σ1)(e:cg σ s vs (fI ks c))(p:ll ks.length c=ab)(m:jJ ks σ=aa d)(r:cq d=ab)(n:cq σ1=ab)(z:dw ks=ab)(l:ks.length<=σ1.length)(h:∀v s',dj (dH ks σ1 σ) s' v (hZ (ks++kL σ.length (σ1.length-ks.length)) res)->aF (dH ks σ1 σ) s'->cR σ s (dH ks σ1 σ) s'->fA X S (G (b.aT (a.put o.dst v) (.inRegion ops rest::k)) cs) s'):
  fA X S (G (b.aT a (.inRegion ops (i::rest)::k)) cs) s :=
 te t y u x j g q.tc e p m r (λ_=>n) z (λ_=>l) (λ_=>h)
theorem jr{P:aq}{o:au}{k:ak}{xs:Array ak}{g:Array aj}(l:o.op=.call {callee:=.value k,args:=xs,argTypes:=g}){f:aJ}{fn:Func}(d:P.funcs[f]?=aa fn)(i:(fn.name== "runtime.NumGoroutine")=af)(e:fn.body.isNone=af){a:Act}{cs:List ah}(j:a.eval k=.func (.func f) #[] cs.toArray)(w:aA):
  (aw a.eval o).run P w=.ok (.enter f (xs.toList.map a.eval++cs).toArray) w/\(aw a.eval o).events P w #[]=#[]:=by
 have h:(xs.map a.eval++cs.toArray)=(xs.toList.map a.eval++cs).toArray:=by grind
 have c:fn.name≠ "runtime.NumGoroutine":=by grind
 have b:fn.body≠ae:=by grind
 constructor
 .simp[aw,l,resolve,j,Deferred.ofValue,invoke,callFunc,d,c,b,h]
 .simp[aw,l,resolve,j,Deferred.ofValue,invoke,callFunc,d,c,b]
def ib.Bz{P:aq}{ι:Type}{X:Cx P}{N:Nat}{all rest:List au}{Q:Fr->List aP->Prop}{φ:Fr}{σ:List aP}{o:au}{B:ak}{xs:Array ak}{G:Array aj}(V:∀σ s a,cm N σ s φ a->bd o (yielded all.toArray a.tmps)=ab)(T:o.op=.call {callee:=.value B,args:=xs,argTypes:=G}){f:aJ}{cap:List C}(A:eG (bM φ B)=aa (f,cap))(ks:List Nat){e:List D}{p:List aP}{σ1:ι->List aP}{res:ι->D}(z:eb X f e p res σ1)(n:∀s vs,cg σ s vs (xs.toList.map (bM φ)++fJ cap)->cg σ s vs (fI ks e))(M:ll ks.length e=ab)(L:jJ ks σ=aa p)(W:cq p=ab)(J:∀j,cq (σ1 j)=ab)(hn:dw ks=ab)(K:∀j,ks.length<=(σ1 j).length)(d:Option Nat)(hd:o.dst=d)(U:∀t,d=aa t->t<N)(k:∀j,ib X N all rest Q (kl d (hZ (ks++kL σ.length ((σ1 j).length-ks.length)) (res j)) φ) (dH ks (σ1 j) σ)):ib X N all (o::rest) Q φ σ:=by
 subst hd;intro s a g hh b kk cs S idx hb jk hQ;cases idx with
 |nil=>exact jk.elim
 |cons i idx =>
 obtain⟨hi,jk⟩:=jk;have u:=cX g B;unfold eG at A;split at A
 case h_2=>cases A
 case h_1 f' Nf he =>
  cases A;rw[he]at u;have l:=eT u;generalize R:a.eval B=fv at l;cases l with
  |fn fs na hl Ds f1 f2 h1 h2 r1 r2 =>
   have E:fs=[]:=jf hl;subst E;have r:cg σ s na (fJ cap):=nj (λj c hj=>⟨f2 j,h2 j (by grind),r2 j c hj⟩) Ds;have y:cg σ s (xs.toList.map a.eval++na) (fI ks e):=by exact n _ _ ((lJ (cX g) xs.toList).append r)
   obtain⟨fn,x,m,h⟩:=z.1;refine te hb hi (V _ _ _ g) hh (λw=>(jr T x m h R w).1) (λw=>(jr T x m h R w).2) z y M L W J hn K λj v s' hr iX st=>?_;refine k j s' _ ?_ iX b kk cs S idx hb jk λH O Y a3 q Z h3 F=>hQ H O Y a3 q Z h3 (st.trans F);cases I:o.dst with
   |none=>exact g.mono st hh.len
   |some t=>exact(g.mono st hh.len).put (U t I) hr
def ib.PL{P:aq}{ι:Type}{X:Cx P}{N:Nat}{all rest:List au}{Q:Fr->List aP->Prop}{φ:Fr}{σ:List aP}{o:au}{q:ak}{xs:Array ak}{n:Array aj}(y:∀σ s a,cm N σ s φ a->bd o (yielded all.toArray a.tmps)=ab)(x:o.op=.call {callee:=.value q,args:=xs,argTypes:=n}){f:aJ}{cap:List C}(w:eG (bM φ q)=aa (f,cap))(ks:List Nat){b:List D}{c:List aP}{σ1:ι->List aP}{res:ι->D}(p:eb X f b c res σ1)(l:mv (xs.toList.map (bM φ)++fJ cap)=fI ks b)(m:ll ks.length b=ab)(g:jJ ks σ=aa c)(u:cq c=ab)(i:∀j,cq (σ1 j)=ab)(z:dw ks=ab)(e:∀j,ks.length<=(σ1 j).length)(d:Option Nat)(r:o.dst=d)(v:∀t,d=aa t->t<N)(k:∀j,ib X N all rest Q (kl d (hZ (ks++kL σ.length ((σ1 j).length-ks.length)) (res j)) φ) (dH ks (σ1 j) σ)):ib X N all (o::rest) Q φ σ :=
 ib.Bz y x w ks p (λs vs h=>by grind[o7]) m g u i z e d r v k
theorem ib.call{P:aq}{X:Cx P}{N:Nat}{all rest:List au}{Q:Fr->List aP->Prop}{φ:Fr}{σ:List aP}{o:au}{n:ak}{xs:Array ak}{l:Array aj}(w:∀σ s a,cm N σ s φ a->bd o (yielded all.toArray a.tmps)=ab)(v:o.op=.call {callee:=.value n,args:=xs,argTypes:=l}){f:aJ}{cap:List C}(u:eG (bM φ n)=aa (f,cap))(ks:List Nat){b:List D}{c σ1:List aP}{res:D}(m:Ev X f b c res σ1)(e:mv (xs.toList.map (bM φ)++fJ cap)=fI ks b)(j:ll ks.length b=ab)(h:jJ ks σ=aa c)(q:cq c=ab)(i:cq σ1=ab)(x:dw ks=ab)(g:ks.length<=σ1.length)(d:Option Nat)(p:o.dst=d)(r:∀t,d=aa t->t<N)(k:ib X N all rest Q (kl d (hZ (ks++kL σ.length (σ1.length-ks.length)) res) φ) (dH ks σ1 σ)):ib X N all (o::rest) Q φ σ :=
 ib.PL w v u ks m.tc e j h q (λ_=>i) x (λ_=>g) d p r (λ_=>k)
def Names.range(all:List au):Names all (bg all.toArray.size) all:=by
 have key:∀(l:List au) (n:Nat),(∀j o,l[j]?=aa o->all[n+j]?=aa o)->Names all (List.range' n l.length) l:=by
  intro l;induction l with
  |nil=>intro n _;trivial
  |cons o r a =>
   intro n h;rw[eU,List.range'_succ];refine⟨by simpa using h 0 o rfl,a (n+1) λj b hj=>?_⟩;have:=h (j+1) b (by grind);grind
 grind[List.range_eq_range']
theorem AW.region{P:aq}{X:Cx P}{N:Nat}{Q:Post}{φ:Fr}{σ:List aP}{id:Nat}{ops:Array au}(h:ib X N ops.toList ops.toList (λφ σ=>Q .normal φ σ) φ σ):AW X N (.region id ops af) Q φ σ:=by intro s a f hh b k cs S i c;refine .ctl hh rfl (λ_=>pX) λe h1=>?_;have:=h e a (f.rely h1 hh) (hh.rely h1) b k cs S (bg ops.size) i (by simpa using Names.range ops.toList) λφ' σ' s' a' q g d st=>c .normal φ' σ' s' a' q g d (h1.stepW.trans st);simpa using this
def ib.nil{P:aq}{X:Cx P}{N:Nat}{all:List au}{Q:Fr->List aP->Prop}{φ:Fr}{σ:List aP}(h:Q φ σ):ib X N all [] Q φ σ:=by
 intro s a f hh b k cs S idx _ c e;cases idx with
 |cons i idx=>exact c.elim
 |nil=>exact .ctl hh rfl (λ_=>iW) λd h1=>e φ σ d a h (f.rely h1 hh) (hh.rely h1) h1.stepW
def ib.mono{P:aq}{X:Cx P}{N:Nat}{all rest:List au}{Q c:Fr->List aP->Prop}{φ:Fr}{σ:List aP}(h:ib X N all rest Q φ σ)(d:∀φ σ,Q φ σ->c φ σ):ib X N all rest c φ σ :=
 λs a f hh b k cs S idx hb hi hQ=>h s a f hh b k cs S idx hb hi λφ' σ' s' a' q g e st=>hQ φ' σ' s' a' (d _ _ q) g e st
def ib.le{P:aq}{X:Cx P}{N:Nat}{all rest:List au}{Q:Fr->List aP->Prop}{φ φ':Fr}{σ:List aP}(h:ib X N all rest Q φ' σ)(hl:og φ φ'):ib X N all rest Q φ σ :=
 λs a f hh b k cs S idx hb hi hQ=>h s a (f.le hl) hh b k cs S idx hb hi hQ
def iY:Nat->List D->Fr
 |_,[]=>[]
 |i,d::r=>(i,d)::iY (i+1) r
def oh:∀(ds:List D)(i t:Nat),look (iY i ds) t=if i<=t then(ds[t-i]?).getD .any else .any
 |[],i,t=>by simp[iY,look]
 |d::r,i,t=>by
  simp only[iY,look];by_cases e:i=t
  .grind [Nat.beq_refl]
  .have:aB i t=af:=by grind[Nat.eq_of_beq_eq_true]
   rw[this];simp only[cond,oh r (i+1) t];grind
theorem cg.get{σ:List aP}{s:St}:∀{vs:List ah}{ds:List D},cg σ s vs ds->vs.length=ds.length/\∀(j:Nat),dj σ s ((vs[j]?).getD ai) ((ds[j]?).getD .any)
 |[],[],_=>⟨rfl,λj=>by simp[dj]⟩
 |[],_::_,h=>h.elim
 |_::_,[],h=>h.elim
 |v::vs,d::ds,h=>by
  obtain⟨h1,h2⟩:=cg.get h.2;refine⟨by grind,λj=>?_⟩;cases j with
  |zero=>simpa using h.1
  |succ j=>grind
def x3(φ:Fr):List ResultVar->Option (List D)
 |[]=>aa []
 |.tmp t::r=>match x3 φ r with
  |some q=>aa (look φ t::q)
  |none=>ae
 |.cell _ _::_=>ae
def ue:List D->Option (List E1)
 |[]=>aa []
 |.e x::r=>match ue r with
  |some q=>aa (x::q)
  |none=>ae
 |_::_=>ae
def rU:List D->Option D
 |[d]=>aa d
 |ds=>match ue ds with
  |some es=>aa (.eX es)
  |none=>ae
def ga(a:Act):ResultVar->Sem ah
 |ResultVar.tmp t=>pure (a.tmps.getD t ai)
 |ResultVar.cell ad t=>do loadVar t (<-asAddr (a.tmps.getD ad ai))
def FI(P:aq){N:Nat}{σ:List aP}{s:St}{φ:Fr}{a:Act}(f:cm N σ s φ a):∀{rs:List ResultVar}{ds:List D},x3 φ rs=aa ds ->
  ∃vs,(∀w,(rs.mapM (ga a)).run P w=Result.ok vs w)/\cg σ s vs ds/\cZ P (rs.mapM (ga a))
 |[],ds,h=>by cases h;exact⟨[],by simp,ay,by rw[List.mapM_nil];exact .pure⟩
 |.tmp t::r,ds,h=>by
  simp only[x3]at h;cases b:x3 φ r with
  |none=>grind
  |some q =>
   simp[b]at h;subst h;obtain⟨vs,e,c,d⟩:=FI P f b;refine⟨a.tmps.getD t ai::vs,?_,⟨f.slot t,c⟩,?_⟩
   .intro w;simp only[n3,bL,ga,dn,bU,e]
   .rw[n3];exact .bind .pure λ_=>.bind d λ_=>.pure
 |.cell ad t::r,ds,h=>by simp[x3]at h
def BA{σ:List aP}{s:St}:∀{vs:List ah}{ds:List D}{es:List E1},ue ds=aa es->cg σ s vs ds->gZ σ s vs es
 |[],[],es,h,_=>by cases h;trivial
 |[],_::_,_,_,h=>h.elim
 |_::_,[],_,_,h=>h.elim
 |v::vs,.e x::r,es,h,a=>by
  simp only[ue]at h;cases b:ue r with
  |none=>grind
  |some q=>simp[b]at h;subst h;exact⟨a.1,BA b a.2⟩
 |_::_,.eX _::_,es,h,_=>by simp[ue]at h
 |_::_,.any::_,es,h,_=>by simp[ue]at h
def BC{σ:List aP}{s:St}{vs:List ah}{ds:List D}{d:D}(h:rU ds=aa d)(a:cg σ s vs ds):dj σ s (if h:vs.length=1 then vs[0]else .tuple vs.toArray) d:=by
 unfold rU at h;split at h
 .rename_i g;cases h
  match vs,a with
  |[v],a=>simpa using a.1
 .rename_i c;cases b:ue ds with
  |none=>grind
  |some es =>
   simp[b]at h;subst h;have f:vs.length≠1:=by
    intro e;rw[(cg.get a).1]at e
    match ds,e with
    |[x],_=>grind
   rw[dif_neg f];exact⟨vs,rfl,BA b a⟩
def zG(P:aq)(fn:Func)(φ:Fr)(d:D):Prop:=∀{N:Nat}{σ:List aP}{s:St}{a:Act},cm N σ s φ a->∃v,dj σ s v d/\∀w,(∀b o u,s.M b o=aa u->w.cell? ⟨b,o,ae⟩=aa u)->(results fn a.tmps).run P w=.ok v w/\∀e∈(results fn a.tmps).events P w #[],∃b o u,e=⟨.cell ⟨b,o,ae⟩,af,af⟩/\s.M b o=aa u
def uf{P:aq}{N:Nat}{σ:List aP}{s:St}{φ:Fr}{a:Act}(f:cm N σ s φ a){fn:Func}{ds:List D}{d:D}(h:x3 φ fn.results.toList=aa ds)(c:rU ds=aa d):
  ∃v,(∀w,(results fn a.tmps).run P w=.ok v w)/\dj σ s v d/\cZ P (results fn a.tmps):=by
 obtain⟨vs,i,b,g⟩:=FI P f h;refine⟨_,λw=>?_,BC c b,?_⟩
 .have e:(fn.results.mapM (ga a)).run P w=Result.ok vs.toArray w:=by grind[Array.mapM_eq_mapM_toList,Sem.run_map,Go.Result.andThen_ok]
  unfold results;rw[bL];refine(dA (λr=>Result.andThen r _) (Eq.trans ?_ e)).trans ?_
  .congr 2
  .simp
 .unfold results;have e:cZ P (fn.results.mapM (ga a)):=by rw[qK];exact .map g
  exact .bind e λ_=>.pure
theorem zG.of{P:aq}{fn:Func}{φ:Fr}{ds:List D}{d:D}(h:x3 φ fn.results.toList=aa ds)(hj:rU ds=aa d):zG P fn φ d:=by intro N σ s a f;obtain⟨v,h1,h2,c⟩:=uf (P:=P) f h hj;exact⟨v,h2,λw _=>⟨h1 w,λe b=>by rw[c w #[]]at b;grind⟩⟩
section
def aF.lI{σ:List aP}{s:St}(h:aF σ s):aF (σ.map λ_=>.dead) s:=by
 refine⟨h.mem,by simp[h.len],λl B L hB hL=>?_,h.eB,h.lt,h.own⟩;simp only[mU]at hB;cases a:σ[l]? with
 |none=>grind
 |some x=>rw[a]at hB;cases hB;trivial
structure PO(ls:List Nat)(s s':St):Prop where
 β:s'.β=s.β
 M:s'.M=s.M
 own:s'.own=s.own
 size:s.w.heap.size<=s'.w.heap.size
 fe:∀b,(s.own b∨∃(l:Nat) (L:Loc),s.β[l]?=aa L/\l∉ls/\b∈L.bs)->s'.w.heap[b]?=s.w.heap[b]?
 mem:∀b o v,s.M b o=aa v->s'.w.cell? ⟨b,o,ae⟩=aa v
 os:s'.w.os=s.w.os
 tape:s'.w.tape=s.w.tape
 output:s'.w.output=s.w.output
def ck.unR{s s':St}(h:ck s s')(ls:List Nat):PO ls s s' :=
 ⟨h.β,h.M,h.own,h.size,λb a=>h.fe b (a.imp id λ⟨l,L,h1,_,c⟩=>⟨L,bH h1,c⟩),h.mem,h.os,h.tape,h.output⟩
theorem PO.cat{l:Nat}{ls:List Nat}{s a s2:St}(h:PO [l] s a)(k:PO ls a s2):PO (l::ls) s s2:=by refine⟨k.β.trans h.β,k.M.trans h.M,k.own.trans h.own,iP h.size k.size,λb d=>?_,λb o v c=>k.mem b o v (by rw[h.M];exact c),k.os.trans h.os,k.tape.trans h.tape,k.output.trans h.output⟩;rw[k.fe b,h.fe b (d.imp id λ⟨l',L,h1,h2,e⟩=>⟨l',L,h1,λf=>h2 (by grind),e⟩)];rw[h.own,h.β];grind
def Jl{P:aq}{w:aA}{r:Nat}(a:w.heap[r]?=aa (.deferred (aa []))):
  (Instr.takeDeferred r).run P w=.ok [] {w with heap:=w.heap.setIfInBounds r (.deferred ae)}/\(Instr.takeDeferred r).events P w #[]=#[⟨.obj r,af,af⟩,⟨.obj r,ab,af⟩]:=by
 have b:(getObj r).run P w=.ok (.deferred (aa [])) w:=by simp only[getObj,Sem.run,a]
 have d:(setObj r (.deferred ae)).run P w=.ok () {w with heap:=w.heap.setIfInBounds r (.deferred ae)}:=by simp only[setObj,Sem.run,a]
 have e:∀es,(getObj r).events P w es=es.push ⟨.obj r,af,af⟩:=λes=>by simp only[getObj,Sem.events,Sem.runT,a];rfl
 have c:∀es,(setObj r (.deferred ae)).events P w es=es.push ⟨.obj r,ab,af⟩:=λes=>by simp only[setObj,Sem.events,Sem.runT,a];rfl
 constructor
 .simp[Instr.takeDeferred,b,d]
 .simp[Instr.takeDeferred,b,e,c]
variable {P:aq}{X:Cx P}{S:av->St->Prop}{cs:List aR}{main:Bool}
def Nw{a:aR}{r:Nat}{ds:List Deferred}{w:aA}(d:a.mode=.returning)(c:a.defers={target:=.collected r,args:=#[]}::ds)(b:w.heap[r]?=aa (.deferred (aa []))):
  aH P main (G a cs) w=.go (G {a with defers:=ds} cs) {w with heap:=w.heap.setIfInBounds r (.deferred ae)} (seen P a.fn #[⟨.obj r,af,af⟩,⟨.obj r,ab,af⟩]):=by obtain⟨f,e⟩:=Jl (P:=P) b;simp[G,aH,unwind,d,c,f,e,GStep.after]
def vZ(s:St):List Deferred->List Nat->Prop
 |[],[]=>True
 |d::ds,l::ls=>(∃r:Nat,s.β[l]?=aa ⟨.int .i64 r,[r]⟩/\s.w.heap[r]?=aa (.deferred (aa []))/\(∀o,s.M r o=ae)/\d={target:=.collected r,args:=#[]})/\l∉ls/\vZ s ds ls
 |_,_=>False
def oM.taken{σ:List aP}{s:St}(hh:aF σ s):∀{ds:List Deferred}{ls:List Nat},oM σ s ds ls->vZ s ds ls
 |[],[],_=>trivial
 |[],_::_,r=>r.elim
 |_::_,[],r=>r.elim
 |d::ds,l::ls,⟨⟨h1,L,r,h2,h,c⟩,b,a⟩=>by
  obtain⟨r',k1,g,f⟩:=hh.box l _ L h1 h2;subst k1;simp at h;have e:r'=r:=by omega
  subst e;exact⟨⟨r',h2,g,f,c⟩,b,oM.taken hh a⟩
def vZ.mono{s s':St}{b:Nat}(h:PO [b] s s'):∀{ds:List Deferred}{ls:List Nat},b∉ls->vZ s ds ls->vZ s' ds ls
 |[],[],_,_=>trivial
 |[],_::_,_,r=>r.elim
 |_::_,[],_,r=>r.elim
 |d::ds,l::ls,a,⟨⟨r,h1,h2,g,e⟩,c,f⟩=>by simp only[eE,not_or]at a;refine⟨⟨r,by rw[h.β];exact h1,by rw[h.fe r (.inr ⟨l,_,h1,by grind,by simp⟩)];exact h2,λo=>by rw[h.M];grind,e⟩,c,vZ.mono h a.2 f⟩
def qW:∀(ls:List Nat)(f:aR)(s:St)(σ:List aP),aF σ s->(∀B∈σ,B=.dead)->f.mode=.returning->vZ s f.defers ls ->
  (∀s',PO ls s s'->fA X S (G {f with defers:=[]} cs) s')->fA X S (G f cs) s
 |[],f,s,σ,x,n,D,m,k=>by
  have p:f.defers=[]:=by
   cases p:f.defers with
   |nil=>rfl
   |cons d ds=>rw[p]at m;exact m.elim
  have:=k s ((ck.refl x).unR _);have e:{f with defers:=[]}=f:=by cases f;simp_all
  grind
 |l::ls,f,s,σ,x,n,D,m,k=>by
  cases p:f.defers with
  |nil=>rw[p]at m;exact m.elim
  |cons d ds =>
   rw[p]at m;obtain⟨⟨r,y,I,Q,N⟩,H,K⟩:=m;subst N;refine .next rfl λi A=>?_;have c:=X.iv A;have a:=x.rely c;have F:i.β[l]?=aa ⟨.int .i64 r,[r]⟩:=by rw[c.β];exact y
   have z:i.w.heap[r]?=aa (.deferred (aa [])):=by rw[c.fe r (.inr ⟨_,bH y,by simp⟩)];exact I
   have J:∀o,i.M r o=ae:=λo=>by rw[c.M];grind
   let s2:St:={i with w:={i.w with heap:=i.w.heap.setIfInBounds r (.deferred ae)}}
   have hk:∀b,b≠r->s2.w.heap[b]?=i.w.heap[b]?:=λb g=>by grind
   have j:∀b o v,i.M b o=aa v->s2.w.cell? ⟨b,o,ae⟩=aa v:=by
    intro b o v C;have u:b≠r:=by grind
    rw[<-a.mem b o v C];simp only[aV];grind
   have t:aF σ s2:=by
    refine⟨j,a.len,λl' B L hB hL=>?_,a.eB,λL hL b g=>?_,λb g=>⟨?_,(a.own b g).2⟩⟩
    .rw[n B (bH hB)];trivial
    .have:=a.lt L hL b g;grind
    .have:=(a.own b g).1;grind
   have q:∃L∈i.β,r∈L.bs:=⟨_,bH F,by simp⟩
   have st:Step σ i σ s2:=by refine⟨by grind,λb _ g=>hk b ?_,λ_ _ _ h=>h,λ_ _ _ _=>rfl,λL hL b g=>.inr ⟨L,hL,g⟩,λ_ B L h O=>⟨B,L,h,O,.refl _ _⟩,rfl,rfl,rfl,rfl⟩;grind
   have un:PO [l] s s2:=by
    refine⟨c.β,c.M,c.own,iP c.size (by grind),λb g=>?_,λb o v C=>j b o v (by rw[c.M];exact C),c.os,c.tape,c.output⟩;have u:b≠r:=by
     rintro rfl;rcases g with g|⟨l',L',E,p2,p3⟩
     .exact(x.own b g).2 _ (bH y) (by simp)
     .exact p2 (by simp;exact x.eB l' l L' _ E y b p3 (by simp))
    rw[hk b u];exact c.fe b (g.imp id λ⟨l',L',E,_,p3⟩=>⟨L',bH E,p3⟩)
   refine⟨_,s2,_,Nw D p z,⟨⟨σ,σ,a,t,st⟩,eY.seen (.two ?_ ?_)⟩,?_⟩
   .exact⟨rfl,.inr q⟩
   .exact⟨rfl,.inr q⟩
   refine qW ls {f with defers:=ds} s2 σ t n D (K.mono un H) λs' hu=>?_;exact k s' (un.cat hu)
end
def cv(n:Nat)(f g:Nat->List C):Prop:=∀i,i<n->f i=g i
def Flat.Dz{M:Mem}{k n:Nat}{es es':Nat->List C}{vs:List ah}(h:Flat M k n es vs)(a:cv n es es'):Flat M k n es' vs :=
 ⟨h.len,λi hi=>by rw[<-a i hi];exact h.width i hi,λi hi j c hj=>h.rd i hi j c (by rw[a i hi];exact hj)⟩
def YB:C->C->Option (List Prop)
 |.int k n,.int k' n'=>match Hu k k' with|true=>aa [n=n']|false=>ae
 |.bool b,.bool b'=>aa [b=b']
 |.str s,.str s'=>aa [s=s']
 |.sl t k n es,.sl t' k' n' es'=>match aB k k' with
  |true=>match t,t' with
   |false,ab=>ae
   |_,_=>aa [n=n',cv n es es']
  |false=>match t,t' with
   |true,_=>aa [n=0,n'=0]
   |_,_=>ae
 |.val x,.val y=>aa [x=y]
 |x,y=>aa [x=y]
def RI{M:Mem}{v:ah}{x y:C}{ps:List Prop}(h:YB x y=aa ps)(c:az ps)(r:Rd M v x):Rd M v y:=by
 unfold YB at h;split at h
 .rename_i k n k' n';cases hk:Hu k k'<;>simp[hk]at h
  subst h;cases Aa hk;cases(show n=n' from c);exact r
 .cases h;rename_i b d;cases(show b=d from c);exact r
 .cases h;rename_i b d;cases(show b=d from c);exact r
 .rename_i t k n es t' k' n' es';cases hk:aB k k' with
  |true =>
   simp only[hk]at h;have e:=bP hk;subst e;cases t<;>cases t'<;>simp at h
   all_goals (subst h;obtain⟨rfl,f⟩:=(show n=n'/\cv n es es' from c);first|exact r.Dz f|exact r.loose.Dz f)
  |false =>
   simp only[hk]at h;cases t<;>simp at h
   subst h;obtain⟨rfl,rfl⟩:=(show n=0/\n'=0 from c)
   obtain⟨a,cap,vs,rfl,_,_,g,_⟩:=r.flat;grind[Rd.jF]
 .cases h;rename_i x y;cases(show x=y from c);exact r
 .cases h;cases c;exact r
def UU:A->A->Option (List Prop)
 |.c x,.c y=>YB x y
 |.vec _ k n es,.c (.sl af k' n' es')=>match aB k k' with|true=>aa [n=n',cv n es es']|false=>ae
 |.vec l k n es,.vec l' k' n' es'=>match aB l l' with
  |true=>match aB k k' with|true=>aa [n=n',cv n es es']|false=>ae
  |false=>ae
 |.ptr l o,.ptr l' o'=>match aB l l' with|true=>(match aB o o' with|true=>aa []|false=>ae)|false=>ae
 |.ref l,.ref l'=>match aB l l' with|true=>aa []|false=>ae
 |.bp l w,.bp l' w'=>match aB l l' with|true=>aa [w=w']|false=>ae
 |_,.any=>aa []
 |_,_=>ae
def JZ{σ:List aP}{s:St}{v:ah}{x y:A}{ps:List Prop}(h:UU x y=aa ps)(b:az ps)(r:gn σ s v x):gn σ s v y:=by
 unfold UU at h;split at h
 .exact RI h b r
 .rename_i k n es k' n' es';cases hk:aB k k'<;>simp[hk]at h
  subst h;have e:=bP hk;subst e;obtain⟨rfl,d⟩:=(show n=n'/\cv n es es' from b)
  exact r.1.Dz d
 .rename_i l k n es l' k' n' es';cases a:aB l l'<;>simp[a]at h
  cases hk:aB k k'<;>simp[hk]at h
  subst h;have e:=bP hk;have c:=bP a;subst e c;obtain⟨rfl,d⟩:=(show n=n'/\cv n es es' from b)
  exact⟨r.1.Dz d,r.2.1,r.2.2⟩
 .grind [Nat.eq_of_beq_eq_true]
 .grind [Nat.eq_of_beq_eq_true]
 .rename_i l w l' w';cases a:aB l l'<;>simp[a]at h
  have c:=bP a;subst c;subst h;cases(show w=w' from b);exact r
 .exact gn.cell r
 grind
def kM:List Prop->List Prop->List Prop
 |[],q=>q
 |p::r,q=>p::kM r q
@[simp] theorem az.cat{p q:List Prop}:az (kM p q)↔az p/\az q:=by
 induction p with
 |nil=>simp[kM]
 |cons x r a=>simp only[kM,az.cons,a,and_assoc]
def P8:List A->List A->Option (List Prop)
 |[],[]=>aa []
 |a::al,b::bs=>match UU a b with
  |some p=>match P8 al bs with
   |some q=>aa (kM p q)
   |none=>ae
  |none=>ae
 |_,_=>ae
def D8{σ:List aP}{s:St}:∀{vs:List ah}{xs ys:List A}{ps:List Prop},P8 xs ys=aa ps->az ps->dX σ s vs xs->dX σ s vs ys
 |[],[],[],_,_,_,_=>trivial
 |_::_,[],_,_,_,_,h=>h.elim
 |[],_::_,_,_,_,_,h=>h.elim
 |[],[],_::_,_,h,_,_=>by simp[P8]at h
 |_::_,_::_,[],_,h,_,_=>by simp[P8]at h
 |v::vs,a::al,b::bs,ps,h,c,d=>by
  simp only[P8]at h;cases f:UU a b with
  |none=>grind
  |some p =>
   cases e:P8 al bs with
   |none=>grind
   |some q =>
    simp[f,e]at h;subst h;rw[az.cat]at c;exact⟨JZ f c.1 d.1,D8 e c.2 d.2⟩
def UW:E1->E1->Option (List Prop)
 |.one a,.one b=>UU a b
 |.agg al,.agg bs=>P8 al bs
 |_,_=>ae
def J0{σ:List aP}{s:St}{v:ah}{x y:E1}{ps:List Prop}(h:UW x y=aa ps)(a:az ps)(r:m7 σ s v x):m7 σ s v y:=by
 cases x<;>cases y<;>simp only[UW,reduceCtorEq]at h
 .exact JZ h a r
 .obtain⟨vs,c,b⟩:=r;exact⟨vs,c,D8 h a b⟩
def Ea:List E1->List E1->Option (List Prop)
 |[],[]=>aa []
 |a::al,b::bs=>match UW a b with
  |some p=>match Ea al bs with
   |some q=>aa (kM p q)
   |none=>ae
  |none=>ae
 |_,_=>ae
def FZ{σ:List aP}{s:St}:∀{vs:List ah}{xs ys:List E1}{ps:List Prop},Ea xs ys=aa ps->az ps->gZ σ s vs xs->gZ σ s vs ys
 |[],[],[],_,_,_,_=>trivial
 |_::_,[],_,_,_,_,h=>h.elim
 |[],_::_,_,_,_,_,h=>h.elim
 |[],[],_::_,_,h,_,_=>by simp[Ea]at h
 |_::_,_::_,[],_,h,_,_=>by simp[Ea]at h
 |v::vs,a::al,b::bs,ps,h,c,d=>by
  simp only[Ea]at h;cases f:UW a b with
  |none=>grind
  |some p =>
   cases e:Ea al bs with
   |none=>grind
   |some q =>
    simp[f,e]at h;subst h;rw[az.cat]at c;exact⟨J0 f c.1 d.1,FZ e c.2 d.2⟩
def Du:D->D->Option (List Prop)
 |.e x,.e y=>UW x y
 |.eX xs,.eX ys=>Ea xs ys
 |_,.any=>aa []
 |_,_=>ae
theorem oi{σ:List aP}{s:St}{v:ah}{x y:D}{ps:List Prop}(h:Du x y=aa ps)(a:az ps)(r:dj σ s v x):dj σ s v y:=by
 cases x<;>cases y<;>simp only[Du,reduceCtorEq]at h
 .exact J0 h a r
 .trivial
 .obtain⟨vs,c,b⟩:=r;exact⟨vs,c,FZ h a b⟩
 .trivial
 .trivial
def ny(φ:Fr):Fr->Option (List Prop)
 |[]=>aa []
 |(i,d)::r=>match Du (look φ i) d with
  |some p=>match ny φ r with
   |some q=>aa (kM p q)
   |none=>ae
  |none=>ae
def cA{φ:Fr}:∀{φ':Fr}{ps:List Prop},ny φ φ'=aa ps->az ps->og φ φ'
 |[],_,_,_=>λ_ _ _ _ _=>trivial
 |(i,d)::r,ps,h,a=>by
  simp only[ny]at h;cases e:Du (look φ i) d with
  |none=>grind
  |some p =>
   cases b:ny φ r with
   |none=>grind
   |some q =>
    simp[e,b]at h;subst h;rw[az.cat]at a;intro σ s v t c;simp only[look];cases f:aB i t with
    |true =>
     grind[Nat.eq_of_beq_eq_true,oi]
    |false=>exact cA b a.2 σ s v t c
def kn(σ:List aP):Bool:=match cq σ with|true=>lA σ|false=>af
def yv{σ:List aP}(h:kn σ=ab):cq σ=ab/\lA σ=ab:=by unfold kn at h;grind
def oM.BU{σ:List aP}{s:St}:∀{ds:List Deferred}{ls:List Nat},oM σ s ds ls->∀l∈ls,σ[l]?=aa .qP
 |[],[],_,l,hl=>by grind
 |[],_::_,r,_,_=>r.elim
 |_::_,[],r,_,_=>r.elim
 |d::ds,b::ls,⟨⟨h1,_⟩,_,a⟩,l,hl=>by
  rcases eE.1 hl with rfl|hl
  .exact h1
  .exact oM.BU a l hl
def cp(fn:Func)(a:Nat)(res:D)(σ':List aP):Post:=λe φ σ1 =>
 (e=.ret∨e=.normal)/\∃ks ds d ps,x3 φ fn.results.toList=aa ds/\rU ds=aa d/\Du d (hZ ks res)=aa ps/\az ps/\vP ks.length res=ab /\
  jJ ks σ1=aa σ'/\kn σ'=ab/\dw ks=ab/\(∀j,j<a->ks[j]?=aa j)
def qR(P:aq)(fn:Func)(a:Nat)(res:D)(σ':List aP):Post:=λe φ σ1 =>
 (e=.ret∨e=.normal)/\∃ks d ps,zG P fn φ d/\Du d (hZ ks res)=aa ps/\az ps/\vP ks.length res=ab /\
  jJ ks σ1=aa σ'/\kn σ'=ab/\dw ks=ab/\(∀j,j<a->ks[j]?=aa j)
def cp.toJ{P:aq}{fn:Func}{a:Nat}{res:D}{σ':List aP}{e:Exit}{φ:Fr}{σ1:List aP}(h:cp fn a res σ' e φ σ1):qR P fn a res σ' e φ σ1:=by obtain⟨b,ks,ds,d,ps,h1,h2,c⟩:=h;exact⟨b,ks,d,ps,zG.of h1 h2,c⟩
def eb.D3{P:aq}{ι:Type}{X:Cx P}{f:aJ}{fn:Func}{c:Code}{args:List D}{σ:List aP}{σ':ι->List aP}{res:ι->D}(Z:P.funcs[f]?=aa fn)(I:(fn.name== "runtime.NumGoroutine")=af)(m:fn.body=aa c)(hlen:args.length<=fn.ntmps)(h:∀s a,cm fn.ntmps σ s (iY 0 args) a->aF σ s->∀(b:aR) (k:List Item) (cs:List aR) (S:av->St->Prop),b.kind≠.early->b.roundOf=ae ->
  (∀e φ' σ1 s' a',(∃j,qR P fn σ.length (res j) (σ' j) e φ' σ1)->cm fn.ntmps σ1 s' φ' a'->aF σ1 s'->cR σ s σ1 s'->ends X S b k cs e a' s')->fA X S (G (b.aT a (.code c::k)) cs) s):eb X f args σ res σ':=by
 refine⟨⟨fn,Z,I,by grind⟩,λs vs hr hh S cs hS=>?_⟩;obtain⟨hl,hg⟩:=cg.get hr;let b:aR:={fn:=f,tmps:=#[],todo:=[],defers:=[],mode:=.run,kind:=.normal,roundOf:=ae}
 have r:Frame.enter P f vs.toArray .normal=b.aT {tmps:=vs.toArray++Array.replicate (fn.ntmps-vs.toArray.size) ai,defers:=[]} [.code c]:=by simp[Frame.enter,Frame.aT,Z,m,b]
 rw[r];refine h s {tmps:=vs.toArray++Array.replicate (fn.ntmps-vs.toArray.size) ai,defers:=[]} ⟨by grind,⟨[],ay⟩,λt=>?_⟩ hh b [] cs S (by simp[b]) rfl ?_
 .rw[oh];simp only[lk,cj,lG];have:=hg t;rcases cD t vs.length with s9|TM
  .have e:(vs.toArray++Array.replicate (fn.ntmps-vs.toArray.size) ai).getD t ai=(vs[t]?).getD ai:=by simp only[dO];grind
   grind
  .rw[rD (by omega)];trivial
 .rintro e φ' σ1 s1 a1 ⟨N,V,ks,d,ps,h1,h3,h4,h5,O,U,h8,h9⟩ f' Q st;obtain⟨h7,T⟩:=yv U;have fin:∀(fr:aR) s2,ck s1 s2->fr.fn=f->fr.tmps=a1.tmps->fr.defers=a1.defers->fr.mode=.returning->fr.kind=.normal->fA X S (G fr cs) s2:=by
   intro fr s2 sW e1 e2 e3 e4 e5;have Y:=f'.rely sW Q;have n:=Q.rely sW;have g:=st.trans sW.stepW;obtain⟨v,r2,r1⟩:=h1 Y;obtain⟨i,z⟩:=vM (l':=s2.β) O n.len;have r4:=(oi h3 h4 r2).sub O z h5;obtain⟨c1,c2⟩:=iH O;obtain⟨d1,d2⟩:=iH z;have K:∀L∈i,L∈s2.β:=zF z;have E:aF (σ' N) {s2 with β:=i}:=by obtain⟨H,_⟩:=n.sub O z h7 h8;refine⟨H.mem,H.len,λj B L hB hL=>?_,H.eB,H.lt,λb m=>⟨(n.own b m).1,λL hL=>(n.own b m).2 L (K L hL)⟩⟩;exact et.plain (σ:=σ' N) (s:={s2 with β:=i,own:=vR s2 i}) (s':={s2 with β:=i}) rfl rfl (kK h7 B (bH hB)) (H.box j B L hB hL)
   have R:cR σ s (σ' N) {s2 with β:=i}:=by refine⟨g.size,g.fe,g.mem,g.iU,λL hL b m=>g.vb _ (K L hL) b m,λl B L hB hL=>?_,g.os,g.tape,g.output,g.own⟩;have hl:l<σ.length:=(bY.1 hB).1;obtain⟨B',L',p1,p2,p3⟩:=g.box l B L hB hL;grind
   obtain⟨ls,A⟩:=Y.defers;refine qW ls fr s2 _ n.lI (by simp) e4 (by rw[e3];exact A.taken n) λF p=>?_;have q:ck {s2 with β:=i} {F with β:=i}:=by
    refine⟨rfl,p.M,p.own,p.size,λb m=>p.fe b (m.imp id ?_),p.mem,p.os,p.tape,p.output⟩;rintro⟨L,hL,m⟩;obtain⟨j,hj,rfl⟩:=dM hL;have C:j<ks.length:=by grind
    obtain⟨y,W,y2⟩:=d2 j _ (br C);obtain⟨x,x1,x2⟩:=c2 j _ (br C);rw[br hj]at W;cases W;refine⟨_,_,y2,λhc=>?_,m⟩;rw[A.BU _ hc]at x2;cases x2;exact nn T _ (bH x1) rfl
   have hG:eu F {F with β:=i}:=⟨rfl,λ_ _ _ h=>h,λ_ _ _=>rfl,λb o v hv=>p.mem b o v (by rw[<-p.M];exact hv),λb m=>m.imp id λ⟨L,hL,m⟩=>⟨L,by rw[p.β];grind,m⟩⟩
   refine .ghost hG (hS N _ v _ ⟨e1,e4,rfl,e5,fn,by grind,λw hw=>?_⟩ (r4.mono q.stepW.ext E.len) (E.rely q) (R.trans q.stepW));show(results fn fr.tmps).run P w=_/\∀e∈(results fn fr.tmps).events P w #[],_;rw[e2];have J:∀b o u,s2.M b o=aa u->w.cell? ⟨b,o,ae⟩=aa u:=λb o u h=>hw b o u (by show F.M b o=aa u;rw[p.M];exact h);refine⟨(r1 w J).1,λe V=>?_⟩;obtain⟨b,o,u,q1,q2⟩:=(r1 w J).2 e V;exact⟨b,o,u,q1,by show F.M b o=aa u;rw[p.M];exact q2⟩
  rcases V with rfl|rfl
  .intro pre;exact .ctl Q rfl (λ_=>DF rfl) λs2 sW=>fin _ s2 sW rfl rfl (iO _) rfl rfl
  .exact .ctl Q rfl (λ_=>DG rfl) λs2 sW=>fin _ s2 sW rfl rfl (iO _) rfl rfl
def eb.P7{P:aq}{ι:Type}{X:Cx P}{f:aJ}{fn:Func}{c:Code}{args:List D}{σ:List aP}{σ':ι->List aP}{res:ι->D}(l:P.funcs[f]?=aa fn)(g:(fn.name== "runtime.NumGoroutine")=af)(i:fn.body=aa c)(d:args.length<=fn.ntmps)(h:∀s a,cm fn.ntmps σ s (iY 0 args) a->aF σ s->∀(b:aR) (k:List Item) (cs:List aR) (S:av->St->Prop),b.kind≠.early->b.roundOf=ae ->
  (∀e φ' σ1 s' a',(∃j,cp fn σ.length (res j) (σ' j) e φ' σ1)->cm fn.ntmps σ1 s' φ' a'->aF σ1 s'->cR σ s σ1 s'->ends X S b k cs e a' s')->fA X S (G (b.aT a (.code c::k)) cs) s):eb X f args σ res σ' :=
 eb.D3 l g i d λs a f hh b k cs S h1 h2 hQ=>h s a f hh b k cs S h1 h2 λe φ' σ1 s' a' ⟨j,q⟩=>hQ e φ' σ1 s' a' ⟨j,q.toJ⟩
def eb.Ji{P:aq}{ι:Type}{X:Cx P}{f:aJ}{fn:Func}{c:Code}{args:List D}{σ:List aP}{σ':ι->List aP}{res:ι->D}(m:P.funcs[f]?=aa fn)(d:(fn.name== "runtime.NumGoroutine")=af)(l:fn.body=aa c)(g:args.length<=fn.ntmps)(h:AW X fn.ntmps c (λe φ σ1=>∃j,qR P fn σ.length (res j) (σ' j) e φ σ1) (iY 0 args) σ):eb X f args σ res σ' :=
 eb.D3 m d l g λs a f hh b k cs S hk _ i=>h s a f hh b k cs S hk i
def eb.intro{P:aq}{ι:Type}{X:Cx P}{f:aJ}{fn:Func}{c:Code}{args:List D}{σ:List aP}{σ':ι->List aP}{res:ι->D}(m:P.funcs[f]?=aa fn)(d:(fn.name== "runtime.NumGoroutine")=af)(l:fn.body=aa c)(g:args.length<=fn.ntmps)(h:AW X fn.ntmps c (λe φ σ1=>∃j,cp fn σ.length (res j) (σ' j) e φ σ1) (iY 0 args) σ):eb X f args σ res σ' :=
 eb.P7 m d l g λs a f hh b k cs S hk _ i=>h s a f hh b k cs S hk i
def Ev.intro{P:aq}{X:Cx P}{f:aJ}{fn:Func}{c:Code}{args:List D}{σ σ':List aP}{res:D}(e:P.funcs[f]?=aa fn)(b:(fn.name== "runtime.NumGoroutine")=af)(d:fn.body=aa c)(a:args.length<=fn.ntmps)(h:AW X fn.ntmps c (cp fn σ.length res σ') (iY 0 args) σ):Ev X f args σ res σ' :=
 (eb.intro e b d a (AW.mono h λ_ _ _ q=>⟨(),q⟩)).DL
inductive It where
 |code (c:Code)
 |blk (id:Nat)
 |ops (all rest:List au)
def AK{P:aq}(X:Cx P)(N:Nat)(Qf:Post):List It->Post
 |[],e,φ,σ=>Qf e φ σ
 |.code c::K,.normal,φ,σ=>AW X N c (AK X N Qf K) φ σ
 |.code _::K,e,φ,σ=>AK X N Qf K e φ σ
 |.blk id::K,.exit IX,φ,σ=>if IX=id then AK X N Qf K .normal φ σ else AK X N Qf K (.exit IX) φ σ
 |.blk _::K,e,φ,σ=>AK X N Qf K e φ σ
 |.ops all rest::K,.normal,φ,σ=>ib X N all rest (AK X N Qf K .normal) φ σ
 |.ops _ _::K,e,φ,σ=>AK X N Qf K e φ σ
section
variable {P:aq}{X:Cx P}{N:Nat}{Qf:Post}{K:List It}{φ:Fr}{σ:List aP}
def AK.of_code{c:Code}(h:AK X N Qf [.code c] .normal φ σ):AW X N c Qf φ σ:=h
theorem AK.skip(h:AK X N Qf K .normal φ σ):AK X N Qf (.code .skip::K) .normal φ σ:=AW.skip h
theorem AK.seq{x y:Code}(h:AK X N Qf (.code x::.code y::K) .normal φ σ):AK X N Qf (.code (.seq x y)::K) .normal φ σ:=by refine AW.seq (AW.mono h ?_);intro e φ' σ' q;cases e<;>exact q
theorem AK.block{id:Nat}{c:Code}(h:AK X N Qf (.code c::.blk id::K) .normal φ σ):AK X N Qf (.code (.block id c)::K) .normal φ σ:=by refine AW.block (AW.mono h ?_);intro e φ' σ' q;cases e<;>exact q
theorem AK.RU{id:Nat}(h:AK X N Qf K .normal φ σ):AK X N Qf (.blk id::K) .normal φ σ:=h
theorem AK.region{id:Nat}{ops:Array au}(h:AK X N Qf (.ops ops.toList ops.toList::K) .normal φ σ):AK X N Qf (.code (.region id ops af)::K) .normal φ σ:=AW.region h
theorem AK.Kj{all:List au}(h:AK X N Qf K .normal φ σ):AK X N Qf (.ops all []::K) .normal φ σ:=ib.nil h
def AK.sj:∀{K:List It},Qf .ret φ σ->AK X N Qf K .ret φ σ
 |[],h=>h
 |.code _::K,h=>AK.sj (K:=K) h
 |.blk _::K,h=>AK.sj (K:=K) h
 |.ops _ _::K,h=>AK.sj (K:=K) h
def AK.ret(h:Qf .ret φ σ):AK X N Qf (.code .ret::K) .normal φ σ:=AW.ret (AK.sj h)
def jP(id:Nat):List It->Option (List It)
 |[]=>ae
 |.blk i::K=>match aB id i with|true=>aa K|false=>jP id K
 |_::K=>jP id K
def AK.wH{id:Nat}:∀{K a:List It},jP id K=aa a->AK X N Qf a .normal φ σ->AK X N Qf K (.exit id) φ σ
 |[],_,h,_=>by cases h
 |.blk i::K,a,h,q=>by
  simp only[jP]at h;cases c:aB id i with
  |true =>
   simp[c]at h;subst h;have e:=bP c;simp only[AK,e,cj];exact q
  |false =>
   simp[c]at h;have b:id≠i:=λe=>by grind[Nat.beq_refl]
   simp only[AK,b,b7];exact AK.wH h q
 |.code _::K,a,h,q=>AK.wH (K:=K) h q
 |.ops _ _::K,a,h,q=>AK.wH (K:=K) h q
theorem AK.exit{id:Nat}{a:List It}(hk:jP id K=aa a)(h:AK X N Qf a .normal φ σ):AK X N Qf (.code (.exit id)::K) .normal φ σ:=AW.exit (AK.wH hk h)
theorem AK.cond{c:ak}{x y:Code}{b:Bool}{t:Nat}(f:c=.tmp t)(hl:look φ t=.e (.one (.c (.bool b))))(d:b=ab->AK X N Qf (.code x::K) .normal φ σ)(a:b=af->AK X N Qf (.code y::K) .normal φ σ):AK X N Qf (.code (.cond c x y)::K) .normal φ σ:=AW.cond f hl d a
def AK.loop{S:Type}{c:Code}(I:S->Prop)(fr:S->Fr)(st:S->List aP)(b:S->Nat)(x:S)(f:I x)(d:og φ (fr x))(a:st x=σ)(round:∀x,I x->AK X N (λe φ' σ'=>match e with
   |.normal=>∃y,I y/\b y<b x/\og φ' (fr y)/\σ'=st y
   |e=>AK X N Qf K e φ' σ') [.code c] .normal (fr x) (st x)):AK X N Qf (.code (.loop c)::K) .normal φ σ:=by refine AW.loop I fr st b x f d a λy g=>AW.mono (round y g) ?_;intro e φ' σ' q;cases e<;>exact q
end
def du{α a:Type}:List α->(List α->Option a)->Option a
 |[],k=>k []
 |x::r,k=>du r λq=>k (x::q)
theorem cY{α b:Type}(l:List α)(k:List α->Option b):du l k=k l:=by
 induction l generalizing k with
 |nil=>rfl
 |cons x r a=>simp[du,a]
def zU(φ:Fr)(all:List au)(j:Nat):Option (Option Bool) :=
 match dt j all with
 |some oj=>match oj.dst with
  |some d=>match look φ d with
   |.e (.one (.c (.bool ab)))=>aa (aa ab)
   |.e (.one (.c (.bool af)))=>aa (aa af)
   |.eX []=>aa ae
   |_=>ae
  |none=>ae
 |none=>ae
def qf{N:Nat}{φ:Fr}{all:List au}{j:Nat}{r:Option Bool}(h:zU φ all j=aa r){σ:List aP}{s:St}{a:Act}(f:cm N σ s φ a):yielded all.toArray a.tmps j=r:=by
 unfold zU at h;rw[fg]at h;unfold yielded;cases k:all[j]? with
 |none=>grind
 |some oj =>
  simp only[k]at h;simp only[ik,k,nY];cases m:oj.dst with
  |none=>grind
  |some d =>
   simp only[m]at h;simp only[nY];have c:=f.slot d;have key:∀v,a.tmps.getD d ai=v->v≠ai->a.tmps[d]?=aa v:=by intro v e l;simp only[dO]at e;grind
   split at h
   .rename_i g;cases h;rw[g]at c;have b:=eT c;generalize e:a.tmps.getD d ai=v at b;cases b;rw[key _ e (by simp[ai])]
   .rename_i g;cases h;rw[g]at c;have b:=eT c;generalize e:a.tmps.getD d ai=v at b;cases b;rw[key _ e (by simp[ai])]
   .rename_i g;cases h;rw[g]at c;obtain⟨vs,o,n⟩:=c;have i:vs=[]:=by cases vs with
     |nil=>rfl
     |cons _ _=>exact n.elim
    subst i;simp only[dO]at o;grind
   grind
def Xa(T:List (Nat×TI))(φ:Fr)(σ:List aP)(o:au):Option (D×List aP×List Prop) :=
 match o.op with
 |.move x|.assign x=>aa (bM φ x,σ,[])
 |.pick c a b=>match bM φ c with
  |.e (.one (.c (.bool ab)))=>aa (bM φ a,σ,[])
  |.e (.one (.c (.bool af)))=>aa (bM φ b,σ,[])
  |_=>ae
 |.binOp op _ x y _=>match bM φ x,bM φ y with
  |.e (.one (.c a)),.e (.one (.c b))=>match NA op a b with
   |some (c,obs)=>aa (.e (.one (.c c)),σ,obs)
   |none=>ae
  |_,_=>ae
 |.unOp op _ x=>match bM φ x with
  |.e (.one (.c a))=>match W9 op a with
   |some c=>aa (.e (.one (.c c)),σ,[])
   |none=>ae
  |_=>ae
 |.extract x j=>match bM φ x with
  |.eX xs=>match dt j xs with
   |some e=>aa (.e e,σ,[])
   |none=>ae
  |_=>ae
 |.alloc E=>match bD T E with
  |some i=>du (σ++[.cells E (i.zero.map A.c)]) λσ'=>aa (.e (.one (.ptr σ.length 0)),σ',[])
  |none=>ae
 |.box E x=>match km (bM φ x)with
  |some cs=>du (σ++[.cells E cs]) λσ'=>aa (.e (.one (.ptr σ.length 0)),σ',[])
  |none=>ae
 |.load t x=>match bD T t with
  |some i=>match bM φ x with
   |.e (.one (.ptr l off))=>match dt l σ with
    |some (.cells _ cs)=>match kN i (fK off cs)with
     |some e=>aa (.e e,σ,[])
     |none=>ae
    |_=>ae
   |.e (.one (.c (.rp cs)))=>match kN i (cs.map A.c)with
    |some e=>aa (.e e,σ,[])
    |none=>ae
   |_=>ae
  |none=>ae
 |.store t x y=>match bD T t with
  |some i=>match bM φ x with
   |.e (.one (.ptr l off))=>match dt l σ with
    |some (.cells E cs)=>match km (bM φ y)with
     |some new=>match aB new.length i.size with
      |true=>match fj off new cs with
       |some na=>du (dH.qw l (.cells E na) σ) λσ'=>aa (.any,σ',[])
       |none=>ae
      |false=>ae
     |none=>ae
    |_=>ae
   |_=>ae
  |none=>ae
 |.fieldAddr t x f=>match jL T t f with
  |some (k,_)=>match bM φ x with
   |.e (.one (.ptr l off))=>aa (.e (.one (.ptr l (off+k))),σ,[])
   |.e (.one (.c (.rp cs)))=>aa (.e (.one (.c (.rp (fK k cs)))),σ,[])
   |_=>ae
  |none=>ae
 |.field t x f=>match jL T t f with
  |some (k,j)=>match bM φ x with
   |.e (.agg cs)=>match kN j (fK k cs)with
    |some e=>aa (.e e,σ,[])
    |none=>ae
   |_=>ae
  |none=>ae
 |.nilCheck x=>match bM φ x with
  |.e (.one (.ptr l off))=>aa (.e (.one (.ptr l off)),σ,[])
  |.e (.one (.c (.rp cs)))=>aa (.e (.one (.c (.rp cs))),σ,[])
  |_=>ae
 |.build t parts=>match zR T (bM φ) t parts.toList with
  |some cs=>aa (.e (.agg cs),σ,[])
  |none=>ae
 |.buildSlice t n parts=>match NB T (bM φ) t n parts.toList with
  |some (k,es)=>aa (.e (.one (.c (.sl ab k n λi=>es.getD i []))),σ,[])
  |none=>ae
 |_=>ae
theorem DW{P:aq}{T:List (Nat×TI)}(hT:cN P T){φ:Fr}{σ σ':List aP}{o:au}{x:D}{obs:List Prop}(h:Xa T φ σ o=aa (x,σ',obs))(m:az obs):bF P o (bM φ) σ x σ':=by
 unfold Xa at h;split at h
 .grind [bF.move]
 .grind [bF.assign]
 .rename_i c a b d;split at h
  .rename_i e;cases h;exact bF.pick d e
  .rename_i e;cases h;exact bF.pick d e
  grind
 .grind [bF.binOp]
 .grind [bF.unOp]
 .grind [bF.extract,b5]
 .grind [cY,bF.alloc]
 .grind [cY,bF.box]
 .rename_i t y d;split at h
  .grind [bF.FO,b5,bF.JD]
  grind
 .rename_i t y z d;split at h
  .rename_i i hi;split at h
   .rename_i l off hx;split at h
    .grind [cY,jc,bF.store,b5,Nat.eq_of_beq_eq_true]
    grind
   grind
  grind
 .rename_i t y f d;split at h
  .rename_i k j g;split at h
   .rename_i l off hx;cases h;exact bF.r9 hT d hx g
   .grind [bF.uh]
   grind
  grind
 .grind [bF.field]
 .grind [bF.ui,bF.wy]
 .grind [bF.build]
 .grind [bF.buildSlice]
 grind
def fR(N:Nat):Option Nat->Bool
 |some d=>bu (d+1) N
 |none=>ab
def gA{N:Nat}{d:Option Nat}(h:fR N d=ab):∀t,d=aa t->t<N:=by intro t a;subst a;exact cV h
theorem dC{all:List au}{o:au}(h:o.guard=ae){a:Act}:bd o (yielded all.toArray a.tmps)=ab:=by simp[bd,h]
section
variable {P:aq}{T:List (Nat×TI)}{o:au}{g:ak->D}{σ:List aP}
def qX(g:ak->D):Option ak->Option (Option Int)
 |none=>aa ae
 |some x=>match g x with
  |.e (.one (.c (.int _ j)))=>aa (aa j)
  |_=>ae
def gq{s:St}{a:ak->ah}(c:∀y,dj σ s (a y) (g y)){x:Option ak}{b:Option Int}(h:qX g x=aa b):(x.map a=ae/\b=ae)∨∃k j,x.map a=aa (.int k j)/\b=aa j:=by
 cases x with
 |none=>cases h;grind
 |some y =>
  right;simp only[qX]at h;split at h
  .rename_i k j d;cases h;have:=c y;rw[d]at this;have:=eT this;generalize e:a y=v at this;cases this;grind
  grind
def c9(d:Nat):Option Int->Nat
 |none=>d
 |some j=>j.toNat
def fM(n:Nat):Option Int->Option Int->List Prop
 |none,ae=>[]
 |some l,ae=>[0<=l,l<=n]
 |none,aa h=>[0<=h,h<=n]
 |some l,aa h=>[0<=l,l<=h,h<=n]
def lX{isS:Bool}{n cap:Nat}(q:n<=cap){lo hi:Option ah}{l h:Option Int}(i:(lo=ae/\l=ae)∨∃k j,lo=aa (.int k j)/\l=aa j)(m:(hi=ae/\h=ae)∨∃k j,hi=aa (.int k j)/\h=aa j)(c:az (fM n l h))(w:aA):(bc isS n cap lo hi ae).run P w=.ok (c9 0 l,c9 n h,cap) w/\c9 0 l<=c9 n h/\c9 n h<=n:=by
 rcases i with⟨rfl,rfl⟩|⟨d,l,rfl,rfl⟩<;>rcases m with⟨rfl,rfl⟩|⟨f,h,rfl,rfl⟩
 .exact⟨by simp[bc,c9],by simp[c9],by simp[c9]⟩
 .obtain⟨a,b⟩:0<=h/\h<=(n:Int):=c;refine⟨?_,by simp[c9],by simp only[c9];omega⟩;simp[bc,c9,run_sliceBound (P:=P) w f h cap _ a (by omega)]
 .obtain⟨a,b⟩:0<=l/\l<=(n:Int):=c;refine⟨?_,by simp only[c9];omega,by simp[c9]⟩;simp[bc,c9,run_sliceBound (P:=P) w d l n _ a b]
 .obtain⟨a,b,p⟩:0<=l/\l<=h/\h<=(n:Int):=c;have e:((h.toNat:Nat):Int)=h:=rF (by omega);refine⟨?_,by simp only[c9];omega,by simp only[c9];omega⟩;simp[bc,c9,run_sliceBound (P:=P) w f h cap _ (by omega) (by omega),run_sliceBound (P:=P) w d l h.toNat _ a (by omega)]
def dF(w:aA)(k:IntKind)(i:Int)(y:Nat)(code:BoundsCode)(b:0<=i)(a:i<=(y:Int))(es:Array Event):(Instr.sliceBound (.int k i) y code).events P w es=es:=by simp[Instr.sliceBound,asIntOf,b,a]
def nc{isS:Bool}{n cap:Nat}{lo hi:Option ah}{l h:Option Int}(s:n<=cap)(m:(lo=ae/\l=ae)∨∃k j,lo=aa (.int k j)/\l=aa j)(p:(hi=ae/\h=ae)∨∃k j,hi=aa (.int k j)/\h=aa j)(c:az (fM n l h))(w:aA)(es:Array Event):(bc isS n cap lo hi ae).events P w es=es:=by
 have r:∀(isS:Bool) (v:Option ah) (d:Nat) (w:aA) (es:Array Event),v=ae->(bc isS n cap ae ae ae).events P w es=es:=λisS v d w es _=>by simp[bc]
 rcases m with⟨rfl,rfl⟩|⟨i,l,rfl,rfl⟩<;>rcases p with⟨rfl,rfl⟩|⟨f,h,rfl,rfl⟩
 .simp[bc]
 .obtain⟨a,b⟩:0<=h/\h<=(n:Int):=c;simp[bc,dF (P:=P) w f h cap _ a (by omega)]
 .obtain⟨a,b⟩:0<=l/\l<=(n:Int):=c;simp[bc,dF (P:=P) w i l n _ a b]
 .obtain⟨a,b,q⟩:0<=l/\l<=h/\h<=(n:Int):=c;have e:((h.toNat:Nat):Int)=h:=rF (by omega);simp[bc,run_sliceBound (P:=P) w f h cap _ (by omega) (by omega),dF (P:=P) w f h cap _ (by omega) (by omega),dF (P:=P) w i l h.toNat _ a (by omega)]
def r7(s:List UInt8):Option Int->Option Int->List UInt8
 |none,ae=>s
 |some l,ae=>s.drop l.toNat
 |none,aa h=>s.take h.toNat
 |some l,aa h=>(s.take h.toNat).drop l.toNat
theorem bF.JA(hT:cN P T){t:aj}{x:ak}{lo hi:Option ak}(h:o.op=.slice t x lo hi ae){i:TI}(k:bD T t=aa i)(y:i.desc=.string){s:List UInt8}{l u:Option Int}(v:g x=.e (.one (.c (.str s))))(hl:qX g lo=aa l)(p:qX g hi=aa u)(A:az (fM s.length l u)):bF P o g σ (.e (.one (.c (.str (r7 s l u))))) σ:=by
 refine .quiet λst ρ hh hr=>?_;have h1:=hr x;rw[v]at h1;replace h1:=eT h1;generalize f:ρ x=vx at h1;cases h1 with
 |@str sb _ q r =>
 have d:sb.size=s.length:=by rw[<-q];exact jh.symm
 obtain⟨z,b,j⟩:=lX (P:=P) (isS:=af) (n:=sb.size) (cap:=sb.size) (bh _) (gq hr hl) (gq hr p) (by grind) st.w;have a:=(hT t i k).run_underlying (w:=st.w);rw[y]at a;have m:=nc (P:=P) (isS:=af) (n:=sb.size) (cap:=sb.size) (bh _) (gq hr hl) (gq hr p) (by grind) st.w;refine⟨.string (sb.extract (c9 0 l) (c9 sb.size u)),?_,Rd.str ?_ ?_,by simp[aw,h,f,Instr.sliceAt,a,Instr.slice,m]⟩
 .simp[aw,h,f,Instr.sliceAt,a,Instr.slice,z]
 .rw[Lib.extract_data,q,d];rw[d]at b j;cases l<;>cases u<;>simp only[r7,c9]at b j⊢
  .simp
  .simp
  .grind [List.take_of_length_le]
  .rw[List.drop_take]
 .cases l<;>cases u<;>simp only[r7,rG,List.length_take]<;>omega
def lZ(l:Nat)(f:Nat->List C):Nat->List C:=λi=>f (l+i)
def Rc(tt:Bool):Option Int->Bool
 |none=>tt
 |some _=>af
theorem bF.NK(hT:cN P T){t:aj}{x:ak}{lo hi:Option ak}(h:o.op=.slice t x lo hi ae){i p:TI}{E:aj}(q:bD T t=aa i)(I:i.desc=.slice E)(L:bD T E=aa p){tt:Bool}{n:Nat}{es:Nat->List C}{l u:Option Int}(G:∀s v,dj σ s v (g x)->Rd s.M v (.sl tt p.size n es))(hl:qX g lo=aa l)(z:qX g hi=aa u)(B:az (fM n l u)):
  bF P o g σ (.e (.one (.c (.sl (Rc tt u) p.size (c9 n u-c9 0 l) (lZ (c9 0 l) es))))) σ:=by
 refine .quiet λst ρ hh hr=>?_;have h1:=G st _ (hr x);obtain⟨a,cap,vs,r,k,F,J,O,N⟩:=h1.flat;rw[r]at h1;obtain⟨A,K,H⟩:=lX (P:=P) (isS:=ab) k (gq hr hl) (gq hr z) B st.w;have d:=(hT t i q).run_underlying (w:=st.w);rw[I]at d;refine⟨.slice (if cap=c9 0 l then a else a.map (·.add (c9 0 l*p.size))) (c9 n u-c9 0 l) (cap-c9 0 l),?_,?_,by simp[aw,h,r,Instr.sliceAt,d,Instr.slice,A,nc (P:=P) (isS:=ab) k (gq hr hl) (gq hr z) B st.w]⟩
 .simp[aw,h,r,Instr.sliceAt,d,Instr.slice,A,(hT E p L).run_sizeOf]
 .cases h1 with
  |sl b off f _ _ _ hk ha hm' MW =>
   refine Rd.sl b (off+c9 0 l*p.size) (λi j=>f (c9 0 l+i) j) (by omega) (by omega) ?_ (λi hi=>hk _ (by omega)) (λy=>?_) (λi hi j c hj=>?_) (λi hi j c hj=>MW _ (by omega) j c hj)
   .intro m;cases u with
    |none=>simp only[Rc]at m;have:=J m;simp only[c9];omega
    |some u=>cases m
   .rw[aZ (by omega),ha (by omega)];simp[dk]
   .have:=hm' (c9 0 l+i) (by omega) j c hj;grind
def bF.NI(hT:cN P T){a dst:aj}{x:ak}(h:o.op=.convert a dst x){i i2:TI}{k k':IntKind}{j:Int}(hi:bD T a=aa i)(l:bD T dst=aa i2)(p:i2.desc=.int k')(n:g x=.e (.one (.c (.int k j))))(m:bA k' j):
  bF P o g σ (.e (.one (.c (.int k' j)))) σ:=by refine .quiet λst ρ hh hr=>?_;have h1:=hr x;rw[n]at h1;replace h1:=eT h1;generalize f:ρ x=vx at h1;cases h1;have d:=(hT a i hi).run_underlying (w:=st.w);have b:=(hT dst i2 l).run_underlying (w:=st.w);rw[p]at b;exact⟨.int k' j,by simp[aw,h,f,convert,d,b,Conv.intToInt,mr m],Rd.int m,by simp[aw,h,f,convert,d,b,Conv.intToInt]⟩
theorem bF.NJ(hT:cN P T){a dst:aj}{x:ak}(h:o.op=.convert a dst x){i i2:TI}{s:List UInt8}(hi:bD T a=aa i)(k:bD T dst=aa i2)(m:i2.desc=.string)(l:g x=.e (.one (.c (.str s)))):
  bF P o g σ (.e (.one (.c (.str s)))) σ:=by refine .quiet λst ρ hh hr=>?_;have h1:=hr x;rw[l]at h1;have j:=eT h1;generalize f:ρ x=vx at j;cases j;have d:=(hT a i hi).run_underlying (w:=st.w);have b:=(hT dst i2 k).run_underlying (w:=st.w);rw[m]at b;exact⟨_,by simp[aw,h,f,convert,d,b];rfl,by grind,by simp[aw,h,f,convert,d,b]⟩
def wq(f:Nat->List C):Nat->Nat->Option (List UInt8)
 |_,0=>aa []
 |i,n+1=>match f i with
  |[.int .u8 v]=>match wq f (i+1) n with
   |some r=>aa (UInt8.ofNat v.toNat::r)
   |none=>ae
  |_=>ae
def yB{M:Mem}{f:Nat->List C}:∀{n i:Nat}{r:List UInt8}{vs:List ah},wq f i n=aa r->vs.length=n->(∀j,j<n->∀c,(f (i+j))[0]?=aa c->∃v,vs[j]?=aa v/\Rd M v c) ->
  ∃xs:List Int,vs=xs.map (Value.int .u8)/\r=xs.map (λx=>UInt8.ofNat x.toNat)
 |0,i,r,vs,h,b,_=>by cases h;exact⟨[],by grind,rfl⟩
 |n+1,i,r,[],h,b,_=>by grind
 |n+1,i,r,v::vs,h,b,a=>by
  simp only[wq]at h;split at h
  .rename_i x l;split at h
   .rename_i q e;cases h;obtain⟨u,d,k⟩:=a 0 (by omega) (.int .u8 x) (by grind)
    simp at d;subst d;cases k;obtain⟨xs,p,m⟩:=yB (vs:=vs) e (by grind) (λj t c s=>by
     have:=a (j+1) (by omega) c (by grind)
     simpa using this)
    exact⟨x::xs,by grind,by grind⟩
   grind
  grind
def oG{P:aq}(w:aA){F:ah->ByteArray->Sem (ForInStep ByteArray)}(a:∀x s,F (.int .u8 x) s=pure (.yield (s.push (UInt8.ofNat x.toNat)))):∀(xs:List Int)(s:ByteArray),
  (forIn (m:=Sem) (xs.map (Value.int .u8)) s F).run P w=.ok ⟨s.data++(xs.map λx=>UInt8.ofNat x.toNat).toArray⟩ w
 |[],s=>by simp
 |x::xs,s=>by simp only[pU,List.forIn_cons,a,bL,dn,bU];rw[oG w a xs];congr 2;apply Array.ext';simp[ByteArray.push]
end
def Ke(P:aq):List TypeDesc->List Field->Nat->Prop
 |[],[],_=>True
 |d::ds,f::fs,i=>f.name≠ "_"/\f.offset=i/\P.underlying f.type=aa d/\(match d with|.int _|.string|.bool=>True|_=>False)/\Ke P ds fs (i+1)
 |_,_,_=>False
def U1(d:Nat)(xs ys:Array ah)(f:Field)(_:Option Bool×Unit):Sem (ForInStep (Option Bool×Unit)) :=
 if f.name= "_" then pure (ForInStep.yield (ae,()))
 else do
  let a<-part f.type xs f.offset;let b<-part f.type ys f.offset;let r<-aY d f.type a b
  if r=af then pure (ForInStep.done (aa af,()))else pure (ForInStep.yield (ae,()))
def sr{P:aq}(w:aA)(d:Nat)(xs ys:Array ah):∀{ds:List TypeDesc}{fs:List Field}{i:Nat}{vs ws:List ah}{b:Bool},Ke P ds fs i->jQ ds vs ws=aa b->(∀j v,vs[j]?=aa v->xs[i+j]?=aa v)->(∀j v,ws[j]?=aa v->ys[i+j]?=aa v) ->
  (Op.eqFields (d+1) xs ys fs).run P w=.ok b w/\∀es,(forIn fs (ae,()) (U1 (d+1) xs ys)).events P w es=es
 |[],[],i,[],[],b,_,h,_,_=>by cases h;simp[Op.eqFields]
 |[],[],i,_::_,_,b,_,h,_,_=>by cases h
 |[],[],i,[],_::_,b,_,h,_,_=>by cases h
 |[],_::_,i,_,_,b,q,_,_,_=>q.elim
 |_::_,[],i,_,_,b,q,_,_,_=>q.elim
 |t::ds,f::fs,i,[],_,b,_,h,_,_=>by cases h
 |t::ds,f::fs,i,_::_,[],b,_,h,_,_=>by cases h
 |t::ds,f::fs,i,v::vs,u::us,b,⟨G,A,x,I,H⟩,h,B,C=>by
  simp only[jQ]at h;cases n:rh t v u with
  |none=>grind
  |some a =>
   cases E:jQ ds vs us with
   |none=>grind
   |some b' =>
    simp[n,E]at h;subst h;obtain⟨K,r⟩:=sr w d xs ys H E (λj v J=>by have:=B (j+1) v (by grind);grind) (λj v J=>by have:=C (j+1) v (by grind);grind);have c:xs[i]?=aa v:=by simpa using B 0 v rfl
    have e:ys[i]?=aa u:=by simpa using C 0 u rfl
    have m:(isAgg f.type).run P w=.ok af w:=by unfold isAgg underlying;cases t<;>simp at I<;>simp[x]
    have p:∀(k:Array ah) (z:ah),k[i]?=aa z->(part f.type k f.offset).run P w=.ok z w:=by intro k z y;unfold part;simp[m,A,y]
    have l:∀(k:Array ah) (z:ah),k[i]?=aa z->∀es,(part f.type k f.offset).events P w es=es:=by intro k z y es;unfold part;simp[m,A,y]
    have s:∀es,(aY (d+1) f.type v u).events P w es=es:=by
     intro es;unfold rh at n;split at n<;>first
      |(cases n;done)
      |(unfold aY;simp[underlying,x];done)
      |(unfold aY;simp[underlying,x];split<;>rfl)
    have F:(aY (d+1) f.type v u).run P w=.ok a w:=by unfold rh at n;grind[run_equalIn_int,run_equalIn_string,run_equalIn_bool]
    refine⟨?_,λes=>?_⟩
    .rw[Op.eqFields.eq_2,bm G];simp only[bL,p xs v c,p ys u e,F,bU];cases a
     .simp
     grind
    .rw[List.forIn_cons];simp only[U1,G,b7,aM,bL,p xs v c,p ys u e,F,bU,aO,l xs v c,l ys u e,s];cases a
     .simp
     .simpa using r es
def kV{P:aq}{t:aj}{fs:List Field}{ds:List TypeDesc}(d:P.underlying t=aa (.struct fs.toArray))(c:P.stoodInHeld t=af)(k:P.eqGuardType P.depth t=af)(i:Ke P ds fs 0):
  P.eqGuardType P.depth t=af/\∀(w:aA) (vs ws:List ah) (b:Bool),jQ ds vs ws=aa b->(Op.equal t (.agg vs.toArray) (.agg ws.toArray)).run P w=.ok b w/\∀es,(Op.equal t (.agg vs.toArray) (.agg ws.toArray)).events P w es=es:=by
 refine⟨k,λw vs ws b h=>?_⟩;have e:P.fieldsOf t=fs.toArray:=by unfold Program.fieldsOf;rw[d]
 have key:=sr w 9998 vs.toArray ws.toArray i h (λj v l=>by grind) (λj v l=>by grind);refine⟨?_,λes=>?_⟩
 rotate_left
 .show (aY (9999+1) t _ _).events P w es=es;have f:=key.2 es;unfold aY;simp[underlying,d,c];show Result.evThen ((forIn fs (ae,()) (U1 9999 vs.toArray ws.toArray)).run P w) ((forIn fs (ae,()) (U1 (9998+1) vs.toArray ws.toArray)).events P w es) _=es;rw[f];cases(forIn fs (ae,()) (U1 9999 vs.toArray ws.toArray)).run P w with
  |ok a w'=>obtain⟨o,_⟩:=a;cases o<;>rfl
  |halt x w'=>rfl
 show(aY (9999+1) t _ _).run P w=_;grind[run_equalIn_agg]
def PV:List TypeDesc->List A->List A->Option Bool
 |[],[],[]=>aa ab
 |.int _::ds,.c (.int k a)::cs,.c (.int k' b)::es=>match Hu k k' with
  |true=>match PV ds cs es with
   |some r=>aa ((a==b)&&r)
   |none=>ae
  |false=>ae
 |.string::ds,.c (.str a)::cs,.c (.str b)::es=>match PV ds cs es with
  |some r=>aa ((a==b)&&r)
  |none=>ae
 |.bool::ds,.c (.bool a)::cs,.c (.bool b)::es=>match PV ds cs es with
  |some r=>aa ((a==b)&&r)
  |none=>ae
 |_,_,_=>ae
def Ed{σ:List aP}{s:St}:∀{ds:List TypeDesc}{cs es:List A}{b:Bool}{vs ws:List ah},PV ds cs es=aa b->dX σ s vs cs->dX σ s ws es->jQ ds vs ws=aa b:=by
 intro ds;induction ds with
 |nil =>
  intro cs es b vs ws h c e;cases cs<;>cases es<;>simp only[PV,reduceCtorEq]at h
  cases vs<;>cases ws<;>first|exact c.elim|exact e.elim|(simpa[jQ]using h)
 |cons d ds ih =>
  intro cs es b vs ws h c e;unfold PV at h;split at h
  .grind
  .rename_i m i k a j k' b' es' heq;cases heq;split at h
   .rename_i hk;cases Aa hk;split at h
    .rename_i r f;cases h;cases vs with
     |nil=>exact c.elim
     |cons v vs=>cases ws with
      |nil=>exact e.elim
      |cons w ws =>
       obtain⟨v1,l⟩:=c;obtain⟨w1,w2⟩:=e;cases(show Rd s.M v (.int k a)from v1);cases(show Rd s.M w (.int k b')from w1);simp[jQ,rh,ih f l w2]
    grind
   grind
  .rename_i i a j b' es' heq;cases heq;split at h
   .rename_i r f;cases h;cases vs with
    |nil=>exact c.elim
    |cons v vs=>cases ws with
     |nil=>exact e.elim
     |cons w ws =>
      obtain⟨v1,l⟩:=c;obtain⟨w1,w2⟩:=e;cases(show Rd s.M v (.str a)from v1)with
      |str hx _ =>
      cases(show Rd s.M w (.str b')from w1)with
      |str hy _ =>
      simp only[jQ,rh,ih f l w2];grind[ByteArray.toList_eq]
   grind
  .rename_i i a j b' es' heq;cases heq;split at h
   .rename_i r f;cases h;cases vs with
    |nil=>exact c.elim
    |cons v vs=>cases ws with
     |nil=>exact e.elim
     |cons w ws =>
      obtain⟨v1,l⟩:=c;obtain⟨w1,w2⟩:=e;cases(show Rd s.M v (.bool a)from v1);cases(show Rd s.M w (.bool b')from w1);simp[jQ,rh,ih f l w2]
   grind
  grind
section
variable {P:aq}{T:List (Nat×TI)}{o:au}{g:ak->D}{σ:List aP}
def ja:BinOp->Bool->Option Bool
 |.eql,b=>aa b
 |.neq,b=>aa (!b)
 |_,_=>ae
def uo{op:BinOp}{t:aj}{x y:ah}{w:aA}{b c:Bool}(a:match x,y with|.agg _,.agg _=>True|.bool _,.bool _=>True|_,_=>False)(d:(Op.equal t x y).run P w=.ok b w)(h:ja op b=aa c):
  (binOp op t x y).run P w=.ok (.bool c) w:=by
 cases op<;>simp only[ja,reduceCtorEq,dm]at h
 .subst h;cases x<;>cases y<;>simp only at a<;>simp[binOp,d]
 .subst h;cases x<;>cases y<;>simp only at a<;>simp[binOp,d]
def pv{op:BinOp}{t:aj}{x y:ah}{w:aA}{b c:Bool}(d:match x,y with|.agg _,.agg _=>True|.bool _,.bool _=>True|_,_=>False)(e:(Op.equal t x y).run P w=.ok b w)(a:∀es,(Op.equal t x y).events P w es=es)(h:ja op b=aa c)(es:Array Event):
  (binOp op t x y).events P w es=es:=by cases op<;>simp only[ja,reduceCtorEq,dm]at h<;>(cases x<;>cases y<;>simp only at d<;>simp[binOp,a])
def wR(op:BinOp)(t:aj)(x y:ak)(xs ys:Array ah)(w:aA)(a:P.eqGuardType P.depth t=af)(es:Array Event):(eqGuard op t x y (.agg xs) (.agg ys)).events P w es=es:=by cases op<;>simp[eqGuard,a]
theorem bF.structEq(hT:cN P T){op:BinOp}{t ty:aj}{x y:ak}(h:o.op=.binOp op t x y ty){i:TI}(hi:bD T t=aa i)(l:i.eq≠[]){cs es:List A}{b c:Bool}(u:g x=.e (.agg cs))(v:g y=.e (.agg es))(m:PV i.eq cs es=aa b)(r:ja op b=aa c):bF P o g σ (.e (.one (.c (.bool c)))) σ:=by refine .quiet λs z hh hr=>?_;have h1:=hr x;have h2:=hr y;rw[u]at h1;rw[v]at h2;obtain⟨vs,p,d⟩:=h1;obtain⟨k,q,f⟩:=h2;obtain⟨n,heq⟩:=(hT t i hi).eqs l;have a:=uo (x:=.agg vs.toArray) (y:=.agg k.toArray) ay (heq s.w vs k b (Ed m d f)).1 r;have j:=pv (x:=.agg vs.toArray) (y:=.agg k.toArray) ay (heq s.w vs k b (Ed m d f)).1 (heq s.w vs k b (Ed m d f)).2 r;refine⟨.bool c,?_,Rd.bool,by simp only[aw,h,p,q,aM,run_eqGuard_agg s.w op t x y _ _ n,wR op t x y _ _ s.w n,aO,bL,bU,a,j,Sem.events_pure]⟩;simp only[aw,h,p,q,bL,run_eqGuard_agg s.w op t x y _ _ n,bU,a,dn]
theorem bF.Ri(hT:cN P T){op:BinOp}{t ty:aj}{x y:ak}(h:o.op=.binOp op t x y ty){i:TI}(hi:bD T t=aa i)(r:i.desc=.bool){a b c:Bool}(q:g x=.e (.one (.c (.bool a))))(u:g y=.e (.one (.c (.bool b))))(n:ja op (a==b)=aa c):bF P o g σ (.e (.one (.c (.bool c)))) σ:=by
 refine .quiet λs p hh hr=>?_;have h1:=hr x;have h2:=hr y;rw[q]at h1;rw[u]at h2;replace h1:=eT h1;replace h2:=eT h2;generalize j:p x=vx at h1;generalize k:p y=vy at h2;cases h1;cases h2;have m:P.underlying t=aa .bool:=by rw[(hT t i hi).TG,r]
 have d:=uo (P:=P) (w:=s.w) (x:=.bool a) (y:=.bool b) ay (run_equal_bool s.w t a b m) n;have l:∀es,(Op.equal t (.bool a) (.bool b)).events P s.w es=es:=λes=>by show(aY (9999+1) t _ _).events P s.w es=es;unfold aY;simp[underlying,m]
 have f:=pv (P:=P) (w:=s.w) (x:=.bool a) (y:=.bool b) ay (run_equal_bool s.w t a b m) l n;refine⟨.bool c,?_,Rd.bool,by simp only[aw,h,j,k,aM,eqGuard_at_bool,Sem.events_pure,dn,aO,bL,bU,d,f]⟩;simp only[aw,h,j,k,bL,eqGuard_at_bool,dn,bU,d]
def bF.Uz{t ty:aj}{x y:ak}(h:o.op=.binOp .xor t x y ty){a b:Int}(n:g x=.e (.one (.c (.int .i64 a))))(p:g y=.e (.one (.c (.int .i64 b))))(r:0<=a)(h1:0<=b):
  bF P o g σ (.e (.one (.c (.int .i64 ((a.toNat ^^^ b.toNat:Nat):Int))))) σ:=by
 refine .quiet λs m hh hr=>?_;have e1:=hr x;have e2:=hr y;rw[n]at e1;rw[p]at e2;replace e1:=eT e1;replace e2:=eT e2;generalize f:m x=vx at e1;generalize i:m y=vy at e2;cases e1 with|int ha =>
 cases e2 with|int hb =>
 have q:a.toNat ^^^ b.toNat<2 ^ 63:=by apply Nat.xor_lt_two_pow<;>simp only[bA]at ha hb<;>omega
 have k:bA .i64 ((a.toNat ^^^ b.toNat:Nat):Int):=by simp only[bA];omega
 refine⟨.int .i64 ((a.toNat ^^^ b.toNat:Nat):Int),?_,.int k,?_⟩
 rotate_left
 .simp only[aw,h,f,i,aM,gM,jG,aO,Go.binOp,dq,fb,b7,Op.intBits,bL,bU,dn,Sem.events_pure]
 have d:((BitVec.ofInt 64 a) ^^^ (BitVec.ofInt 64 b)).toNat=a.toNat ^^^ b.toNat:=by rw[BitVec.toNat_xor,BitVec.toNat_ofInt,BitVec.toNat_ofInt];simp only[bA]at ha hb;congr 1<;>omega
 have j:(BitVec.ofInt IntKind.i64.bits a ^^^ BitVec.ofInt IntKind.i64.bits b).toNat=a.toNat ^^^ b.toNat:=d;have l:(Go.binOp .xor t (.int .i64 a) (.int .i64 b)).run P s.w=.ok (.int .i64 ((a.toNat ^^^ b.toNat:Nat):Int)) s.w:=by simp only[Go.binOp,dq,fb,b7,Op.intBits,dn];grind[mr]
 simp only[aw,h,f,i,bL,gM,bU,l,dn]
def bF.Hg(hT:cN P T){l dst:aj}{x:ak}(h:o.op=.convert l dst x){i i2 ie:TI}{E:aj}(hi:bD T l=aa i)(G:bD T dst=aa i2)(R:i.desc=.slice E)(F:i2.desc=.string)(U:bD T E=aa ie)(H:ie.desc=.int .u8){tt:Bool}{n:Nat}{es:Nat->List C}{r:List UInt8}(Q:∀s v,dj σ s v (g x)->Rd s.M v (.sl tt 1 n es))(S:wq es 0 n=aa r):bF P o g σ (.e (.one (.c (.str r)))) σ:=by
 refine .od λs X hh hr=>?_;have h1:=Q s _ (hr x);obtain⟨vs,K,b⟩:=dY (P:=P) hh h1;obtain⟨a,cap,O,t,L,N,_⟩:=h1.flat;have J:n<=9223372036854775807:=by omega
 have B:vs.length=n:=by rw[K.len];omega
 obtain⟨xs,e1,e2⟩:=yB (M:=s.M) (vs:=vs) S B (λj hj c V=>by
  obtain⟨v,W,p2⟩:=K.rd j hj 0 c (by grind)
  grind)
 have A:=(hT l i hi).run_underlying (w:=s.w);have m:=(hT dst i2 G).run_underlying (w:=s.w);have f:=(hT E ie U).run_underlying (w:=s.w);rw[R]at A;rw[F]at m;rw[H]at f;have z:r.length<=9223372036854775807:=by grind
 have k:∃y:ByteArray,(Conv.bytesToString (.slice a n cap)).run P s.w=.ok (.string y) s.w/\y.data.toList=r:=by
  cases a with
  |none =>
   have u:r=[]:=by
    have:vs=[]:=by rw[t]at b;have h2:=b.1;simp[Builtin.firstCells]at h2;grind
    grind
   exact⟨ByteArray.empty,by simp[Conv.bytesToString],by rw[u];rfl⟩
  |some ad =>
   rw[t]at b;have h2:=b.1;simp only[Builtin.firstCells,Nat.mul_one]at h2;refine⟨⟨#[]++(xs.map λx=>UInt8.ofNat x.toNat).toArray⟩,?_,by grind⟩;simp only[Conv.bytesToString,bL,h2,bU,e1];rw[List.forIn_toArray,oG (P:=P) s.w (λ_ _=>rfl) xs ByteArray.empty];rfl
 obtain⟨y,p,I⟩:=k;refine⟨.string y,?_,Rd.str I z,?_⟩
 rotate_left
 .intro e d;simp only[aw,h,t,aM,convert,A,m,aO,bU,f,p,bL,events_underlying,Sem.events_pure]at d;cases a with
  |none=>simp[Conv.bytesToString]at d
  |some ad =>
   have q:=g8 (P:=P) hh (h1.Dz (λ_ _=>rfl)) (w:=s.w) rfl;rw[t]at b q;have h2:=b.1;simp only[Builtin.firstCells,Nat.mul_one]at h2 q;unfold Conv.bytesToString at d;simp only at d;rw[aM,h2,aO,cZ.bind (P:=P) ?_ λ_=>.pure]at d
   .grind [s8]
   .rw[List.forIn_toArray];refine cZ.Jv (λx s=>?_) _ _;split
    .exact .pure
    .exact .bind .stuck λ_=>.pure
 simp only[aw,h,t,bL,convert,A,m,bU,f,p,dn]
end
def wu(g:ak->D):List ak->Option (List C)
 |[]=>aa []
 |x::r=>match g x with
  |.e (.one (.c c))=>match wu g r with
   |some q=>aa (c::q)
   |none=>ae
  |_=>ae
def wS{σ:List aP}{s:St}{a:ak->ah}{g:ak->D}(b:∀y,dj σ s (a y) (g y)):∀{xs:List ak}{cs:List C},wu g xs=aa cs->xs.length=cs.length/\∀(j:Nat)(c:C),cs[j]?=aa c->∃v,(xs.map a)[j]?=aa v/\Rd s.M v c
 |[],cs,h=>by cases h;grind
 |x::r,cs,h=>by
  simp only[wu]at h;split at h
  .rename_i c e;split at h
   .rename_i q f;cases h;obtain⟨l,i⟩:=wS b f;refine⟨by grind,λj k d=>?_⟩;cases j with
    |zero =>
     simp at d;subst d;have:=b x;rw[e]at this;exact⟨a x,by simp,eT this⟩
    |succ j=>grind
   grind
  grind
section
variable {P:aq}{T:List (Nat×TI)}{o:au}{g:ak->D}{σ:List aP}
theorem bF.makeFunc{fn:Fn}{a b:Array ak}(h:o.op=.makeFunc fn a b){i f:List C}(n:wu g a.toList=aa i)(m:wu g b.toList=aa f):bF P o g σ (.e (.one (.c (.fn fn i f)))) σ:=by
 refine .quiet λs d hh hr=>?_;obtain⟨a1,a2⟩:=wS hr n;obtain⟨p,q⟩:=wS hr m;have l:a.map d=(a.toList.map d).toArray:=by grind
 have k:b.map d=(b.toList.map d).toArray:=by grind
 refine⟨.func fn (a.toList.map d).toArray (b.toList.map d).toArray,?_,?_,by simp only[aw,h,Instr.makeFunc];rfl⟩
 .simp only[aw,h,Instr.makeFunc,l,k];rfl
 .refine Rd.fn _ _ (by grind) (by grind) (λj=>((a.toList.map d)[j]?).getD ai) (λj=>((b.toList.map d)[j]?).getD ai) ?_ ?_ ?_ ?_
  .grind
  .grind
  .grind
  grind
def pf:TypeDesc->Bool
 |.interface _=>ab
 |_=>af
def vl(t:aj):D->Option C
 |.e (.one (.c c))=>aa (.ifs t c)
 |.e (.agg cs)=>match gC cs with
  |some q=>aa (.FJ t q)
  |none=>ae
 |_=>ae
def Ee{s:St}{v:ah}{t:aj}{d:D}{c:C}(h:vl t d=aa c)(r:dj σ s v d):Rd s.M (.iface t v) c:=by
 unfold vl at h;split at h
 .cases h;exact Rd.ifs (eT r) (eT r).cell
 .split at h
  .rename_i q e;cases h;obtain⟨vs,rfl,f⟩:=r;have b:=lQ e f;refine Rd.FJ (by have:=b.length;grind) (λj=>(vs[j]?).getD ai) (λj k=>by grind) λj c k=>?_;obtain⟨v,l,i⟩:=b.get (j:=j) (a:=.c c) (by grind);rw[l];exact i
  grind
 grind
theorem bF.makeInterface(hT:cN P T){t:aj}{x:ak}(h:o.op=.makeInterface t x){i:TI}(hi:bD T t=aa i)(b:pf i.desc=af){c:C}(f:vl t (g x)=aa c):bF P o g σ (.e (.one (.c c))) σ:=by
 refine .quiet λs j hh hr=>?_;have d:=(hT t i hi).run_underlying (w:=s.w);refine⟨.iface t (j x),?_,Ee f (hr x),?_⟩
 rotate_left
 .simp only[aw,h,Instr.makeInterface,aM,bL,d,aO,bU,events_underlying];cases a:i.desc<;>rw[a]at b<;>first|(cases b;done)|simp
 simp only[aw,h,Instr.makeInterface,bL,d,bU];cases a:i.desc<;>rw[a]at b<;>first|(cases b;done)|simp
def yC(i:TI):Option E1:=match i.agg with
 |true=>aa (.agg (i.zero.map A.c))
 |false=>ae
def Kf{i:TI}{t:aj}(h:dx P t i){s:St}{e:E1}(d:yC i=aa e):∃z,(zeroValue t).run P s.w=.ok z s.w/\m7 σ s z e:=by
 obtain⟨z,j,a⟩:=h.B5 σ s;refine⟨z,j,?_⟩;obtain⟨m,f,n,r,q,k,p,⟨cs,b⟩,u⟩:=h.info;have c:f=z:=by
  have:(zeroValue t).run P s.w=.ok f s.w:=by simp[zeroValue,typeInfo,n,k]
  grind
 subst c;unfold yC at d;cases l:i.agg with
 |true =>
  rw[l]at d b;simp only[cj]at b;cases d;rw[b]at a⊢;exact⟨cs.toList,by simp,by simpa[Value.cells]using a⟩
 |false=>grind
def qd(t:aj)(i:TI):C->Option (E1×Bool)
 |.ifs t' c=>match aB t' t with
  |true=>aa (.one (.c c),ab)
  |false=>match yC i with
   |some e=>aa (e,af)
   |none=>ae
 |.FJ t' cs=>match aB t' t with
  |true=>aa (.agg (cs.map A.c),ab)
  |false=>match yC i with
   |some e=>aa (e,af)
   |none=>ae
 |.iw=>match yC i with
  |some e=>aa (e,af)
  |none=>ae
 |_=>ae
theorem bF.typeAssert(hT:cN P T){x:ak}{B t:aj}(h:o.op=.typeAssert x B t ab){i:TI}(hi:bD T t=aa i)(H:pf i.desc=af){c:C}(K:g x=.e (.one (.c c))){e:E1}{b:Bool}(k:qd t i c=aa (e,b)):
  bF P o g σ (.eX [e,.one (.c (.bool b))]) σ:=by
 refine .quiet λs E hh hr=>?_;have h1:=hr x;rw[K]at h1;replace h1:=eT h1;generalize y:E x=vx at h1;have q:=(hT t i hi).run_underlying (w:=s.w);have key:∀(v:ah) (b:Bool),(Instr.typeAssert vx B t ab).run P s.w=.ok (.tuple #[v,.bool b]) s.w->m7 σ s v e->(Instr.typeAssert vx B t ab).events P s.w #[]=#[]->∃v,(aw E o).run P s.w=.ok (.value v) s.w/\dj σ s v (.eX [e,.one (.c (.bool b))])/\(aw E o).events P s.w #[]=#[]:=by intro v b h1 h2 h3;refine⟨.tuple #[v,.bool b],?_,⟨[v,.bool b],rfl,h2,Rd.bool,ay⟩,by simp only[aw,h,y,aM,h1,h3,aO,Sem.events_pure]⟩;simp only[aw,h,y,bL,h1,bU,dn]
 have fail:∀r,yC i=aa r->(∀z,(zeroValue t).run P s.w=.ok z s.w->(Instr.typeAssert vx B t ab).run P s.w=.ok (.tuple #[z,.bool af]) s.w/\(Instr.typeAssert vx B t ab).events P s.w #[]=#[])->e=r->b=af->∃v,(aw E o).run P s.w=.ok (.value v) s.w/\dj σ s v (.eX [e,.one (.c (.bool b))])/\(aw E o).events P s.w #[]=#[]:=by intro r p I G l;subst G l;obtain⟨z,h3,O⟩:=Kf (σ:=σ) (hT t i hi) (s:=s) p;grind
 have d:∀m,i.desc≠.interface m:=by intro m e;rw[e]at H;cases H
 cases h1 with
 |@ifs t' v c h2 hc =>
  simp only[qd]at k;cases l:aB t' t with
  |true =>
   rw[l]at k;cases k;have F:=bP l;subst F;refine key v ab ?_ h2 ?_<;>
   .unfold Instr.typeAssert;simp only[bL,q,bU,aM,aO,events_underlying];cases a:i.desc<;>first|(exact absurd a (d _))|simp
  |false =>
   rw[l]at k;have n:t'≠t:=λe=>by grind[Nat.beq_refl]
   simp only at k;split at k
   .rename_i r p;cases k;refine fail _ p (λz h3=>⟨?_,?_⟩) rfl rfl<;>
    .unfold Instr.typeAssert;simp only[bL,q,bU,aM,aO,events_underlying];cases a:i.desc<;>first|(exact absurd a (d _))|simp[n,h3]
   grind
 |@FJ t' vs cs hl f N L =>
  simp only[qd]at k;cases l:aB t' t with
  |true =>
   rw[l]at k;cases k;have F:=bP l;subst F;refine key (.agg vs.toArray) ab ?_ ⟨vs,rfl,?_⟩ ?_
   rotate_left 2
   .unfold Instr.typeAssert;simp only[q,aM,aO,events_underlying];cases a:i.desc<;>first|(exact absurd a (d _))|simp
   .unfold Instr.typeAssert;simp only[bL,q,bU];cases a:i.desc<;>first|(exact absurd a (d _))|simp
   .have go:∀(vs:List ah) (cs:List C),vs.length=cs.length->(∀(j:Nat) (c:C),cs[j]?=aa c->∃v,vs[j]?=aa v/\Rd s.M v c)->dX σ s vs (cs.map A.c):=by
     intro vs;induction vs with
     |nil=>intro cs hl _;cases cs with|nil=>trivial|cons _ _=>grind
     |cons v vs ih =>
      intro cs hl hg;cases cs with
      |nil=>grind
      |cons c cs =>
       obtain⟨u,J,p2⟩:=hg 0 c rfl;simp at J;subst J;exact⟨p2,ih cs (by grind) (λj c hj=>by simpa using hg (j+1) c (by grind))⟩
    grind
  |false =>
   rw[l]at k;have n:t'≠t:=λe=>by grind[Nat.beq_refl]
   simp only at k;split at k
   .rename_i r p;cases k;refine fail _ p (λz h3=>⟨?_,?_⟩) rfl rfl<;>
    .unfold Instr.typeAssert;simp only[bL,q,bU,aM,aO,events_underlying];cases a:i.desc<;>first|(exact absurd a (d _))|simp[n,h3]
   grind
 |iw =>
  simp only[qd]at k;split at k
  .rename_i r p;cases k;refine fail _ p (λz h3=>⟨?_,?_⟩) rfl rfl<;>
   .unfold Instr.typeAssert;simp only[bL,q,bU,aM,aO,events_underlying];cases a:i.desc<;>first|(exact absurd a (d _))|simp[h3]
  grind
 |_=>simp[qd]at k
end
def OA{P:aq}(X:Cx P)(N:Nat)(all:List au)(o:au)(φ:Fr)(σ:List aP)(x:D)(σ':List aP):Prop :=
 ∀s a,cm N σ s φ a->aF σ s->∀(b:aR) (k:List Item) (cs:List aR) (S:av->St->Prop) (i:Nat) (rest:List Nat),b.kind≠.early->all.toArray[i]?=aa o ->
  (∀v s',dj σ' s' v x->aF σ' s'->cR σ s σ' s'->fA X S (G (b.aT (a.put o.dst v) (.inRegion all.toArray rest::k)) cs) s')->fA X S (G (b.aT a (.inRegion all.toArray (i::rest)::k)) cs) s
section
variable {P:aq}{X:Cx P}{N:Nat}{all rest:List au}{φ φ':Fr}{σ σ':List aP}{o:au}{x:D}
theorem OA.kQ(r:∀σ s a,cm N σ s φ a->bd o (yielded all.toArray a.tmps)=ab)(h:bF P o (bM φ) σ x σ'):OA X N all o φ σ x σ':=by
 intro s a f hh b k cs S i rest p hi hK;refine qY p hi (r _ _ _ f) λe d=>?_;have c:=hh.rely d;obtain⟨q,s',h1,h2,g,j,n⟩:=h e a.eval c (cX (f.rely d hh));have l:=d.stepW.trans (j.m9 c);have m:qO e s' ((aw a.eval o).events P e.w #[]):=⟨⟨σ,σ',c,g,j⟩,n⟩;cases q with
 |value v=>exact⟨_,s',v,h1,.inl rfl,m,hK v s' h2 g l⟩
 |skip=>simp only[RJ]at h2;subst h2;exact⟨_,s',ai,h1,.inr ⟨rfl,rfl⟩,m,hK ai s' ay g l⟩
 |_=>exact h2.elim
def OA.pass(d:∀σ s a,cm N σ s φ a->bd o (yielded all.toArray a.tmps)=af):OA X N all o φ σ (.eX []) σ:=by intro s a f hh b k cs S i rest g hi hK;exact .ctl hh rfl (λ_=>Ng hi (d _ _ _ f)) λe c=>hK ai e ⟨[],rfl,ay⟩ (hh.rely c) c.stepW
def ib.z9{Q:Fr->List aP->Prop}(h:OA X N all o φ σ x σ')(g:∀t,o.dst=aa t->t<N)(k:ib X N all rest Q (kl o.dst x φ) σ'):ib X N all (o::rest) Q φ σ:=by
 intro s a f hh b kk cs S idx hb jk hQ;cases idx with
 |nil=>exact jk.elim
 |cons i idx =>
 refine h s a f hh b kk cs S i idx hb jk.1 λv s' hv iX st=>k s' _ ?_ iX b kk cs S idx hb jk.2 λc σ2 s2 a2 q d h2 mf=>hQ c σ2 s2 a2 q d h2 (st.trans mf);cases e:o.dst with
 |none=>exact f.mono st hh.len
 |some t=>exact(f.mono st hh.len).put (g t e) hv
end
abbrev dr:=List D->List aP->Option (D×List aP×List Prop)
def yw:List (Nat×dr)->Nat->Option dr
 |[],_=>ae
 |(i,g)::r,f=>cond (aB i f) (aa g) (yw r f)
def ee{P:aq}(X:Cx P)(f:aJ)(g:dr):Prop:=∀args σ res σ' obs,g args σ=aa (res,σ',obs)->az obs->Ev X f args σ res σ'
def bE{P:aq}(X:Cx P)(CT:List (Nat×dr)):Prop:=∀f g,yw CT f=aa g->ee X f g
def bE.nil{P:aq}{X:Cx P}:bE X []:=λ_ _ h=>by cases h
def bE.cons{P:aq}{X:Cx P}{f:aJ}{g:dr}{CT:List (Nat×dr)}(h:ee X f g)(r:bE X CT):bE X ((f,g)::CT):=by
 intro a c h2;simp only[yw]at h2;cases b:aB f a with
 |true=>grind[Nat.eq_of_beq_eq_true]
 |false=>rw[b]at h2;exact r a c h2
def bxA:A->List Nat->List Nat
 |.ptr l _,ks=>cond (ia l ks) ks (ks++[l])
 |.vec l _ _ _,ks=>cond (ia l ks) ks (ks++[l])
 |.ref l,ks=>cond (ia l ks) ks (ks++[l])
 |.bp l _,ks=>cond (ia l ks) ks (ks++[l])
 |_,ks=>ks
def bxL:List A->List Nat->List Nat
 |[],ks=>ks
 |a::r,ks=>bxL r (bxA a ks)
def bxD:D->List Nat->List Nat
 |.e (.one a),ks=>bxA a ks
 |.e (.agg cs),ks=>bxL cs ks
 |_,ks=>ks
def UZ:List D->List Nat->List Nat
 |[],ks=>ks
 |a::r,ks=>UZ r (bxD a ks)
def BI(l:Nat):List Nat->Nat->Option Nat
 |[],_=>ae
 |k::r,i=>match aB k l with|true=>aa i|false=>BI l r (i+1)
def sq{l:Nat}:∀{ks:List Nat}{i j:Nat},BI l ks i=aa j->i<=j/\ks[j-i]?=aa l
 |[],_,_,h=>by cases h
 |k::r,i,j,h=>by
  simp only[BI]at h;cases a:aB k l with
  |true=>rw[a]at h;cases h;exact⟨bh _,by grind[Nat.eq_of_beq_eq_true]⟩
  |false =>
   rw[a]at h;obtain⟨c,b⟩:=sq h;grind
def TN(ks:List Nat):A->Option A
 |.ptr l o=>match BI l ks 0 with|some i=>aa (.ptr i o)|none=>ae
 |.ref l=>match BI l ks 0 with|some i=>aa (.ref i)|none=>ae
 |.bp l w=>match BI l ks 0 with|some i=>aa (.bp i w)|none=>ae
 |.vec _ _ _ _=>ae
 |.c x=>aa (.c x)
 |.any=>aa .any
def Xl(ks:List Nat):List A->Option (List A)
 |[]=>aa []
 |a::r=>match TN ks a with
  |some b=>match Xl ks r with
   |some q=>aa (b::q)
   |none=>ae
  |none=>ae
def YF(ks:List Nat):D->Option D
 |.e (.one a)=>match TN ks a with|some b=>aa (.e (.one b))|none=>ae
 |.e (.agg cs)=>match Xl ks cs with|some b=>aa (.e (.agg b))|none=>ae
 |.eX _=>ae
 |.any=>aa .any
def Hv(ks:List Nat):List D->Option (List D)
 |[]=>aa []
 |a::r=>match YF ks a with
  |some b=>match Hv ks r with
   |some q=>aa (b::q)
   |none=>ae
  |none=>ae
def J4{ks:List Nat}{a b:A}(h:TN ks a=aa b):oL ks b=a/\Hc ks.length b=ab:=by
 cases a with
 |ptr l o =>
  simp only[TN]at h;split at h
  .rename_i i hi;cases h;obtain⟨_,d⟩:=sq hi;simp only[lG]at d;have e:i<ks.length:=(bY.1 d).1;exact⟨by simp[oL,fg,d],rC e⟩
  grind
 |ref l =>
  simp only[TN]at h;split at h
  .rename_i i hi;cases h;obtain⟨_,d⟩:=sq hi;simp only[lG]at d;have e:i<ks.length:=(bY.1 d).1;exact⟨by simp[oL,fg,d],rC e⟩
  grind
 |bp l w =>
  simp only[TN]at h;split at h
  .rename_i i hi;cases h;obtain⟨_,d⟩:=sq hi;simp only[lG]at d;have e:i<ks.length:=(bY.1 d).1;exact⟨by simp[oL,fg,d],rC e⟩
  grind
 |vec l k n es=>cases h
 |c x=>cases h;exact⟨rfl,rfl⟩
 |any=>cases h;exact⟨rfl,rfl⟩
def J5{ks:List Nat}:∀{a b:List A},Xl ks a=aa b->Bx ks b=a/\FF ks.length b=ab
 |[],b,h=>by cases h;exact⟨rfl,rfl⟩
 |a::r,b,h=>by
  simp only[Xl]at h;split at h
  .rename_i x c;split at h
   .rename_i q e;cases h;obtain⟨g,f⟩:=J4 c;obtain⟨i,d⟩:=J5 e;exact⟨by simp[Bx,g,i],by simp[FF,f,d]⟩
   grind
  grind
def RK{ks:List Nat}{a b:D}(h:YF ks a=aa b):hZ ks b=a/\vP ks.length b=ab:=by
 unfold YF at h;split at h
 .rename_i a;split at h
  .rename_i x c;cases h;obtain⟨e,d⟩:=J4 c;exact⟨by simp[hZ,zB,e],by simp[vP,Hd,d]⟩
  grind
 .rename_i cs;split at h
  .rename_i x c;cases h;obtain⟨e,d⟩:=J5 c;exact⟨by simp[hZ,zB,e],by simp[vP,Hd,d]⟩
  grind
 .cases h
 .cases h;exact⟨rfl,rfl⟩
def F2{ks:List Nat}:∀{a b:List D},Hv ks a=aa b->fI ks b=a/\ll ks.length b=ab
 |[],b,h=>by cases h;exact⟨rfl,rfl⟩
 |a::r,b,h=>by
  simp only[Hv]at h;split at h
  .rename_i x c;split at h
   .rename_i q e;cases h;obtain⟨g,f⟩:=RK c;obtain⟨i,d⟩:=F2 e;exact⟨by simp[fI,g,i],by simp[ll,f,d]⟩
   grind
  grind
def Jy(CT:List (Nat×dr))(φ:Fr)(σ:List aP)(a:ak)(xs:List ak):Option (D×List aP×List Prop) :=
 match eG (bM φ a)with
 |none=>ae
 |some (f,cap)=>match yw CT f with
  |none=>ae
  |some g =>
   let args:=mv (xs.map (bM φ)++fJ cap);let ks:=UZ args []
   match Hv ks args with
   |none=>ae
   |some J6=>match jJ ks σ with
    |none=>ae
    |some σs=>match g J6 σs with
     |none=>ae
     |some (res,σ1,obs)=>match cq σs,cq σ1,dw ks,bu ks.length σ1.length with
      |true,ab,ab,ab=>aa (hZ (ks++kL σ.length (σ1.length-ks.length)) res,dH ks σ1 σ,obs)
      |_,_,_,_=>ae
theorem OA.Qa{P:aq}{X:Cx P}{N:Nat}{all:List au}{φ:Fr}{σ:List aP}{o:au}{CT:List (Nat×dr)}(hC:bE X CT){A:ak}{xs:Array ak}{E:Array aj}(O:∀σ s a,cm N σ s φ a->bd o (yielded all.toArray a.tmps)=ab)(M:o.op=.call {callee:=.value A,args:=xs,argTypes:=E}){f:aJ}{cap:List C}(z:eG (bM φ A)=aa (f,cap)){g:dr}(H:yw CT f=aa g){ks:List Nat}{d:List D}{m σ1:List aP}{res:D}{obs:List Prop}(F:Hv ks (mv (xs.toList.map (bM φ)++fJ cap))=aa d)(J:jJ ks σ=aa m)(v:g d m=aa (res,σ1,obs))(Q:cq m=ab)(G:cq σ1=ab)(T:dw ks=ab)(I:ks.length<=σ1.length)(y:az obs):OA X N all o φ σ (hZ (ks++kL σ.length (σ1.length-ks.length)) res) (dH ks σ1 σ):=by
 obtain⟨l,K⟩:=F2 F;intro s a n hh b kk cs S i rest R hi hK;have u:=hC f g H _ _ _ _ _ v y;have q:=cX n A;unfold eG at z;split at z
 case h_2=>cases z
 case h_1 f' Nf he =>
  cases z;rw[he]at q;have h:=eT q;generalize L:a.eval A=fv at h;cases h with
  |fn fs na hl Ds f1 f2 h1 h2 r1 r2 =>
   have B:fs=[]:=jf hl;subst B;have p:cg σ s na (fJ cap):=nj (λj c hj=>⟨f2 j,h2 j (by grind),r2 j c hj⟩) Ds;have t:cg σ s (xs.toList.map a.eval++na) (fI ks d):=by rw[l];exact o7 ((lJ (cX n) xs.toList).append p)
   obtain⟨fn,r,k,e⟩:=u.1;exact Jg R hi (O _ _ _ n) hh (λw=>(jr M r k e L w).1) (λw=>(jr M r k e L w).2) u t K J Q G T I hK
theorem OA.call{P:aq}{X:Cx P}{N:Nat}{all:List au}{φ:Fr}{σ σ':List aP}{o:au}{CT:List (Nat×dr)}(hC:bE X CT){e:ak}{xs:Array ak}{c:Array aj}{x:D}{obs:List Prop}(j:∀σ s a,cm N σ s φ a->bd o (yielded all.toArray a.tmps)=ab)(i:o.op=.call {callee:=.value e,args:=xs,argTypes:=c})(b:Jy CT φ σ e xs.toList=aa (x,σ',obs))(d:az obs):OA X N all o φ σ x σ':=by
 unfold Jy at b;split at b
 .cases b
 rename_i f cap hf;split at b
 .cases b
 rename_i g h;simp only at b;split at b
 .cases b
 grind[OA.Qa,Nat.le_of_ble_eq_true]
def BW{d:D}(h:vP 0 d=ab):hZ [] d=d:=by
 have g:∀{a:A},Hc 0 a=ab->oL [] a=a:=by intro a b;cases a<;>simp only[Hc]at b<;>first|rfl|(simp at b)
 have j:∀{l:List A},FF 0 l=ab->Bx [] l=l:=by
  intro l;induction l with
  |nil=>intro _;rfl
  |cons a r c =>
   intro h;simp only[FF]at h;cases b:Hc 0 a with
   |false=>grind
   |true=>simp only[b]at h;simp[Bx,g b,c h]
 have i:∀{a:E1},Hd 0 a=ab->zB [] a=a:=by
  intro a b;cases a with
  |one a=>simp[zB,g b]
  |agg cs=>simp[zB,j b]
 have f:∀{l:List E1},x0 0 l=ab->yp [] l=l:=by
  intro l;induction l with
  |nil=>intro _;rfl
  |cons a r c =>
   intro h;simp only[x0]at h;cases b:Hd 0 a with
   |false=>grind
   |true=>simp only[b]at h;simp[yp,i b,c h]
 cases d with
 |e x=>simp[hZ,i h]
 |eX xs=>simp[hZ,f h]
 |any=>rfl
def BG(CT:List (Nat×dr))(φ:Fr)(a:ak)(xs:List ak):Option (D×List Prop) :=
 match eG (bM φ a)with
 |none=>ae
 |some (f,cap)=>match yw CT f with
  |none=>ae
  |some g=>match Hv [] (mv (xs.map (bM φ)++fJ cap))with
   |none=>ae
   |some J6=>match g J6 []with
    |some (res,[],obs)=>match vP 0 res with
     |true=>aa (res,obs)
     |false=>ae
    |_=>ae
theorem OA.BG{P:aq}{X:Cx P}{N:Nat}{all:List au}{φ:Fr}{σ:List aP}{o:au}{CT:List (Nat×dr)}(hC:bE X CT){k:ak}{xs:Array ak}{i:Array aj}{x:D}{obs:List Prop}(m:∀σ s a,cm N σ s φ a->bd o (yielded all.toArray a.tmps)=ab)(l:o.op=.call {callee:=.value k,args:=xs,argTypes:=i})(b:AM.BG CT φ k xs.toList=aa (x,obs))(c:az obs):OA X N all o φ σ x σ:=by
 unfold AM.BG at b;split at b
 .cases b
 rename_i f cap hf;split at b
 .cases b
 rename_i g e;split at b
 .cases b
 rename_i d j;split at b
 case h_2=>cases b
 rename_i res ada YG;split at b
 case h_2=>cases b
 rename_i h;cases b;have:=OA.Qa (σ:=σ) hC m l hf e j rfl YG rfl rfl rfl (bh _) c;simpa[kL,BW h,dH]using this
def pg(i:Nat)(ci:List C)(es:Nat->List C):Nat->List C:=λj=>if j=i then ci else es j
def th(lo hi:Nat)(z:List C)(es:Nat->List C):Nat->List C:=λj=>if lo<=j/\j<hi then z else es j
section
variable {P:aq}{T:List (Nat×TI)}{o:au}{B:ak->D}{σ:List aP}{s:St}{l g:Nat}{E:aj}{k n:Nat}{es:Nat->List C}
def Kq(x:aF σ s)(h:σ[l]?=aa (.buf E k n es)){k' i f:Nat}{v:ah}(r:gn σ s v (.bp l (.el g k' i f)))(z:g=n):
  ∃b c vs zs,s.β[l]?=aa ⟨.slice (aa ⟨b,0,ae⟩) 0 c,[b]⟩/\v=.pointer (aa ⟨b,i*k'+f,ae⟩)/\s.w.heap[b]?=aa (.cells (vs++zs).toArray E (0,0))/\(vs++zs).length=c*k/\n<=c/\c<=9223372036854775807/\Flat s.M k n es vs/\∀o,s.M b o=ae:=by
 obtain⟨G,⟨b,c,d,y⟩,_,j⟩:=r;obtain⟨L,e,a⟩:=(j _ _ _ _ h).2 z;rw[d]at a;rcases x.box l _ L h e with⟨_,rfl⟩|⟨F,c1,vs,zs,rfl,A,p,m,q,u,t⟩
 .cases a
 .cases a;exact⟨b,c,vs,zs,e,y,A,p,m,q,u,t⟩
def Eg{g:Nat->ah}:∀{ds:List C}{m:Nat},(∀j c,ds[j]?=aa c->Rd s.M (g (m+j)) c)->dX σ s ((bg ds.length).map λj=>g (m+j)) (ds.map A.c)
 |[],m,_=>trivial
 |d::ds,m,h=>by rw[eU,uX];refine⟨h 0 d rfl,?_⟩;have:=Eg (ds:=ds) (m:=m+1) (λj c a=>by have:=h (j+1) c (by grind);rwa [show m+1+j=m+(j+1) by omega]);grind[Function.comp_def]
theorem bF.X3(hT:cN P T){t:aj}{x y:ak}(h:o.op=.indexAddr t x y){i f:TI}{E:aj}(hi:bD T t=aa i)(O:i.desc=.slice E)(Q:bD T E=aa f){q m:Nat}{j:Int}{kk:IntKind}(L:B x=.e (.one (.bp l (.sl g f.size q m))))(M:B y=.e (.one (.c (.int kk j))))(U:0<=j)(h1:j<m):bF P o B σ (.e (.one (.bp l (.el g f.size (q+j.toNat) 0)))) σ:=by
 refine .quiet λs I hh hr=>?_;have p:=hr x;rw[L]at p;have h2:=hr y;rw[M]at h2;replace h2:=eT h2;generalize u:I y=vy at h2;cases h2;have d:=p;change gn σ s (I x) (.bp l _)at d;obtain⟨lv,⟨a,a0,cap,R,N,K,S,J,v,F⟩,z,A⟩:=d;obtain⟨b,rfl,rfl⟩:=F (by omega);have H:=(hT t i hi).run_underlying (w:=s.w);rw[O]at H;obtain⟨r,rfl⟩:∃r:Nat,j=r:=⟨j.toNat,by omega⟩
 have G:r<m:=by omega
 refine⟨.pointer (aa ⟨b,(q+r)*f.size,ae⟩),?_,⟨lv,⟨b,R,v,by simp⟩,z,A⟩,?_⟩<;>
 simp[aw,h,N,u,Instr.indexAt,asIntOf,H,(hT E f Q).run_sizeOf,dk,G,ir]
def bF.Rl(hT:cN P T){t:aj}{x:ak}{f:Nat}(h:o.op=.fieldAddr t x f){p i q off:Nat}{j:TI}(v:B x=.e (.one (.bp l (.el g p i q))))(u:jL T t f=aa (off,j)):bF P o B σ (.e (.one (.bp l (.el g p i (q+off))))) σ:=by refine .quiet λs y hh hr=>?_;have h1:=hr x;rw[v]at h1;have a:=h1;change gn σ s (y x) (.bp l _)at a;obtain⟨lv,⟨b,w,d,r⟩,m,c⟩:=a;exact⟨.pointer (aa ⟨b,i*p+q+off,ae⟩),by simp[aw,h,r,mF hT u],⟨lv,⟨b,w,d,by grind⟩,m,c⟩,by simp[aw,h,r,ou hT u]⟩
theorem bF.X4{x:ak}(h:o.op=.nilCheck x){f i q:Nat}(m:B x=.e (.one (.bp l (.el g f i q)))):bF P o B σ (.e (.one (.bp l (.el g f i q)))) σ:=by refine .quiet λs j hh hr=>?_;have h1:=hr x;rw[m]at h1;have c:=h1;have a:=h1;change gn σ s (j x) (.bp l _)at a;obtain⟨lv,⟨b,u,r,d⟩,t,p⟩:=a;exact⟨j x,by simp[aw,h,d],c,by simp[aw,h,d]⟩
theorem bF.X5(hT:cN P T){x:ak}{d:Array aj}{t:aj}(h:o.op=.call {callee:=.builtin .len,args:=#[x],argTypes:=d})(I:d[0]?=aa t){i:TI}{E:aj}(hi:bD T t=aa i)(v:i.desc=.slice E){H q m:Nat}(j:B x=.e (.one (.bp l (.sl g H q m)))):bF P o B σ (.e (.one (.c (.int .i64 m)))) σ:=by
 refine .quiet λs p hh hr=>?_;have h1:=hr x;rw[j]at h1;have b:=h1;change gn σ s (p x) (.bp l _)at b;obtain⟨lv,⟨a,a0,cap,K,u,J,y,A,F,r⟩,G,z⟩:=b;have f:=(hT t i hi).run_underlying (w:=s.w);rw[v]at f;refine⟨.int .i64 m,?_,Rd.int (by simp only[bA];omega),?_⟩<;>
 simp[aw,h,resolve,invoke,builtin,Builtin.len_,u,f,goInt,I]
theorem bF.sliceB(hT:cN P T){t:aj}{x:ak}{lo hi:Option ak}(h:o.op=.slice t x lo hi ae){i j:TI}{E:aj}(z:bD T t=aa i)(N:i.desc=.slice E)(Q:bD T E=aa j){q m:Nat}{d u:Option Int}(L:B x=.e (.one (.bp l (.sl g j.size q m))))(hl:qX B lo=aa d)(H:qX B hi=aa u)(K:az (fM m d u)):bF P o B σ (.e (.one (.bp l (.sl g j.size (q+c9 0 d) (c9 m u-c9 0 d))))) σ:=by
 refine .quiet λst ρ hh hr=>?_;have h1:=hr x;rw[L]at h1;have p:=h1;change gn σ st (ρ x) (.bp l _)at p;obtain⟨lv,⟨a,a0,cap,R,I,f,S,r,v,F⟩,y,A⟩:=p;obtain⟨J,O,M⟩:=lX (P:=P) (isS:=ab) f (gq hr hl) (gq hr H) K st.w;have c:=(hT t i z).run_underlying (w:=st.w);rw[N]at c;refine⟨.slice (if cap=c9 0 d then a else a.map (·.add (c9 0 d*j.size))) (c9 m u-c9 0 d) (cap-c9 0 d),?_,⟨lv,⟨_,a0,_,R,rfl,by omega,by omega,r,v,λG=>?_⟩,y,A⟩,by simp[aw,h,I,Instr.sliceAt,c,Instr.slice,J,nc (P:=P) (isS:=ab) f (gq hr hl) (gq hr H) K st.w]⟩
 .simp[aw,h,I,Instr.sliceAt,c,Instr.slice,J,(hT E j Q).run_sizeOf]
 .obtain⟨b,rfl,rfl⟩:=F (by omega);refine⟨b,rfl,?_⟩;rw[aZ (by omega)];simp[dk,ir]
def bF.UA(hT:cN P T){t:aj}{x:ak}(h:o.op=.load t x){i f:Nat}{F:TI}{e:E1}(R:B x=.e (.one (.bp l (.el g k i f))))(z:g=n)(hl:σ[l]?=aa (.buf E k n es))(hi:bD T t=aa F)(K:kN F ((fK f (es i)).map A.c)=aa e)(y:i<n):bF P o B σ (.e e) σ:=by
 refine .od λs U hh hr=>?_;have h1:=hr x;rw[R]at h1;obtain⟨b,Z,vs,Y,Q,J,d,N,O,S,L,W⟩:=Kq hh hl h1 z;have V:=L.width i y;let g:Nat->ah:=λj=>vs.getD (i*k+j) ai;have z:∀j c,(fK f (es i))[j]?=aa c->vs[i*k+(f+j)]?=aa (g (f+j))/\Rd s.M (g (f+j)) c:=by intro j c hj;rw[l5,oU]at hj;obtain⟨v,v1,X⟩:=L.rd i y (f+j) c hj;grind
 have H:=Eg (σ:=σ) (s:=s) (g:=g) (ds:=fK f (es i)) (m:=f) (λj c hj=>(z j c hj).2);have a:∀(j:Nat) (v:ah),((bg (fK f (es i)).length).map λj=>g (f+j))[j]?=aa v->s.w.cell? ⟨b,i*k+f+j,ae⟩=aa v:=by
  intro j v hj;simp only[mU]at hj;by_cases r:j<(fK f (es i)).length
  .simp[r]at hj;subst hj;have h2:=(z j _ (br r)).1;simp only[aV,d];grind
  grind
 obtain⟨v,p,G⟩:=iA (s:=s) (σ:=σ) (P:=P) (hT t F hi) (b:=b) (off:=i*k+f) (e:=e) a H K;refine⟨v,by simp[aw,h,J,Instr.loadAt,bq,p],G,λI u=>?_⟩;have q:I∈(loadVar t ⟨b,i*k+f,ae⟩).events P s.w #[]:=by
  have e:aw U o=(do pure (.value (<-loadVar t ⟨b,i*k+f,ae⟩))):=by simp[aw,h,J,Instr.loadAt,bq]
  rw[e]at u;simpa[p]using u
 obtain⟨j,hj,rfl⟩:=fZ (hT t F hi) (n:=(fK f (es i)).length) (λj hj=>⟨_,a j (g (f+j)) (by grind)⟩) (by have:=kO K;grind) I q;exact jH (bH Q) (by simp)
def Flat.put{M:Mem}{vs oK:List ah}{i f:Nat}{cc ci:List C}(h:Flat M k n es vs)(hi:i<n)(x:fj f cc (es i)=aa ci)(hl:oK.length=cc.length)(r:∀(j:Nat)(c:C),cc[j]?=aa c->∃v,oK[j]?=aa v/\Rd M v c):
  i*k+f+oK.length<=vs.length/\Flat M k n (pg i ci es) (vs.take (i*k+f)++oK++vs.drop (i*k+f+oK.length)):=by
 obtain⟨h1,h2⟩:=qj x;have F:=h.width i hi;have A:i*k+k<=n*k:=by have:=eC k (show i+1<=n by omega);grind
 have t:=h.len;have m:i*k+f+oK.length<=vs.length:=by omega
 have d:∀p,(vs.take (i*k+f)++oK++vs.drop (i*k+f+oK.length))[p]?=if p<i*k+f then vs[p]? else if p<i*k+f+oK.length then oK[p-(i*k+f)]? else vs[p]?:=by
  intro p;have z:(vs.take (i*k+f)).length=i*k+f:=by grind
  by_cases c1:p<i*k+f
  .grind
  .rw[aZ c1];by_cases c2:p<i*k+f+oK.length
   .grind
   .rw[aZ c2,gw (by grind),oU];grind
 refine⟨m,⟨by grind,λb a=>?_,λb a j c hj=>?_⟩⟩
 .simp only[pg];split
  .grind
  .exact h.width b a
 .simp only[pg]at hj;rw[d];split at hj
  .rename_i e;subst e;rw[h2]at hj;by_cases c1:j<f
   .rw[lS,jy (by grind),iL,bm c1]at hj;rw[bm (by omega)];exact h.rd b hi j c hj
   .by_cases c2:j<f+cc.length
    .rw[lS,gw (by grind),jy (by grind)]at hj;obtain⟨v,v1,y⟩:=r _ c hj;refine⟨v,?_,y⟩;rw[aZ (by omega),bm (by omega),<-v1];congr 1;grind
    .rw[gw (by grind),oU]at hj;rw[aZ (by omega),aZ (by omega)];refine h.rd b hi j c ?_;grind
  .rename_i e;have u:j<k:=by have:=(bY.1 hj).1;have:=h.width b a;omega
   rcases cD b i with q|w
   .have:(b+1)*k<=i*k:=eC k q;rw[ir,Nat.one_mul]at this;rw[bm (by omega)];exact h.rd b a j c hj
   .have:(i+1)*k<=b*k:=eC k (by omega);rw[ir,Nat.one_mul]at this;rw[aZ (by omega),aZ (by omega)];exact h.rd b a j c hj
def aF.dH(hh:aF σ s)(hl:σ[l]?=aa (.buf E k n es)){b:Nat}{vs zs zD:List ah}{e:Nat}(t:s.β[l]?=aa ⟨.slice (aa ⟨b,0,ae⟩) 0 e,[b]⟩)(q:(vs++zs).length=e*k)(j:n<=e)(m:e<=9223372036854775807){es':Nat->List C}(d:s.w.heap[b]?=aa (.cells (vs++zs).toArray E (0,0)))(A:Flat s.M k n es' zD)(u:zD.length=vs.length)(r:∀o,s.M b o=ae):
  aF (σ.set l (.buf E k n es')) {s with w:=s.w.setRow b (zD++zs).toArray}/\Step σ s (σ.set l (.buf E k n es')) {s with w:=s.w.setRow b (zD++zs).toArray}:=by
 have f:(s.w.setRow b (zD++zs).toArray).heap[b]?=aa (.cells (zD++zs).toArray E (0,0)):=setRow_heap s.w b _ _ E _ d;have i:∀a,a≠b->(s.w.setRow b (zD++zs).toArray).heap[a]?=s.w.heap[a]?:=λa c=>setRow_other s.w b a _ c;have p:s.β.set l ⟨.slice (aa ⟨b,0,ae⟩) 0 e,[b]⟩=s.β:=by apply iM;grind
 obtain⟨F,G⟩:=hh.gz (M':=s.M) (w':=s.w.setRow b (zD++zs).toArray) (B':=.buf E k n es') (L':=⟨.slice (aa ⟨b,0,ae⟩) 0 e,[b]⟩) hl t ⟨λ_=>rfl,bh _⟩ (by simp[World.setRow])
  (λa c H=>i a (by grind)) (λ_ _ _ _=>rfl) (λ_ _ _ h=>h) (λa y v z=>by
   have x:a≠b:=by grind
   have:=hh.mem a y v z;rw[<-this];simp only[aV]
   grind) (λa c=>⟨.inl c,by grind⟩) rfl rfl rfl
  (.inr ⟨b,e,zD,zs,rfl,f,by grind,j,m,A,r⟩)
 grind
def sd{α:Type}:∀{new l:List α},new.length=l.length->fj 0 new l=aa new
 |[],[],_=>rfl
 |[],_::_,h=>by grind
 |_::_,[],h=>by grind
 |n::ns,c::cs,h=>by simp only[fj,sd (new:=ns) (l:=cs) (by grind)]
def bF.JC(hT:cN P T){t:aj}{x y:ak}(h:o.op=.store t x y){i f:Nat}{H:TI}{new:List A}{cc ci:List C}(Z:B x=.e (.one (.bp l (.el g k i f))))(Y:g=n)(hl:σ[l]?=aa (.buf E k n es))(hi:bD T t=aa H)(hy:km (B y)=aa new)(hn:new.length=H.size)(N:gC new=aa cc)(M:(es i).length=k->fj f cc (es i)=aa ci)(I:i<n):
  bF P o B σ .any (σ.set l (.buf E k n (pg i ci es))):=by
 intro s c hh hr;have h1:=hr x;rw[Z]at h1;obtain⟨b,c0,vs,J,S,V,a,K,L,O,W,R⟩:=Kq hh hl h1 Y;have m:=lO hy (hr y);have F:=lQ N m;have Q:=dX.closed F;have G:(c y).cells.toList.length=cc.length:=by have:=F.length;grind
 replace M:=M (W.width i I);obtain⟨q1,q2⟩:=W.put I M G Q;have q:(c y).cells.size=H.size:=by rw[<-hn,<-m.length,jh]
 obtain⟨X,t2⟩:=hh.dH hl S K L O a q2 (by grind) R;have u:=run_storeCells_at P b (i*k+f) E (c y).cells.toList 0 (vs++J).toArray s.w a (by grind) m.cell;have p:((vs++J).toArray.toList.take (i*k+f+0)++(c y).cells.toList++(vs++J).toArray.toList.drop (i*k+f+0+(c y).cells.toList.length))=vs.take (i*k+f)++(c y).cells.toList++vs.drop (i*k+f+(c y).cells.toList.length)++J:=by grind
 rw[p]at u;refine⟨.skip,_,?_,rfl,X,t2,?_⟩
 .simp[aw,h,V,Instr.storeAt,bq,storeVar,(hT t H hi).run_sizeOf,q,u]
 .intro U d;have e:aw c o=(do storeVar t ⟨b,i*k+f,ae⟩ (c y);pure .skip):=by simp[aw,h,V,Instr.storeAt,bq]
  rw[e]at d;have z:U∈(storeCells ⟨b,i*k+f,ae⟩ (c y).cells.toList).events P s.w #[]:=by
   simp only[storeVar,aM,(hT t H hi).run_sizeOf,q,aO,events_sizeOf,dq,fb,b7,bL,bU,Sem.events_pure]at d;generalize(storeCells ⟨b,i*k+f,ae⟩ (c y).cells.toList).run P s.w=r at d;cases r with
   |ok v w'=>simpa using d
   |halt x w'=>simpa using d
  rcases dE (c y).cells.toList 0 (vs++J).toArray s.w #[] a (by grind) m.cell U z with Ja|⟨j,_,_,rfl⟩
  .grind
  .exact jE (bH S) (by simp) (R _)
end
section
variable {σ:List aP}
def aF.zu{s:St}(hh:aF σ s){b:Nat}{vs:List ah}(h:∀o,s.M b o=ae)(g:∀o v,vs[o]?=aa v->s.w.cell? ⟨b,o,ae⟩=aa v):
  aF (σ.map λ_=>.dead) {s with M:=λa o=>if a=b then vs[o]? else s.M a o}/\∀a o v,s.M a o=aa v->(if a=b then vs[o]? else s.M a o)=aa v:=by
 have c:=hh.lI;refine⟨⟨λa o v f=>?_,c.len,λl B L hB hL=>?_,c.eB,c.lt,c.own⟩,λa o v f=>?_⟩
 .by_cases e:a=b
  .grind
  .simp only[e,b7]at f;exact c.mem a o v f
 .have:=bH hB;simp at this;rw[<-this.2];trivial
 grind
def eY.vH{s:St}{M':Mem}{b:Nat}{es:Array Event}(h:eY {s with M:=M'} es){L:Loc}(m:L∈s.β)(j:b∈L.bs)(l:∀c o v,s.M c o=aa v->M' c o=aa v)(g:∀c o v,M' c o=aa v->c=b∨s.M c o=aa v):eY s es:=by
 intro e i;have h1:=h e i;unfold oa at h1⊢;split at h1
 .obtain⟨a1,a2,a3⟩:=h1;refine⟨a1,a2,?_⟩;rcases a3 with a3|⟨a3,a4⟩|⟨a3,v,a4⟩
  .grind
  .refine .inr (.inl ⟨a3,λf=>?_⟩);have:=a4 f;rename_i a _;cases k:s.M a.block a.off with
   |none=>rfl
   |some v=>grind
  grind
 all_goals exact h1
end
def IL(k:Nat)(f:Nat->Nat->ah):Nat->List C:=λi=>(bg k).map λj=>.val (f i j)
theorem pV{k:Nat}{f:Nat->Nat->ah}{i j:Nat}{c:C}(h:(IL k f i)[j]?=aa c):j<k/\c=.val (f i j):=by
 have a:j<k:=by have:=(bY.1 h).1;simpa[IL]using this
 simp[IL,a]at h;grind
def DC{k:Nat}{f:Nat->Nat->ah}{i j:Nat}(h:j<k):(IL k f i)[j]?=aa (.val (f i j)):=by simp[IL,h]
def Rd.exact{M:Mem}{v:ah}{t:Bool}{k n:Nat}{es:Nat->List C}(h:Rd M v (.sl t k n es)):
  ∃f:Nat->Nat->ah,Rd M v (.sl t k n (IL k f))/\(∀i,i<n->(es i).length=k)/\∀i,i<n->∀j c,(es i)[j]?=aa c->Rd M (f i j) c:=by
 cases h with
 |sl b off f a g m hk ha hm hr =>
  have e:∀i,i<n->∀j,j<k->∃c,(es i)[j]?=aa c:=λi hi j hj=>⟨_,br (by grind)⟩
  refine⟨f,.sl b off f a g m (λi _=>by simp[IL]) ha (λi hi j c hj=>?_) (λi hi j c hj=>?_),hk,hr⟩
  .grind [pV]
  .obtain⟨h1,rfl⟩:=pV hj;obtain⟨l,h2⟩:=e i hi j h1;exact .val (hr i hi j l h2).cell
def Ak{σ:List aP}{s:St}{l:Nat}{E:aj}{k n:Nat}{es:Nat->List C}{L:Loc}{a c:Option Addr}{cap:Nat}(hB:σ[l]?=aa (.buf E k n es))(g:s.β[l]?=aa L)(e:L.v=.slice c 0 cap)(i:n<=cap)(f:cap<=9223372036854775807)(m:0<cap->∃b,c=aa ⟨b,0,ae⟩/\a=aa ⟨b,0,ae⟩):gn σ s (.slice a n cap) (.bp l (.sl n k 0 n)) :=
 ⟨L.v,⟨a,c,cap,cap,rfl,i,by omega,f,e,λh=>by grind⟩,(bY.1 hB).1,λj k' n' es' he=>by rw[hB]at he;cases he;exact⟨bh _,λ_=>⟨L,g,rfl⟩⟩⟩
def rN{P:aq}{o:au}{σ:List aP}{x y:ak}{E:aj}{g:TI}(h:lz P o x y E g){l n q:Nat}{tx:Bool}{es es':Nat->List C}{s:St}{ρ:ak->ah}(r:aF σ s)(h1:gn σ s (ρ x) (.bp l (.sl n g.size 0 n)))(hl:σ[l]?=aa (.buf E g.size n es))(h2:Rd s.M (ρ y) (.sl tx g.size q es'))(K:(n+q)*g.bytes<=140737488355328):
  ∃nx s',(aw ρ o).run P s.w=.ok nx s'.w/\RJ (σ.set l (.buf E g.size (n+q) (cC n es es'))) s' nx (.e (.one (.bp l (.sl (n+q) g.size 0 (n+q)))))/\aF (σ.set l (.buf E g.size (n+q) (cC n es es'))) s'/\Step σ s (σ.set l (.buf E g.size (n+q) (cC n es es'))) s'/\eY s ((aw ρ o).events P s.w #[]):=by
 obtain⟨t,t2,i,i2,ho,hi,hd,B,A⟩:=h.op;have I:l<σ.length:=(bY.1 hl).1;obtain⟨lv,⟨a,a0,cap,u,hv,O,TC,N,G7,Xw⟩,_,WR⟩:=h1;obtain⟨L,hL,Xn⟩:=(WR _ _ _ _ hl).2 rfl;rw[G7]at Xn;have PI:u=cap:=by omega
 subst PI;have V:0<u->∃b,a0=aa ⟨b,0,ae⟩/\a=aa ⟨b,0,ae⟩:=λh=>by grind
 have U:l<s.β.length:=(bY.1 hL).1;have T4:=bH hL;have R:=r.box l _ L hl hL;rw[de ho,hv];have row:0<u->∃b vs zs,a=aa ⟨b,0,ae⟩/\L=⟨.slice (aa ⟨b,0,ae⟩) 0 u,[b]⟩/\s.w.heap[b]?=aa (.cells (vs++zs).toArray E (0,0))/\(vs++zs).length=u*g.size/\Flat s.M g.size n es vs/\∀o,s.M b o=ae:=by
  intro J;obtain⟨b,e1,e2⟩:=V J;rcases R with⟨_,rfl⟩|⟨p,c1,vs,zs,rfl,h3,h4,h5,h6,h7,h8⟩
  .grind
  grind
 by_cases h0:q=0
 .subst h0;have m:=jb (P:=P) (ty:=o.type) hi hd B A h.elem r (a:=a) O h2;simp only[iq];have ha:cv n es (cC n es es'):=λi hi=>by simp[cC,hi]
  have WW:et (σ.set l (.buf E g.size n (cC n es es'))) ⟨s.β.set l L,s.M,s.w,s.own⟩ (.buf E g.size n (cC n es es')) L:=by
   rcases R with h3|⟨p,c1,vs,zs,h2,h3,h4,h5,h6,h7,h8⟩
   .exact .inl h3
   .exact .inr ⟨p,c1,vs,zs,h2,h3,h4,h5,h6,h7.Dz ha,h8⟩
  have IV:=r.gz (M':=s.M) (w':=s.w) (B':=.buf E g.size n (cC n es es')) (L':=L) hl hL ⟨λ_=>rfl,bh _⟩ (bh _) (λ_ _ _=>rfl) (λ_ _ _ _=>rfl) (λ_ _ _ h=>h) r.mem
   (λb K=>⟨.inl K,r.lt L T4 b K⟩) rfl rfl rfl WW
  refine⟨.value (.slice a n u),_,?_,?_,IV.1,IV.2,eH (jD hi hd B A h.elem r O h2)⟩
  .simp[m]
  .exact Ak (E:=E) (by rw[fU I]) (by grind) Xn O N V
 .by_cases k:n+q<=u
  .obtain⟨b,vs,zs,rfl,rfl,hw,G,hF,hM⟩:=row (by omega);obtain⟨f,MU,m⟩:=kg (P:=P) (ty:=o.type) hi hd B A h.elem r hw G h2 k;have PK:vs.length=n*g.size:=hF.len;have T5:f.length=q*g.size:=MU.len;have ZW:n*g.size+q*g.size<=u*g.size:=by rw[<-ir];exact eC _ k
   have Vf:((vs++zs).take (n*g.size)++f++(vs++zs).drop (n*g.size+f.length))=(vs++f)++zs.drop f.length:=by rw[<-PK];simp[List.drop_append]
   rw[Vf]at m;have Nm:=setRow_heap s.w b _ ((vs++f)++zs.drop f.length).toArray E _ hw;have DJ:∀p,p≠b->(s.w.setRow b ((vs++f)++zs.drop f.length).toArray).heap[p]?=s.w.heap[p]?:=λp Q=>setRow_other s.w b p _ Q;obtain⟨t1,Z⟩:=r.gz (M':=s.M) (w':=s.w.setRow b ((vs++f)++zs.drop f.length).toArray) (B':=.buf E g.size (n+q) (cC n es es')) (L':=⟨.slice (aa ⟨b,0,ae⟩) 0 u,[b]⟩) hl hL ⟨λ_=>rfl,by omega⟩ (by simp[World.setRow])
    (λp Q hn=>DJ p (by grind)) (λ_ _ _ _=>rfl) (λ_ _ _ h=>h) (λp o' v hmv=>by
     have Bo:p≠b:=by grind
     have:=r.mem p o' v hmv;rw[<-this];simp only[aV]
     grind) (λp Q=>⟨.inl Q,by grind⟩) rfl rfl rfl
    (.inr ⟨b,u,vs++f,zs.drop f.length,rfl,Nm,by grind,k,N,hF.append MU,hM⟩)
   refine⟨.value (.slice (aa ⟨b,0,ae⟩) (n+q) u),_,?_,?_,t1,Z,eH (lU hi hd B A h.elem r hw G h2 k T4 (by simp) (λo _=>hM o))⟩
   .simp[m]
   .exact Ak (E:=E) (by rw[fU I]) (by simp only;rw[fU U]) rfl k N λ_=>⟨b,rfl,rfl⟩
  .have hg:u<n+q:=by omega
   obtain⟨f2,h2x,Yl,sW⟩:=h2.exact;have gk:∃(M':Mem) (f0:Nat->Nat->ah),aF (σ.map λ_=>.dead) {s with M:=M'}/\(∀p o v,s.M p o=aa v->M' p o=aa v)/\Rd M' (.slice a n u) (.sl af g.size n (IL g.size f0))/\(∀{es},eY {s with M:=M'} es->eY s es) /\
     (∀i,i<n->(es i).length=g.size)/\∀i,i<n->∀j c,(es i)[j]?=aa c->Rd s.M (f0 i j) c:=by
    by_cases J:0<u
    .obtain⟨b,vs,zs,rfl,rfl,hw,G,hF,hM⟩:=row J;obtain⟨c1,c2⟩:=r.zu (b:=b) (vs:=vs) hM (λo v ho=>by
      simp only[aV,hw]
      grind)
     have S:∀i,i<n->∀j c,(es i)[j]?=aa c->vs[i*g.size+j]?=aa (vs.getD (i*g.size+j) ai)/\Rd s.M (vs.getD (i*g.size+j) ai) c:=by intro i hi j c F;obtain⟨v,v1,v2⟩:=hF.rd i hi j c F;grind
     have TD:∀i,i<n->∀j,j<g.size->∃c,(es i)[j]?=aa c:=λi hi j F=>⟨_,br (by rw[hF.width i hi];exact F)⟩
     refine⟨_,λi j=>vs.getD (i*g.size+j) ai,c1,c2,.sl b 0 (λi j=>vs.getD (i*g.size+j) ai) O N (by simp) (λi _=>by simp[IL]) (λ_=>rfl) (λi hi j c F=>?_) (λi hi j c F=>?_),λhe=>?_,hF.width,λi hi j c F=>(S i hi j c F).2⟩
     .obtain⟨e1,_⟩:=pV F;grind
     .obtain⟨e1,rfl⟩:=pV F;obtain⟨c',e2⟩:=TD i hi j e1;exact .val (S i hi j c' e2).2.cell
     .exact he.vH (b:=b) T4 (by simp) c2 λp o v hv=>by grind
    .have e1:u=0:=by omega
     have e2:n=0:=by omega
     subst e1 e2;have z:=r.lI;exact⟨s.M,λ_ _=>ai,⟨z.mem,z.len,z.box,z.eB,z.lt,z.own⟩,λ_ _ _ h=>h,Rd.jF,λh=>h,λi hi=>by omega,λi hi=>by omega⟩
   obtain⟨M',f0,c1,c2,hR,W1,hw0,hr0⟩:=gk;have XI:Rd ({s with M:=M'}:St).M (ρ y) (.sl tx g.size q (IL g.size f2)):=h2x.mono c2;obtain⟨X,zs,H,Y,WX,WY,hlen,m⟩:=iu (P:=P) (s:={s with M:=M'}) (ty:=o.type) hi hd B A h.elem c1 hR XI hg K h.bytes;have G8:=iV (P:=P) (s:={s with M:=M'}) (ty:=o.type) hi hd B A h.elem c1 hR XI hg K h.bytes;have hFs:Flat s.M g.size (n+q) (cC n es es') X:=by
    refine⟨Y.len,λi hi=>?_,λi hi j c F=>?_⟩
    .by_cases e:i<n
     .simp only[cC,e,cj];grind
     .simp only[cC,e,b7];grind
    .by_cases e:i<n
     .simp only[cC,e,cj]at F;have W:j<g.size:=by grind
      obtain⟨v,v1,v2⟩:=Y.rd i hi j (.val (f0 i j)) (by simp only[cC,e,cj];exact DC W);grind[Rd.dZ]
     .simp only[cC,e,b7]at F;have W:j<g.size:=by grind
      obtain⟨v,v1,v2⟩:=Y.rd i hi j (.val (f2 (i-n) j)) (by simp only[cC,e,b7];exact DC W);grind[Rd.dZ]
   have nM:∀o,s.M s.w.heap.size o=ae:=λo=>by
    cases hm:s.M s.w.heap.size o with
    |none=>rfl
    |some v=>have:=r.block hm;omega
   obtain⟨t1,Z⟩:=r.gz (M':=s.M) (w':=s.w.drew.alloc (.cells (X++zs).toArray E)) (B':=.buf E g.size (n+q) (cC n es es')) (L':=⟨.slice (aa ⟨s.w.heap.size,0,ae⟩) 0 H,[s.w.heap.size]⟩) hl hL
    ⟨λe=>absurd e (by omega),by omega⟩ (by simp) (λb K _=>cJ s.w.drew _ K) (λ_ _ _ _=>rfl) (λ_ _ _ h=>h) (λb o v hm=>by
     have s9:=r.block hm;rw[<-r.mem b o v hm];simp only[aV];rw[cJ s.w.drew _ s9];rfl) (λb K=>by simp at K;subst K;exact⟨.inr (bh _),by simp⟩) rfl rfl rfl (.inr ⟨s.w.heap.size,H,X,zs,rfl,dG s.w.drew _,hlen,WX,WY,hFs,nM⟩)
   refine⟨.value (.slice (aa ⟨s.w.heap.size,0,ae⟩) (n+q) H),_,?_,?_,t1,Z,eH (W1 G8)⟩
   .simp only at m;simp[m]
   .exact Ak (E:=E) (by rw[fU I]) (by simp only;rw[fU U]) rfl WX WY λ_=>⟨_,rfl,rfl⟩
def bF.NG{P:aq}{o:au}{d:ak->D}{σ:List aP}{x y:ak}{E:aj}{a:TI}(h:lz P o x y E a){l n b:Nat}{tx:Bool}{es es':Nat->List C}(c:d x=.e (.one (.bp l (.sl n a.size 0 n))))(hl:σ[l]?=aa (.buf E a.size n es))(g:∀s v,dj σ s v (d y)->Rd s.M v (.sl tx a.size b es'))(f:(n+b)*a.bytes<=140737488355328):
  bF P o d σ (.e (.one (.bp l (.sl (n+b) a.size 0 (n+b))))) (σ.set l (.buf E a.size (n+b) (cC n es es'))) :=
 λs i hh hr=>rN h hh (by have:=hr x;rw[c]at this;exact this) hl (g s _ (hr y)) f
section
variable {P:aq}{T:List (Nat×TI)}{o:au}{d:ak->D}{σ:List aP}
def bF.X6(hT:cN P T){x:ak}{b:Array aj}{t:aj}(h:o.op=.call {callee:=.builtin .len,args:=#[x],argTypes:=b})(l:b[0]?=aa t){i:TI}{E:aj}(hi:bD T t=aa i)(k:i.desc=.slice E){a:Option Addr}{n cap:Nat}(g:d x=.e (.one (.c (.val (.slice a n cap)))))(p:n<=9223372036854775807):bF P o d σ (.e (.one (.c (.int .i64 n)))) σ:=by
 refine .quiet λs m hh hr=>?_;have h1:=hr x;rw[g]at h1;have j:=Rd.dZ (eT h1);have f:=(hT t i hi).run_underlying (w:=s.w);rw[k]at f;refine⟨.int .i64 n,?_,Rd.int (by simp only[bA];omega),?_⟩<;>
 simp[aw,h,resolve,invoke,builtin,Builtin.len_,j,f,goInt,l]
theorem bF.BI(hT:cN P T){t:aj}{x y:ak}(h:o.op=.indexAddr t x y){i g:TI}{E:aj}(hi:bD T t=aa i)(q:i.desc=.slice E)(v:bD T E=aa g){b off n cap:Nat}{j:Int}{kk:IntKind}(p:d x=.e (.one (.c (.val (.slice (aa ⟨b,off,ae⟩) n cap)))))(u:d y=.e (.one (.c (.int kk j))))(A:0<=j)(h1:j<n):bF P o d σ (.e (.one (.c (.val (.pointer (aa ⟨b,off+j.toNat*g.size,ae⟩)))))) σ:=by
 refine .quiet λs z hh hr=>?_;have a:=hr x;rw[p]at a;have r:=Rd.dZ (eT a);have h2:=hr y;rw[u]at h2;replace h2:=eT h2;generalize k:z y=vy at h2;cases h2;have m:=(hT t i hi).run_underlying (w:=s.w);rw[q]at m;obtain⟨f,rfl⟩:∃f:Nat,j=f:=⟨j.toNat,by omega⟩
 have l:f<n:=by omega
 refine⟨.pointer (aa ⟨b,off+f*g.size,ae⟩),?_,Rd.val rfl,?_⟩<;>
 simp[aw,h,r,k,Instr.indexAt,asIntOf,m,(hT E g v).run_sizeOf,dk,l]
def bF.Rm(hT:cN P T){t:aj}{x:ak}{f:Nat}(h:o.op=.fieldAddr t x f){b off k:Nat}{j:TI}(i:d x=.e (.one (.c (.val (.pointer (aa ⟨b,off,ae⟩))))))(a:jL T t f=aa (k,j)):bF P o d σ (.e (.one (.c (.val (.pointer (aa ⟨b,off+k,ae⟩)))))) σ:=by refine .quiet λs l hh hr=>?_;have h1:=hr x;rw[i]at h1;have g:=Rd.dZ (eT h1);exact⟨.pointer (aa ⟨b,off+k,ae⟩),by simp[aw,h,g,mF hT a],Rd.val rfl,by simp[aw,h,g,ou hT a]⟩
def bF.slice3(hT:cN P T){t:aj}{x y z:ak}(h:o.op=.slice t x ae (aa y) (aa z)){i J:TI}{E:aj}(G:bD T t=aa i)(R:i.desc=.slice E)(V:bD T E=aa J){tt:Bool}{k n:Nat}{es:Nat->List C}{r u:IntKind}{j m:Int}(O:∀s v,dj σ s v (d x)->Rd s.M v (.sl tt k n es))(Q:d y=.e (.one (.c (.int r j))))(U:d z=.e (.one (.c (.int u m))))(F:0<=j)(h1:j<=m)(h2:m<=n):bF P o d σ (.e (.one (.c (.sl af k j.toNat es)))) σ:=by
 refine .quiet λst ρ hh hr=>?_;have q:=O st _ (hr x);have p:=hr y;rw[Q]at p;replace p:=eT p;generalize A:ρ y=vy at p;cases p;have g:=hr z;rw[U]at g;replace g:=eT g;generalize B:ρ z=vz at g;cases g;obtain⟨a,cap,vs,H,L,N,X,Y,W⟩:=q.flat;rw[H]at q;have l:=(hT t i G).run_underlying (w:=st.w);rw[R]at l;have em:((m.toNat:Nat):Int)=m:=rF (by omega);have K:(bc ab n cap ae (aa (.int r j)) (aa (.int u m))).run P st.w=.ok (0,j.toNat,m.toNat) st.w:=by simp[bc,run_sliceBound (P:=P) st.w u m cap _ (by omega) (by omega),run_sliceBound (P:=P) st.w r j m.toNat _ F (by omega)]
 have S:(bc ab n cap ae (aa (.int r j)) (aa (.int u m))).events P st.w #[]=#[]:=by simp[bc,run_sliceBound (P:=P) st.w u m cap _ (by omega) (by omega),run_sliceBound (P:=P) st.w r j m.toNat _ F (by omega),dF (P:=P) st.w u m cap _ (by omega) (by omega),dF (P:=P) st.w r j m.toNat _ F (by omega)]
 refine⟨.slice a j.toNat m.toNat,?_,?_,by simp[aw,h,H,A,B,Instr.sliceAt,l,Instr.slice,K,S]⟩
 .simp[aw,h,H,A,B,Instr.sliceAt,l,Instr.slice,K,(hT E J V).run_sizeOf];intro _;rcases a with _|⟨b,off,sp⟩<;>simp[Addr.add]
 .cases q with
  |sl b off f _ _ _ hk ha hm' MW =>
   exact Rd.sl b off f (by omega) (by omega) (by simp) (λi hi=>hk i (by omega)) (λI=>ha (by omega)) (λi hi j c hj=>hm' i (by omega) j c hj) (λi hi j c hj=>MW i (by omega) j c hj)
end
structure IP(N:Nat)(σ:List aP)(s:St)(V:Nat->D)(a:Act):Prop where
 size:a.tmps.size=N
 defers:∃ls,oM σ s a.defers ls
 slot:∀t,dj σ s (a.tmps.getD t ai) (V t)
def IP.Jm{N:Nat}{σ:List aP}{s:St}{V:Nat->D}{φ:Fr}{a:Act}(f:IP N σ s V a)(h:∀t σ s v,dj σ s v (V t)->dj σ s v (look φ t)):cm N σ s φ a :=
 ⟨f.size,f.defers,λt=>h t _ _ _ (f.slot t)⟩
def di(e:Edge):Bool:=Region.binds .any e
structure wa{P:aq}(X:Cx P)(N:Nat)(ops:Array au)(φ:Fr)(S:Nat->List aP)(x:Nat->D)(p:Nat->Fr)(free c:Nat->Bool)(m:Nat->Nat->Prop)(idx:Nat->Option Nat)(φ':Fr):Prop where
 iZ:P.follows Departure.mixedOrders=ab
 back:∀i o,ops[i]?=aa o->∀e∈o.after,di e=ab->e.on<i
 Jn:∀i o d,ops[i]?=aa o->o.dst=aa d->idx d=aa i/\d<N
 x4:∀d i,idx d=aa i->∃o,ops[i]?=aa o/\o.dst=aa d
 quiet:∀i,c i=af->S (i+1)=S i
 one:∀i o,ops[i]?=aa o->free i=af->OA X N ops.toList o (p i) (S i) (x i) (S (i+1))
 all:∀i o,ops[i]?=aa o->free i=ab->c i=af/\∀k,OA X N ops.toList o (p i) (S k) (x i) (S k)
 cl:∀L:Nat->Prop,(∀i o,ops[i]?=aa o->L i->∀e∈o.after,di e=ab->L e.on)->∀i j,m i j->(L i->L j)/\∃o,ops[i]?=aa o/\((∀e∈o.after,di e=ab->L e.on)->L j)
 comp:∀i f,i<ops.size->f<ops.size->c f=ab->i≠f->free i=af->(f<i/\m i f)∨(i<f/\m f i)
 TH:∀i o,ops[i]?=aa o->∀t σ s v,dj σ s v (match idx t with|some j=>(if ∃e∈o.after,di e=ab/\e.on=j then x j else if ∃oj,ops[j]?=aa oj/\∃e∈oj.after,di e=ab/\e.on=i then look φ t else .any)|none=>look φ t)->dj σ s v (look (p i) t)
 fin:∀t σ s v,dj σ s v (match idx t with|some j=>x j|none=>look φ t)->dj σ s v (look φ' t)
open Classical in
noncomputable def gj(φ:Fr)(x:Nat->D)(idx:Nat->Option Nat)(L:Array Bool)(t:Nat):D :=
 match idx t with
 |some j=>if L.getD j af=ab then x j else look φ t
 |none=>look φ t
theorem mem_ready{ops:Array au}{L:Array Bool}{i:Nat}:i∈a9 .any ops L↔∃o,ops[i]?=aa o/\L.getD i ab=af/\∀e∈o.after,di e=ab->L.getD e.on af=ab:=by
 unfold a9;simp only[lf,n8,bR,j7];constructor
 .rintro⟨a,g,b⟩;rw[fT a]at b;simp only[nZ,im,Array.all_eq_true',jB,j7]at b;refine⟨ops[i],fT a,g,λe f d=>?_⟩;rcases b e f with h|h
  .unfold di at d;grind
  grind
 .rintro⟨o,a,g,b⟩;have j:i<ops.size:=(ij.1 a).1;refine⟨j,g,?_⟩;rw[a];simp only[nZ,im,Array.all_eq_true',jB,j7];intro e f;cases d:Region.binds .any e with
  |false=>grind
  |true=>exact .inr (b e f d)
section
variable {P:aq}{X:Cx P}{N:Nat}{ops:Array au}{φ φ':Fr}{S:Nat->List aP}{x:Nat->D}{p:Nat->Fr}{free c:Nat->Bool}{m:Nat->Nat->Prop}{idx:Nat->Option Nat}
def wa.chain(h:wa X N ops φ S x p free c m idx φ'){i:Nat}:∀{k:Nat},i<=k->(∀g,i<=g->g<k->c g=af)->S k=S i
 |0,hk,_=>by grind
 |k+1,hk,a=>by
  rcases cD k i with hl|hl
  .grind
  .rw[h.quiet k (a k hl (by omega)),h.chain (k:=k) hl (λg h1 h2=>a g h1 (by omega))]
def wa.last(h:wa X N ops φ S x p free c m idx φ'){L:Array Bool}(l:∀i,i<ops.size->L.getD i af=ab){k:Nat}{s0 s:St}{a:Act}(hk:k<=ops.size)(n:∀f,f<ops.size->c f=ab->(L.getD f af=ab↔f<k))(b:IP N (S k) s (gj φ x idx L) a)(hh:aF (S k) s)(st:cR (S 0) s0 (S k) s):
  cm N (S ops.size) s φ' a/\aF (S ops.size) s/\cR (S 0) s0 (S ops.size) s:=by
 have d:S ops.size=S k:=h.chain hk (λg h1 h2=>by grind)
 rw[<-d]at b hh st;refine⟨b.Jm λt σ s v e=>h.fin t σ s v ?_,hh,st⟩;unfold gj at e;cases hi:idx t with
 |none=>grind
 |some j =>
  simp only[hi]at e⊢;obtain⟨o,q,_⟩:=h.x4 _ _ hi;grind
theorem eJ{L:Array Bool}{i j:Nat}(hi:i<L.size):(L.setIfInBounds i ab).getD j af=ab↔j=i∨L.getD j af=ab:=by simp only[dO];grind
theorem count_set:∀{l:List Bool}{i:Nat},l[i]?=aa af->((l.set i ab).filter (λb=>!b)).length+1=(l.filter (λb=>!b)).length
 |[],_,h=>by grind
 |b::r,0,h=>by grind
 |b::r,i+1,h=>by simp at h;have:=count_set (l:=r) h;cases b<;>simp[List.set_cons_succ]<;>omega
theorem wc(t:Nat)(L:Array Bool):Region.linearise.go .any ops 0 t L []=[]:=by simp[Region.linearise.go]
theorem pb(n t:Nat)(L:Array Bool):Region.linearise.go .any ops (n+1) t L []=match(a9 .any ops L)[t % (a9 .any ops L).length]? with
  |some i=>i::Region.linearise.go .any ops n (t / (a9 .any ops L).length) (L.setIfInBounds i ab) []
  |none=>[]:=by
 simp only[Region.linearise.go]
 change (match(a9 .any ops L)[t % (a9 .any ops L).length]? with
   |some i=>Region.linearise.go .any ops n (t / (a9 .any ops L).length) (L.setIfInBounds i ab) [i]
   |none=>[].reverse)=_
 grind[linearise_go_acc]
def wa.arr(h:wa X N ops φ S x p free c m idx φ'){Y:av->St->Prop}{b:aR}{kk:List Item}{cs:List aR}(hb:b.kind≠.early){s0:St}(hQ:∀s a,cm N (S ops.size) s φ' a->aF (S ops.size) s->cR (S 0) s0 (S ops.size) s->fA X Y (G (b.aT a kk) cs) s):
  ∀(l:Nat) (L:Array Bool),L.size=ops.size->(L.toList.filter (λb=>!b)).length<=l ->
   (∀i o,ops[i]?=aa o->L.getD i af=ab->∀e∈o.after,di e=ab->L.getD e.on af=ab) ->
   ∀(k:Nat) (s:St) (a:Act),k<=ops.size->(∀f,f<ops.size->c f=ab->(L.getD f af=ab↔f<k))->IP N (S k) s (gj φ x idx L) a->aF (S k) s->cR (S 0) s0 (S k) s ->
   ∀t,fA X Y (G (b.aT a (.inRegion ops (Region.linearise.go .any ops l t L [])::kk)) cs) s:=by
 have fin:∀(s:St) (a:Act),cm N (S ops.size) s φ' a->aF (S ops.size) s->cR (S 0) s0 (S ops.size) s->fA X Y (G (b.aT a (.inRegion ops []::kk)) cs) s :=
  λs a a1 a2 a3=>.ctl a2 rfl (λ_=>iW) λs1 J=>hQ s1 a (a1.rely J a2) (a2.rely J) (a3.trans J.stepW)
 intro l;induction l with
 |zero =>
  intro L hs hf V k s a hk W4 Dv hh st;have z:∀i,i<ops.size->L.getD i af=ab:=by
   intro i hi;have hm:L[i]'(by omega)∈L.toList:=by simp
   cases hb:L[i]'(by omega)with
   |true=>simp[dO,fT (by omega:i<L.size),hb]
   |false =>
    have:L[i]'(by omega)∈L.toList.filter (λb=>!b):=lf.2 ⟨hm,by grind⟩;grind
  intro t;rw[wc];obtain⟨a1,a2,a3⟩:=h.last z hk W4 Dv hh st;grind
 |succ l ih =>
  intro L hs hf V k s a hk W4 Dv hh st;intro t;rw[pb];cases W:(a9 .any ops L)[t % (a9 .any ops L).length]? with
  |none =>
   have hr:a9 .any ops L=[]:=by
    cases hr:a9 .any ops L with
    |nil=>rfl
    |cons y ys =>
     grind[Nat.mod_lt]
   have z:∀i,i<ops.size->L.getD i af=ab:=by
    intro i;induction i using Nat.strongRecOn with
    |_ i ihi =>
     intro hi;cases hb:L.getD i af with
     |true=>rfl
     |false =>
      have hm:i∈a9 .any ops L:=mem_ready.2 ⟨ops[i],fT hi,by
       grind,λe R hbe=>by
       have:=h.back i _ (fT hi) e R hbe
       grind⟩
      grind
   obtain⟨a1,a2,a3⟩:=h.last z hk W4 Dv hh st;grind
  |some i =>
   have hi:=bH W;obtain⟨o,ho,W5,Q8⟩:=mem_ready.1 hi;have K:i<ops.size:=(ij.1 ho).1;have I:¬L.getD i af=ab:=by grind
   have XK:=h.cl (λj=>L.getD j af=ab) V;have Z1:∀g,m g i->¬L.getD g af=ab:=λg hg hL=>I ((XK g i hg).1 hL);have hup:∀g,m i g->L.getD g af=ab:=λg hg=>by grind
   have C:(L.setIfInBounds i ab).size=ops.size:=by grind
   have B:((L.setIfInBounds i ab).toList.filter (λb=>!b)).length<=l:=by
    have h1:L.toList[i]?=aa af:=by rw[zo,fT (by omega:i<L.size)];simpa[dO,fT (by omega:i<L.size)]using I
    grind[count_set]
   have T:∀j o',ops[j]?=aa o'->(L.setIfInBounds i ab).getD j af=ab->∀e∈o'.after,di e=ab->(L.setIfInBounds i ab).getD e.on af=ab:=by grind[eJ]
   have hfi:cm N (S k) s (p i) a:=Dv.Jm λt σ s v Q=>h.TH i o ho t σ s v (by
    unfold gj at Q;cases r:idx t with
    |none=>grind
    |some j =>
     simp only[r]at Q⊢;split
     .grind
     .split
      .grind
      .trivial)
   have M:∀(σ':List aP) (s':St) (v:ah),cR (S k) s σ' s'->dj σ' s' v (x i)->IP N σ' s' (gj φ x idx (L.setIfInBounds i ab)) (a.put o.dst v):=by
    intro σ' s' v q Q;cases hd:o.dst with
    |none =>
     refine⟨Dv.size,Dv.defers.imp λ_ h1=>h1.mono q.ext,λt=>?_⟩;have w:=(Dv.slot t).mono q.ext hh.len;simp only[Act.put];unfold gj at w⊢;cases r:idx t with
     |none=>grind
     |some j =>
      simp only[r]at w⊢;obtain⟨oj,XL,XM⟩:=h.x4 _ _ r;grind[eJ]
    |some d =>
     obtain⟨hid,hdN⟩:=h.Jn i o d ho hd;refine⟨by simp[Act.put,Dv.size],Dv.defers.imp λ_ h1=>h1.mono q.ext,λt=>?_⟩;simp only[Act.put];by_cases e:d=t
     .subst e;have Z2:d<a.tmps.size:=by rw[Dv.size];exact hdN
      simp only[dO,vE Z2,im];unfold gj;simp only[hid];rw[bm ((eJ (by omega)).2 (.inl rfl))];exact Q
     .have w:=(Dv.slot t).mono q.ext hh.len;simp only[dO]at w⊢;rw[vG e];unfold gj at w⊢;cases r:idx t with
      |none=>grind
      |some j =>
       simp only[r]at w⊢;obtain⟨oj,XL,XM⟩:=h.x4 _ _ r;grind[eJ]
   have A:∀(k':Nat),k'<=ops.size->OA X N ops.toList o (p i) (S k) (x i) (S k')->(∀f,f<ops.size->c f=ab->((L.setIfInBounds i ab).getD f af=ab↔f<k')) ->
     fA X Y (G (b.aT a (.inRegion ops (i::Region.linearise.go .any ops l (t / (a9 .any ops L).length) (L.setIfInBounds i ab) [])::kk)) cs) s:=by intro k' Um hoa XN;have:=hoa s a hfi hh b kk cs Y i (Region.linearise.go .any ops l (t / (a9 .any ops L).length) (L.setIfInBounds i ab) []) hb (by grind);simp only[oT]at this;exact this λv s' Q iX q=>ih _ C B T k' s' _ Um XN (M _ _ _ q Q) iX (st.trans q) _
   have same:c i=af->∀f,f<ops.size->c f=ab->((L.setIfInBounds i ab).getD f af=ab↔f<k):=by grind[eJ]
   cases n:free i with
   |true =>
    obtain⟨hq,U⟩:=h.all i o ho n;exact A k hk (U k) (same hq)
   |false =>
    have u:=h.one i o ho n;have H:S i=S k:=by
     rcases Nat.le_total k i with O|O
     .refine h.chain O λg h1 h2=>?_;cases R:c g with
      |false=>rfl
      |true =>
       exfalso;rcases h.comp i g K (by omega) R (by omega) n with⟨_,Z⟩|⟨Z,_⟩
       .grind
       .omega
     .refine(h.chain O λg h1 h2=>?_).symm;cases R:c g with
      |false=>rfl
      |true =>
       exfalso;have hLg:=(W4 g (by omega) R).2 h2;by_cases Q9:g=i
       .grind
       .rcases h.comp i g K (by omega) R (λe=>Q9 e.symm) n with⟨Z,_⟩|⟨_,Z⟩
        .omega
        grind
    rw[H]at u;cases E:c i with
    |false =>
     rw[h.quiet i E,H]at u;exact A k hk u (same E)
    |true =>
     refine A (i+1) (by omega) u λf TJ W6=>?_;rw[eJ (by omega)];by_cases F:f=i
     .grind
     .simp only[F,false_or];rcases h.comp i f K TJ W6 (λe=>F e.symm) n with⟨h1,Z⟩|⟨h1,Z⟩
      .grind
      grind
end
def Bp(op:BinOp)(k:IntKind)(a:Int)(k':IntKind)(b:Int):Option (Int×List Prop) :=
 match k with
 |.u64=>match op with
  |.shl=>aa (((a.toNat*2 ^ b.toNat % 18446744073709551616:Nat):Int),[0<=b,b<=64])
  |.shr=>aa (((a.toNat / 2 ^ b.toNat:Nat):Int),[0<=b,b<=64])
  |.and=>match k' with|.u64=>aa (((a.toNat &&& b.toNat:Nat):Int),[])|_=>ae
  |.xor=>match k' with|.u64=>aa (((a.toNat ^^^ b.toNat:Nat):Int),[])|_=>ae
  |_=>ae
 |_=>ae
section
variable {P:aq}{T:List (Nat×TI)}{o:au}{d:ak->D}{σ:List aP}
theorem bits_nat{a:Int}(h:bA .u64 a):(BitVec.ofInt IntKind.u64.bits a).toNat=a.toNat:=by rw[BitVec.toNat_ofInt];simp only[bA]at h;simp only[IntKind.bits];omega
def Ha{op:BinOp}{k k':IntKind}{a b c:Int}{obs:List Prop}(t:aj)(g:Bp op k a k' b=aa (c,obs))(j:az obs)(h:bA k a)(q:bA k' b)(w:aA):
  bA k c/\(Go.binOp op t (.int k a) (.int k' b)).run P w=.ok (.int k c) w/\(Go.binOp op t (.int k a) (.int k' b)).events P w #[]=#[]:=by
 unfold Bp at g;split at g
 .split at g
  .cases g;obtain⟨p,m⟩:0<=b/\b<=64:=j;have s:a.toNat*2 ^ b.toNat % 18446744073709551616<18446744073709551616:=j9 _ (by decide);simp only[bA]at h;refine⟨by simp only[bA];omega,?_⟩;have i:IntKind.wrap .u64 (a*2 ^ (min b.toNat IntKind.u64.bits))=((a.toNat*2 ^ b.toNat % 18446744073709551616:Nat):Int):=by
    have l:min b.toNat IntKind.u64.bits=b.toNat:=by rw[show IntKind.u64.bits=64 from rfl];omega
    have n:a=(a.toNat:Int):=by omega
    rw[l,n];simp only[IntKind.wrap,IntKind.bits,IntKind.signed,b9];grind
   simp only[Go.binOp,Op.shift,aZ (show¬b<0 by omega),i];exact⟨rfl,rfl⟩
  .cases g;obtain⟨p,m⟩:0<=b/\b<=64:=j;simp only[bA]at h;have r:a.toNat / 2 ^ b.toNat<=a.toNat:=Nat.div_le_self _ _;refine⟨by simp only[bA];grind,?_⟩;have i:a.fdiv (2 ^ (min b.toNat IntKind.u64.bits))=((a.toNat / 2 ^ b.toNat:Nat):Int):=by
    have l:min b.toNat IntKind.u64.bits=b.toNat:=by rw[show IntKind.u64.bits=64 from rfl];omega
    grind
   simp only[Go.binOp,Op.shift,aZ (show¬b<0 by omega),i];exact⟨rfl,rfl⟩
  .split at g
   .cases g;have m:a.toNat &&& b.toNat<=a.toNat:=Nat.and_le_left;have f:bA .u64 ((a.toNat &&& b.toNat:Nat):Int):=by simp only[bA]at h⊢;omega
    refine⟨f,?_⟩;have e:(BitVec.ofInt IntKind.u64.bits a &&& BitVec.ofInt IntKind.u64.bits b).toNat=a.toNat &&& b.toNat:=by grind[bits_nat]
    simp only[Go.binOp,dq,fb,b7,Op.intBits,e,mr f];exact⟨rfl,rfl⟩
   grind
  .split at g
   .cases g;have f:bA .u64 ((a.toNat ^^^ b.toNat:Nat):Int):=by simp only[bA]at h q⊢;have:a.toNat ^^^ b.toNat<2 ^ 64:=Nat.xor_lt_two_pow (by omega) (by omega);omega
    refine⟨f,?_⟩;have e:(BitVec.ofInt IntKind.u64.bits a ^^^ BitVec.ofInt IntKind.u64.bits b).toNat=a.toNat ^^^ b.toNat:=by grind[bits_nat]
    simp only[Go.binOp,dq,fb,b7,Op.intBits,e,mr f];exact⟨rfl,rfl⟩
   grind
  grind
 grind
theorem bF.bits{op:BinOp}{t ty:aj}{x y:ak}{k k':IntKind}{a b c:Int}{obs:List Prop}(h:o.op=.binOp op t x y ty)(l:d x=.e (.one (.c (.int k a))))(m:d y=.e (.one (.c (.int k' b))))(n:Bp op k a k' b=aa (c,obs))(q:az obs):
  bF P o d σ (.e (.one (.c (.int k c)))) σ:=by
 refine .quiet λs j hh hr=>?_;have h1:=hr x;have h2:=hr y;rw[l]at h1;rw[m]at h2;replace h1:=eT h1;replace h2:=eT h2;generalize f:j x=vx at h1;generalize g:j y=vy at h2;cases h1 with|int ha =>
 cases h2 with|int hb =>
 obtain⟨p,i,r⟩:=Ha (P:=P) t n q ha hb s.w;exact⟨.int k c,by simp only[aw,h,bL,f,g,gM,bU,i,dn],.int p,by simp[aw,h,f,g,gM,jG,i,r]⟩
end
def Flat.T2{M:Mem}{k n q m:Nat}{es zt:Nat->List C}{vs oK:List ah}(h:Flat M k n es vs)(b:Flat M k m zt oK)(f:q+m<=n):
  Flat M k n (λi=>if q<=i/\i<q+m then zt (i-q)else es i) (vs.take (q*k)++oK++vs.drop (q*k+oK.length)):=by
 have hl:=h.len;have l:=b.len;have s:q*k+m*k<=n*k:=by rw[<-ir];exact eC k f
 have r:(vs.take (q*k)).length=q*k:=by grind
 have a:∀p,(vs.take (q*k)++oK++vs.drop (q*k+oK.length))[p]?=if p<q*k then vs[p]? else if p<q*k+m*k then oK[p-q*k]? else vs[p]?:=by
  intro p;by_cases c1:p<q*k
  .grind
  .rw[aZ c1];by_cases c2:p<q*k+m*k
   .grind
   .rw[aZ c2,gw (by grind),oU];grind
 refine⟨by grind,λi hi=>?_,λi hi j c hj=>?_⟩
 .by_cases e:q<=i/\i<q+m
  .rw[bm e];exact b.width _ (by omega)
  .rw[aZ e];exact h.width i hi
 .rw[a];by_cases e:q<=i/\i<q+m
  .rw[bm e]at hj;have g:j<k:=by have:=(bY.1 hj).1;rw[b.width _ (by omega)]at this;exact this
   have e1:q*k<=i*k:=eC k e.1;have e2:i*k+k<=q*k+m*k:=by rw[<-ir,<-lj];exact eC k e.2
   rw[aZ (by omega),bm (by omega)];obtain⟨v,v1,t⟩:=b.rd (i-q) (by omega) j c hj;grind[Nat.sub_mul]
  .rw[aZ e]at hj;have g:j<k:=by have:=(bY.1 hj).1;rw[h.width i hi]at this;exact this
   have:i*k+j<q*k∨q*k+m*k<=i*k+j:=by
    by_cases c1:i<q
    .left;have:i*k+k<=q*k:=by rw[<-lj];exact eC k c1
     omega
    .right;have:(q+m)*k<=i*k:=eC k (by omega);grind
   rcases this with c1|c1
   .rw[bm c1];exact h.rd i hi j _ hj
   .rw[aZ (by omega),aZ (by omega)];exact h.rd i hi j _ hj
def va{s:St}{E k k':Nat}{es WQ:Nat->List C}{v:ah}{σ':List aP}{β:List Loc}{l:Nat}(f:Rd s.M v (.sl ab k' 0 WQ))(e:σ'[l]?=aa (.buf E k 0 es))(c:β[l]?=aa ⟨.slice ae 0 0,[]⟩):gn σ' {s with β:=β} v (.bp l (.sl 0 k 0 0)):=by obtain⟨a,cap,vs,g,_,_,b,_,_⟩:=f.flat;have:=b rfl;subst this;refine⟨.slice ae 0 0,⟨a,ae,0,0,g,by omega,rfl,by omega,rfl,λh=>absurd h (by omega)⟩,(bY.1 e).1,λE2 k2 n2 zt h=>?_⟩;rw[e]at h;cases h;exact⟨bh _,λ_=>⟨_,c,rfl⟩⟩
def eY.T3{s:St}{β:List Loc}{v:ah}{es:Array Event}(h:eY {s with β:=β++[⟨v,[]⟩]} es)(c:s.β=β):eY s es:=by
 intro e a;have h1:=h e a;have key:∀b,(∃L∈β++[(⟨v,[]⟩:Loc)],b∈L.bs)->∃L∈s.β,b∈L.bs:=λb ⟨L,f,g⟩=>by grind
 unfold oa at h1⊢;grind
def bF.G5{P:aq}{o:au}{d:ak->D}{σ:List aP}{x y:ak}{E:aj}{a:TI}(h:lz P o x y E a){k m:Nat}{tx:Bool}{es es':Nat->List C}(n:d x=.e (.one (.c (.sl ab k 0 es))))(r:∀s v,dj σ s v (d y)->Rd s.M v (.sl tx a.size m es'))(q:(0+m)*a.bytes<=140737488355328):
  bF P o d σ (.e (.one (.bp σ.length (.sl (0+m) a.size 0 (0+m))))) (σ++[.buf E a.size (0+m) (cC 0 es es')]):=by
 intro s A hh hr;have h1:=hr x;rw[n]at h1;have h2:=r s _ (hr y);obtain⟨w,p⟩:=hh.hO (B:=.buf E a.size 0 es) (L:=⟨.slice ae 0 0,[]⟩) (.refl _ _) rfl hh (.inl ⟨rfl,rfl⟩) (by simp);have f:gn (σ++[.buf E a.size 0 es]) {s with β:=s.β++[⟨.slice ae 0 0,[]⟩]} (A x) (.bp σ.length (.sl 0 a.size 0 0)):=va (E:=E) (es:=es) (eT h1) (by simp) (by simp[<-hh.len]);obtain⟨t,s',u,j,g,i,z⟩:=rN (P:=P) (σ:=σ++[.buf E a.size 0 es]) (s:={s with β:=s.β++[⟨.slice ae 0 0,[]⟩]}) (l:=σ.length) (es:=es) h w f (by simp) h2 q;have b:(σ++[aP.buf E a.size 0 es]).set σ.length (.buf E a.size (0+m) (cC 0 es es'))=σ++[.buf E a.size (0+m) (cC 0 es es')]:=by simp
 rw[b]at j g i;exact⟨t,s',u,j,g,p.trans i,z.T3 rfl⟩
def G6(i j m:Nat)(es:Nat->List C):Nat->List C:=λq=>if i<=q/\q<i+m then es (j+(q-i))else es q
def bF.I4{P:aq}{o:au}{d:ak->D}{σ:List aP}{x y:ak}{E:aj}{f:TI}(h:lz P o x y E f){l n i j m:Nat}{es:Nat->List C}(hx:d x=.e (.one (.bp l (.sl n f.size 0 i))))(hy:d y=.e (.one (.bp l (.sl n f.size j m))))(hl:σ[l]?=aa (.buf E f.size n es))(ZU:i+m<=n)(hjm:j+m<=n):
  bF P o d σ (.e (.one (.bp l (.sl n f.size 0 (i+m))))) (σ.set l (.buf E f.size n (G6 i j m es))):=by
 intro s ρ hh hr;obtain⟨t,t2,ti,ti2,ho,hi,hd,R,Q⟩:=h.op;have h1:=hr x;rw[hx]at h1;change gn σ s (ρ x) (.bp l _)at h1;have h2:=hr y;rw[hy]at h2;change gn σ s (ρ y) (.bp l _)at h2;obtain⟨lv,⟨a,a0,cap,H,hv,U,TC,Xv,G7,Xw⟩,_,WR⟩:=h1;obtain⟨L,hL,S⟩:=(WR _ _ _ _ hl).2 rfl;rw[G7]at S;obtain⟨lv',⟨a',a0',k,c0',WT,Xx,abf,abg,Xy,abh⟩,_,Xz⟩:=h2;obtain⟨L',ff,K⟩:=(Xz _ _ _ _ hl).2 rfl;rw[hL]at ff;cases ff;rw[Xy,S]at K;cases K;have T4:=bH hL;have hu:=hi.run_underlying (w:=s.w);have V:=R.run_underlying (w:=s.w);rw[hd]at hu;rw[Q]at V;rw[de ho,hv,WT];by_cases XA:n=0
 .have e1:i=0:=by omega
  have e2:m=0:=by omega
  subst XA e1 e2;have QR:σ.set l (.buf E f.size 0 (G6 0 j 0 es))=σ:=by
   have:G6 0 j 0 es=es:=by funext q;simp only[G6];grind
   rw[this];apply iM;grind
  have hz:Rd s.M (.slice a' 0 k) (.sl af f.size 0 λ_=>[]):=.sl 0 0 (λ_ _=>ai) (by omega) (by omega) (by simp) (λi hi=>by omega) (λh=>by omega) (λi hi=>by omega) (λi hi=>by omega);have N:=jb (P:=P) (ty:=o.type) hi hd R Q h.elem hh (a:=a) U hz;rw[QR];refine⟨.value (.slice a 0 cap),s,?_,?_,hh,.refl _ _,eH (jD hi hd R Q h.elem hh U hz)⟩
  .simp[N]
  .exact⟨lv,⟨a,a0,cap,H,rfl,U,TC,Xv,G7,Xw⟩,(bY.1 hl).1,WR⟩
 rcases hh.box l _ L hl hL with⟨e,_⟩|⟨b,c1,vs,Z,rfl,r,hz1,hz2,hz3,Y,hM⟩
 .grind
 cases S;have X:0<cap:=by omega
 obtain⟨b1,e1,rfl⟩:=Xw X;cases e1;have PI:H=cap:=by omega
 subst PI;rw[show b=b from rfl];have PK:vs.length=n*f.size:=Y.len;have u:i+m<=H:=by omega
 have hik:i*f.size+m*f.size<=n*f.size:=by rw[<-ir];exact eC _ ZU
 have hjk:j*f.size+m*f.size<=n*f.size:=by rw[<-ir];exact eC _ hjm
 obtain⟨c1,c2⟩:=hh.zu (b:=b) (vs:=vs) hM (λq v O=>by
  simp only[aV,r]
  grind)
 let g:=(vs.drop (j*f.size)).take (m*f.size);have T5:g.length=m*f.size:=by grind
 have hng:∀p,p<m*f.size->g[p]?=vs[j*f.size+p]?:=λp G=>by grind
 have MU:Flat s.M f.size m (λq=>es (j+q)) g:=by
  refine⟨T5,λq O=>Y.width _ (by omega),λq O p c G=>?_⟩;have hpk:p<f.size:=by have:=(bY.1 G).1;rw[Y.width _ (by omega)]at this;exact this
  obtain⟨v,v1,v2⟩:=Y.rd (j+q) (by omega) p c G;refine⟨v,?_,v2⟩;have hq2:q*f.size+f.size<=m*f.size:=by rw[<-lj];exact eC _ O
  grind
 have z:∀v∈g,v.oneCell'=ab:=MU.cell;have WU:Rd (λA q=>if A=b then vs[q]? else s.M A q) (.slice a' m k) (.sl af f.size m (IL f.size λq p=>vs.getD ((j+q)*f.size+p) ai)):=by
  refine .sl b (j*f.size) (λq p=>vs.getD ((j+q)*f.size+p) ai) Xx (by omega) (by simp) (λq _=>by simp[IL]) (λG=>?_) (λq O p c G=>?_) (λq O p c G=>?_)
  .grind
  .obtain⟨p1,_⟩:=pV G;have hq2:q*f.size+f.size<=m*f.size:=by rw[<-lj];exact eC _ O
   grind
  .obtain⟨p1,rfl⟩:=pV G;obtain⟨c',XB⟩:∃c',(es (j+q))[p]?=aa c':=⟨_,br (by rw[Y.width _ (by omega)];exact p1)⟩
   obtain⟨v,v1,v2⟩:=Y.rd (j+q) (by omega) p c' XB;have e:vs.getD ((j+q)*f.size+p) ai=v:=by grind
   rw[e];exact .val v2.cell
 obtain⟨B,T6,hf,J⟩:=dY (P:=P) (s:={s with M:=λA q=>if A=b then vs[q]? else s.M A q}) c1 WU;have hnn:B=g:=by
  apply iM;intro p;have Ds:B.length=m*f.size:=T6.len;by_cases G:p<m*f.size
  .have hk:0<f.size:=by grind
   have O:p / f.size<m:=pL (by grind);have XC:p / f.size*f.size+p % f.size=p:=pQ p f.size;obtain⟨v,v1,v2⟩:=T6.rd _ O (p % f.size) _ (DC (j9 _ hk));rw[XC]at v1;rw[v1,hng p G,Rd.dZ v2];rw[ir,Nat.add_assoc,XC,ar,br (by omega)];rfl
  grind
 subst hnn;have G8:=g8 (P:=P) (s:={s with M:=λA q=>if A=b then vs[q]? else s.M A q}) c1 WU (w:=s.w) rfl;replace hf:(Builtin.firstCells f.size m (.slice a' m k)).run P s.w=.ok g.toArray s.w:=hf;have abp:i*f.size+g.length<=(vs++Z).length:=by grind
 have I:=run_storeCells_at P b (i*f.size) E g 0 (vs++Z).toArray s.w r (by grind) z;simp only[iq]at I;have QS:((vs++Z).toArray.toList.take (i*f.size)++g++(vs++Z).toArray.toList.drop (i*f.size+g.length))=vs.take (i*f.size)++g++vs.drop (i*f.size+g.length)++Z:=by grind
 rw[QS]at I;have q2:=Y.T2 MU ZU;have he:(λq=>if i<=q/\q<i+m then(λq=>es (j+q)) (q-i)else es q)=G6 i j m es:=rfl;rw[he]at q2;obtain⟨t1,t2'⟩:=hh.dH hl hL hz1 hz2 hz3 r q2 (by grind) hM;have F:(Builtin.lenOf (.slice a' m k)).run P s.w=.ok m s.w:=by rw[J];rfl
 have T7:(Builtin.lenOf (.slice a' m k)).events P s.w #[]=#[]:=by rw[J];rfl
 refine⟨.value (.slice (aa ⟨b,0*f.size,ae⟩) (i+m) H),_,?_,?_,t1,t2',eH ?_⟩
 .have N:(Builtin.append_ #[t,t2] o.type #[.slice (aa ⟨b,0*f.size,ae⟩) i H,.slice a' m k]).run P s.w=.ok (.slice (aa ⟨b,0*f.size,ae⟩) (i+m) H) (s.w.setRow b (vs.take (i*f.size)++g++vs.drop (i*f.size+g.length)++Z).toArray):=by unfold Builtin.append_;simp only[ik,la,nT,bL,hu,V,bU,h.elem.run_sizeOf,dn,jz,b7,F,u,cj,n9,hf,dk,Nat.zero_mul,bC,I]
  grind[Go.Sem.run_bind,Go.Result.andThen_ok,Go.Sem.run_pure]
 .exact⟨.slice (aa ⟨b,0,ae⟩) 0 H,⟨_,_,H,H,rfl,u,by omega,Xv,rfl,λ_=>⟨b,rfl,rfl⟩⟩,by grind,λE2 k2 n2 zt WV=>by rw[fU (bY.1 hl).1]at WV;cases WV;exact⟨bh _,λ_=>⟨_,hL,rfl⟩⟩⟩
 .intro e W;unfold Builtin.append_ at W;simp only[ik,la,nT,aM,bL,hu,V,aO,h.elem.run_sizeOf,dn,jz,b7,F,T7,u,cj,n9,hf,dk,Nat.zero_mul,bC,I,
   rM,Sem.events_ite,events_underlying,events_sizeOf,Sem.events_pure]at W
  rcases dE g 0 (vs++Z).toArray s.w _ r (by grind) z e W with h3|⟨p,_,_,rfl⟩
  .have h4:eY {s with M:=λA q=>if A=b then vs[q]? else s.M A q} #[e]:=eY.one (s8 (G8 e h3))
   exact h4.vH (b:=b) T4 (by simp) c2 (λA q v hv=>by grind) e (by simp)
  grind[jE]
section
variable {P:aq}{T:List (Nat×TI)}{o:au}{d:ak->D}{σ:List aP}
theorem bF.slice3B(hT:cN P T){t:aj}{x w y z:ak}(h:o.op=.slice t x (aa w) (aa y) (aa z)){I G:TI}{E:aj}(H:bD T t=aa I)(S:I.desc=.slice E)(X:bD T E=aa G){l g k q n:Nat}{u v A:IntKind}{i j m:Int}(O:d x=.e (.one (.bp l (.sl g k q n))))(L:d w=.e (.one (.c (.int u i))))(Q:d y=.e (.one (.c (.int v j))))(V:d z=.e (.one (.c (.int A m))))(Z:0<=i)(h1:i<=j)(h2:j<=m)(h3:m<=n):bF P o d σ (.e (.one .any)) σ:=by
 refine .quiet λst ρ hh hr=>?_;have s:=hr x;rw[O]at s;change gn σ st (ρ x) (.bp l _)at s;obtain⟨lv,⟨a,a0,cap,c0,J,N,Y,M,R,W⟩,_,_⟩:=s;have r:=hr w;rw[L]at r;replace r:=eT r;generalize C:ρ w=vw at r;cases r;have p:=hr y;rw[Q]at p;replace p:=eT p;generalize B:ρ y=vy at p;cases p;have b:=hr z;rw[V]at b;replace b:=eT b;generalize F:ρ z=vz at b;cases b;have f:=(hT t I H).run_underlying (w:=st.w);rw[S]at f;have K:(bc ab n cap (aa (.int u i)) (aa (.int v j)) (aa (.int A m))).run P st.w=.ok (i.toNat,j.toNat,m.toNat) st.w:=by simp[bc,run_sliceBound (P:=P) st.w A m cap _ (by omega) (by omega),run_sliceBound (P:=P) st.w v j m.toNat _ (by omega) (by omega),run_sliceBound (P:=P) st.w u i j.toNat _ (by omega) (by omega)]
 have U:(bc ab n cap (aa (.int u i)) (aa (.int v j)) (aa (.int A m))).events P st.w #[]=#[]:=by
  simp[bc,run_sliceBound (P:=P) st.w A m cap _ (by omega) (by omega),run_sliceBound (P:=P) st.w v j m.toNat _ (by omega) (by omega),run_sliceBound (P:=P) st.w u i j.toNat _ (by omega) (by omega),
   dF (P:=P) st.w A m cap _ (by omega) (by omega),dF (P:=P) st.w v j m.toNat _ (by omega) (by omega),dF (P:=P) st.w u i j.toNat _ (by omega) (by omega)]
 refine⟨.slice (if m.toNat=i.toNat then a else a.map (·.add (i.toNat*G.size))) (j.toNat-i.toNat) (m.toNat-i.toNat),?_,rfl,by simp[aw,h,J,C,B,F,Instr.sliceAt,f,Instr.slice,K,U]⟩;simp[aw,h,J,C,B,F,Instr.sliceAt,f,Instr.slice,K,(hT E G X).run_sizeOf]
end
section drop
variable {σ1 rest:List aP}{s:St}
def St.cut(s:St)(n:Nat):St:={s with β:=s.β.take n}
def gn.drop{v:ah}{a:A}(r:gn (σ1++rest) s v a)(d:Hc σ1.length a=ab):gn σ1 (s.cut σ1.length) v a:=by
 have lt:∀{l:Nat},bu (l+1) σ1.length=ab->l<σ1.length:=λh=>cV h;cases a with
 |c x=>exact r
 |any=>exact r
 |ptr l o =>
  have hl:=lt d;obtain⟨f,L,b,m,g⟩:=r;refine⟨λB j=>f B (by grind),L,b,?_,g⟩;simp only[St.cut,iL,hl,cj];exact m
 |ref l =>
  have hl:=lt d;obtain⟨f,L,m,g⟩:=r;refine⟨λB j=>f B (by grind),L,?_,g⟩;simp only[St.cut,iL,hl,cj];exact m
 |bp l w =>
  have hl:=lt d;obtain⟨lv,f,_,g⟩:=r;refine⟨lv,f,hl,λE k' n' es' j=>?_⟩;obtain⟨h1,h2⟩:=g E k' n' es' (by grind);refine⟨h1,λe=>?_⟩;obtain⟨L,p,i⟩:=h2 e;refine⟨L,?_,i⟩;simp only[St.cut,iL,hl,cj];exact p
 |vec l k n es =>
  have hl:=lt d;obtain⟨f,_,g⟩:=r;refine⟨f,hl,λE k' n' es' j=>?_⟩;obtain⟨h1,h2⟩:=g E k' n' es' (by grind);refine⟨h1,λe=>?_⟩;obtain⟨L,p,i⟩:=h2 e;refine⟨L,?_,i⟩;simp only[St.cut,iL,hl,cj];exact p
def dX.tn:∀{vs:List ah}{cs:List A},dX (σ1++rest) s vs cs->FF σ1.length cs=ab->dX σ1 (s.cut σ1.length) vs cs
 |[],[],_,_=>trivial
 |[],_::_,r,_=>r.elim
 |_::_,[],r,_=>r.elim
 |v::vs,c::cs,r,h=>by
  simp only[FF]at h;cases a:Hc σ1.length c with
  |false=>grind
  |true=>simp only[a]at h;exact⟨r.1.drop a,dX.tn r.2 h⟩
def m7.tn{v:ah}{e:E1}(r:m7 (σ1++rest) s v e)(h:Hd σ1.length e=ab):m7 σ1 (s.cut σ1.length) v e:=by
 cases e with
 |one a=>exact gn.drop r h
 |agg cs=>obtain⟨vs,h1,h2⟩:=r;exact⟨vs,h1,dX.tn h2 h⟩
def gZ.tn:∀{vs:List ah}{cs:List E1},gZ (σ1++rest) s vs cs->x0 σ1.length cs=ab->gZ σ1 (s.cut σ1.length) vs cs
 |[],[],_,_=>trivial
 |[],_::_,r,_=>r.elim
 |_::_,[],r,_=>r.elim
 |v::vs,c::cs,r,h=>by
  simp only[x0]at h;cases a:Hd σ1.length c with
  |false=>grind
  |true=>simp only[a]at h;exact⟨m7.tn r.1 a,gZ.tn r.2 h⟩
def dj.drop{v:ah}{d:D}(r:dj (σ1++rest) s v d)(h:vP σ1.length d=ab):dj σ1 (s.cut σ1.length) v d:=by
 cases d with
 |e x=>exact m7.tn r h
 |eX xs=>obtain⟨vs,h1,h2⟩:=r;exact⟨vs,h1,gZ.tn h2 h⟩
 |any=>trivial
def cR.drop{σ0:List aP}{s0:St}(st:cR σ0 s0 (σ1++rest) s)(c:σ0.length<=σ1.length):cR σ0 s0 σ1 (s.cut σ1.length):=by refine⟨st.size,st.fe,st.mem,st.iU,λL a b d=>st.vb L (fV a) b d,?_,st.os,st.tape,st.output,st.own⟩;intro l B L hB a;obtain⟨B',L',h1,h2,e⟩:=st.box l B L hB a;have hl:l<σ1.length:=cU (bY.1 hB).1 c;rw[jy hl]at h1;exact⟨B',L',h1,by simp only[St.cut,iL,hl,cj];exact h2,e⟩
def gn.r6{σ:List aP}{v:ah}{a:A}(hl:s.β.length=σ.length)(r:gn σ s v a):Hc σ.length a=ab:=by
 have ok:∀{l:Nat},l<σ.length->bu (l+1) σ.length=ab:=λh=>rC h;have lt:∀{l:Nat} {L:Loc},s.β[l]?=aa L->l<σ.length:=λh=>by grind
 cases a with
 |c x=>rfl
 |any=>rfl
 |ptr l o=>obtain⟨_,L,b,d,_⟩:=r;exact ok (lt d)
 |ref l=>obtain⟨_,L,d,_⟩:=r;exact ok (lt d)
 |bp l w=>obtain⟨lv,_,h,_⟩:=r;exact ok h
 |vec l k n es=>exact ok r.2.1
def dX.r6{σ:List aP}(hl:s.β.length=σ.length):∀{vs:List ah}{cs:List A},dX σ s vs cs->FF σ.length cs=ab
 |[],[],_=>rfl
 |[],_::_,r=>r.elim
 |_::_,[],r=>r.elim
 |v::vs,c::cs,r=>by simp only[FF,r.1.r6 hl];exact dX.r6 hl r.2
def m7.r6{σ:List aP}(hl:s.β.length=σ.length){v:ah}{e:E1}(r:m7 σ s v e):Hd σ.length e=ab:=by
 cases e with
 |one a=>exact gn.r6 hl r
 |agg cs=>obtain⟨vs,_,h⟩:=r;exact dX.r6 hl h
def gZ.r6{σ:List aP}(hl:s.β.length=σ.length):∀{vs:List ah}{cs:List E1},gZ σ s vs cs->x0 σ.length cs=ab
 |[],[],_=>rfl
 |[],_::_,r=>r.elim
 |_::_,[],r=>r.elim
 |v::vs,c::cs,r=>by simp only[x0,m7.r6 hl r.1];exact gZ.r6 hl r.2
def dj.r6{σ:List aP}(hl:s.β.length=σ.length){v:ah}{d:D}(r:dj σ s v d):vP σ.length d=ab:=by
 cases d with
 |e x=>exact m7.r6 hl r
 |eX xs=>obtain⟨vs,_,h⟩:=r;exact gZ.r6 hl h
 |any=>rfl
def DQ(n:Nat)(σ0:List aP)(l:Nat)(B:aP):Prop:=(∃E cs,B=.cells E cs/\FF n cs=ab)∨σ0[l]?=aa B∨(∃N φ r r',B=.loop N φ r/\σ0[l]?=aa (.loop N φ r'))∨((∀E cs,B≠.cells E cs)/\∀N φ r,B≠.loop N φ r)
def aF.PS{s0:St}{σ0:List aP}(i:aF σ0 s0)(a:σ0.length=σ1.length)(w:∀(l:Nat)(B:aP),σ1[l]?=aa B->DQ σ1.length σ0 l B)(h:aF (σ1++rest) s):aF σ1 (s.cut σ1.length):=by
 have hl:σ1.length<=s.β.length:=by rw[h.len];simp
 refine⟨h.mem,by simp[St.cut,hl],?_,?_,?_,λb j=>⟨(h.own b j).1,λL d=>(h.own b j).2 L (fV d)⟩⟩
 .intro l B L hB d;have m:l<σ1.length:=(bY.1 hB).1;simp only[St.cut,iL,m,cj]at d;have c:=h.box l B L (by grind) d;have f:∃o,s0.β[l]?=aa o:=⟨_,br (by rw[i.len,a];exact m)⟩
  obtain⟨o,f⟩:=f;have x:=i.len.trans a;cases B with
  |cells E cs =>
   obtain⟨b,vs,h1,h2,v,p⟩:=c;refine⟨b,vs,h1,h2,dX.tn v ?_,p⟩;rcases w l _ hB with⟨_,_,e,q⟩|q|⟨_,_,_,_,e,_⟩|q
   .grind
   .obtain⟨_,_,_,_,C,_⟩:=i.box l _ o q f;exact a▸C.r6 i.len
   .cases e
   grind
  |vec E k n es=>exact c
  |b8 H=>exact c
  |dead=>trivial
  |loop N φ r =>
   obtain⟨l',tmps,fn,z,h1,h2,v,p,y⟩:=c;have key:∃r',σ0[l]?=aa (.loop N φ r'):=by
    rcases w l _ hB with⟨_,_,e,_⟩|q|⟨_,_,_,r',e,q⟩|q
    .cases e
    .grind
    .grind
    grind
   obtain⟨r',q⟩:=key;obtain⟨_,_,_,_,_,_,_,A,_⟩:=i.box l _ o q f;exact⟨l',tmps,fn,z,h1,h2,v,λt=>(p t).drop (a▸(A t).r6 i.len),y⟩
  |qP=>exact c
  |buf E k n es=>exact c
 .intro l l' L L' d g b j u;simp only[St.cut,iL]at d g;split at d<;>split at g<;>first|exact h.eB l l' L L' d g b j u|grind|grind
 .intro L d b j;exact h.lt L (fV d) b j
def aF.Uv{s0:St}(a:aF σ1 s0)(h:aF (σ1++rest) s):aF σ1 (s.cut σ1.length):=a.PS rfl (λ_ _ h=>.inr (.inl h)) h
def OA.BD{P:aq}{X:Cx P}{N:Nat}{all:List au}{o:au}{φ:Fr}{σ:List aP}{E:aj}{k n:Nat}{es:Nat->List C}(h:OA X N all o φ σ (.e (.one (.vec σ.length k n es))) (σ++[.vec E k n es])):OA X N all o φ σ (.e (.one (.c (.sl af k n es)))) σ:=by
 intro s a f hh b kk cs S i rest d hi hK;refine h s a f hh b kk cs S i rest d hi λv s' hv iX st=>?_;have j:eu s' (s'.cut σ.length):=⟨rfl,λ_ _ _ h=>h,λ_ _ _=>rfl,iX.mem,λb d=>d.imp id λ⟨L,g,d⟩=>⟨L,fV g,d⟩⟩
 exact .ghost j (hK v (s'.cut σ.length) hv.1 (hh.Uv iX) (st.drop (bh _)))
end drop
end Go.AM
