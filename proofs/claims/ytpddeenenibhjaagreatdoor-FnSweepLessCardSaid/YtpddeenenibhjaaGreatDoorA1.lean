/- Part 1. No condition. -/
import Derived.Tactics2
import Derived.Conc.Own
import Derived.Conc.Events
import Derived.Conc.Listed
import Derived.Laws.CopyRow
import Derived.Laws.AppendOwn
import Derived.Laws.Rows
import Derived.Laws.Strings
import Derived.Laws.Cells
import Derived.Lib.Strings
import Derived.Laws.Slices
import Derived.Orders
import Derived.Laws.StructEq
set_option linter.all false
set_option maxHeartbeats 8000000
open Go.Conc (G)
open Go renaming Value → ai, TypeId → aw, Frame → aU, FuncId → aJ, execOp → ak, undef → ah, Operand → aC, World → aA, Program → aM, Oper → aB, Goroutine → aq, stepG → aG
open Option renaming some → aa, none → af
open Bool renaming true → ab, false → ae
open Go.Region renaming wanted → aY, ready → aX
open Go.World renaming cell? → aV
open List renaming getD_eq_getElem?_getD → aj, range → bh
open Go.Sem renaming events_bind → aK
open Go.Result renaming evThen_ok → aP
open Go.Instr renaming sliceBounds → bg
open Nat renaming beq → av, ble → bu
open Go.Op renaming bytesLess → bc
set_option linter.defProp false
set_option linter.deprecated false
namespace Go
def ar:=@_root_.trivial
def bm:=@_root_.List.getElem?_eq_getElem
def bl:=@_root_.decide_eq_true_eq
def aE:=@_root_.and_true
def aH:=@_root_.true_and
def bH:=@_root_.List.mem_of_getElem?
def b8:=@_root_.List.getElem?_eq_some_iff
def b7:=@_root_.decide_eq_false_iff_not
def bX:=@_root_.Nat.eq_of_beq_eq_true
def bL:=@_root_.Int.toNat_natCast
def aZ:=@_root_.Nat.le_refl
def br:=@_root_.Nat.zero_add
def bS:=@_root_.Bool.and_eq_true
def b9:=@_root_.Go.Result.andThen_ok
def cv:=@_root_.List.length_append
def dH:=@_root_.Array.getD_eq_getD_getElem?
def cx:=@_root_.Nat.lt_of_lt_of_le
def bO:=@_root_.Go.Sem.run_bind
def cO:=@_root_.List.take_length
def dJ:=@_root_.Nat.le_of_ble_eq_true
def eZ:=@_root_.Array.getElem?_eq_some_iff
def fx:=@_root_.List.getElem?_append_right
def dN:=@_root_.List.getElem_of_mem
def dx:=@_root_.Option.some.injEq
def a9:=@_root_.if_neg
def eu:=@_root_.Nat.mul_le_mul_right
def cA:=@_root_.Nat.lt_or_ge
def fO:=@_root_.Array.getElem?_eq_getElem
def dh:=@_root_.decide_eq_true
def e9:=@_root_.List.length_singleton
def bn:=@_root_.if_pos
def cT:=@_root_.Go.Sem.run_pure
def fQ:=@_root_.List.getElem?_set_self
def bM:=@_root_.if_false
def fy:=@_root_.beq_eq_false_iff_ne
def dK:=@_root_.List.mem_cons
def jg:=@_root_.List.eq_nil_of_length_eq_zero
def fa:=@_root_.not_true_eq_false
def fR:=@_root_.List.getElem?_take
def dO:=@_root_.Nat.le_trans
def g8:=@_root_.List.getElem?_toArray
def jh:=@_root_.List.getElem?_append_left
def fz:=@_root_.List.mem_append
def b5:=@_root_.if_true
def gJ:=@_root_.Bool.false_eq_true
def ga:=@_root_.Option.getD_some
def gb:=@_root_.List.length_cons
def gK:=@_root_.List.ext_getElem?
def fA:=@_root_.Bool.true_and
def iA:=@_root_.List.mem_cons_self
def iS:=@_root_.Array.length_toList
def gw:=@_root_.Nat.not_lt_zero
def ji:=@_root_.List.mem_of_mem_take
def ni:=@_root_.Array.getElem?_setIfInBounds_ne
def kC:=@_root_.List.getElem?_cons_zero
def jN:=@_root_.List.take_append_drop
def iT:=@_root_.List.mem_singleton
def gL:=@_root_.decide_eq_false
def iU:=@_root_.Bool.not_eq_true'
def kD:=@_root_.List.length_filter_le
def g9:=@_root_.List.mem_filter
def mm:=@_root_.List.pairwise_iff_getElem
def dA:=@_root_.congrArg
def kE:=@_root_.List.mem_cons_of_mem
def kF:=@_root_.List.getElem?_set_ne
def mn:=@_root_.Array.getElem?_replicate
def iB:=@_root_.List.foldl_cons
def jO:=@_root_.List.take_add_one
def ll:=@_root_.List.mem_iff_getElem
def jP:=@_root_.List.append_assoc
def jk:=@_root_.List.length_nil
def jQ:=@_root_.beq_self_eq_true
def nj:=@_root_.List.getElem?_cons_succ
def hI:=@_root_.Nat.add_zero
def jR:=@_root_.List.append_nil
def r8:=@_root_.List.findIdx?_eq_some_iff_getElem
def gM:=@_root_.Nat.add_mul
def uM:=@_root_.Array.getElem?_setIfInBounds_self_of_lt
def mo:=@_root_.List.pairwise_cons
def jl:=@_root_.List.map_cons
def qk:=@_root_.Array.mapM_eq_mapM_toList
def mq:=@_root_.bne_self_eq_false
def jm:=@_root_.Nat.beq_refl
def hO:=@_root_.beq_iff_eq
def nk:=@_root_.Nat.eq_zero_or_pos
def mr:=@_root_.Option.bind_some
def kG:=@_root_.Bool.not_true
def jS:=@_root_.List.mem_map
def mv:=@_root_.Option.map_some
def mx:=@_root_.List.length_map
def my:=@_root_.Bool.or_eq_true
def r9:=@_root_.List.drop_eq_getElem_cons
def oy:=@_root_.List.getElem?_drop
def nn:=@_root_.List.filter_cons
def ln:=@_root_.Prod.mk.injEq
def kH:=@_root_.Nat.succ_mul
def ql:=@_root_.Array.toArray_toList
def oz:=@_root_.not_false_eq_true
def oA:=@_root_.List.flatMap_cons
def jo:=@_root_.Nat.mod_lt
def cR:=@_root_.ne_eq
def pj:=@_root_.Option.map_eq_some_iff
def iN:=@_root_.Nat.zero_le
def lX:=@_root_.Bool.not_eq_true
def kQ:=@_root_.List.mapM_cons
def kR:=@_root_.Bool.not_false
def j3:=@_root_.Nat.sub_zero
def pn:=@_root_.Nat.div_lt_of_lt_mul
def po:=@_root_.List.pairwise_append
def nq:=@_root_.List.getElem?_map
def nt:=@_root_.List.not_mem_nil
def kS:=@_root_.decide_false
def pq:=@_root_.Nat.add_sub_cancel
def qO:=@_root_.Nat.ble_eq_true_of_le
def qP:=@_root_.List.getElem?_eq_none
def qQ:=@_root_.Bool.and_eq_false_iff
def pr:=@_root_.Nat.div_add_mod'
def qR:=@_root_.List.map_congr_left
def qS:=@_root_.List.filter_eq_self
def pt:=@_root_.UInt8.toNat_inj
def pv:=@_root_.Bool.eq_iff_iff
def qT:=@_root_.Int.emod_lt_of_pos
def qU:=@_root_.Bool.not_eq_false'
def lY:=@_root_.decide_true
def ue:=@_root_.Nat.le_mul_of_pos_right
def uf:=@_root_.Array.mem_of_getElem?
def lZ:=@_root_.Nat.not_lt
def qV:=@_root_.List.mem_flatMap
def qW:=@_root_.List.length_drop
def qX:=@_root_.List.getElem_mem
def qY:=@_root_.List.drop_length
def ug:=@_root_.List.mem_of_mem_drop
def qZ:=@_root_.Option.some.inj
def q8:=@_root_.Int.emod_nonneg
def uh:=@_root_.Nat.mul_le_mul_left
def ui:=@_root_.List.length_pos_iff
def ra:=@_root_.List.mem_range
def yO:=@_root_.List.length_eraseIdx_of_lt
def rb:=@_root_.Bool.false_and
def uj:=@_root_.List.foldl_append
def yP:=@_root_.Nat.lt_succ_iff_lt_or_eq
def yQ:=@_root_.Nat.add_sub_cancel_left
def uk:=@_root_.List.ext_getElem
def pw:=@_root_.bne_iff_ne
def yR:=@_root_.List.take_of_length_le
def yS:=@_root_.List.range_succ_eq_map
def yT:=@_root_.Array.getElem?_eq_none
def um:=@_root_.List.nil_append
def yU:=@_root_.List.contains_iff_mem
def yV:=@_root_.Array.getElem?_toList
def yW:=@_root_.Array.getElem?_modify
def yX:=@_root_.Nat.add_sub_cancel'
def yY:=@_root_.Int.toNat_of_nonneg
def rf:=@_root_.Go.Sem.run_ite
end Go
namespace Go.AM
inductive C where
  | int (k:IntKind) (n:Int)
  | bool (b:Bool)
  | str (s:List UInt8)
  | sl (tight:Bool) (k n:Nat) (es:Nat->List C)
  | rp (cs:List C)
  | oG
  | ifs (t:aw) (c:C)
  | Mh (t:aw) (cs:List C)
  | oI
  | fn (f:Fn) (first cap:List C)
  | y7
  | val (x:ai)
inductive BP where
  | sl (g k o n:Nat)
  | el (g k i f:Nat)
def BP.g:BP->Nat
  | .sl g _ _ _=>g
  | .el g _ _ _=>g
def BP.K:BP->ai->ai->Prop
  | .sl _ k o n,lv,v=>∃a a0 cap c0,v=.slice a n cap/\n<=cap/\o+cap=c0/\c0<=9223372036854775807/\lv=.slice a0 0 c0/\(0<cap->∃b,a0=aa ⟨b,0,af⟩/\a=aa ⟨b,o*k,af⟩)
  | .el _ k i f,lv,v=>∃b c0,lv=.slice (aa ⟨b,0,af⟩) 0 c0/\v=.pointer (aa ⟨b,i*k+f,af⟩)
inductive A where
  | c (x:C)
  | ptr (l off:Nat)
  | vec (l k n:Nat) (es:Nat->List C)
  | ref (l:Nat)
  | bp (l:Nat) (w:BP)
  | any
abbrev A.v(x:ai):A:=.c (.val x)
inductive E1 where
  | one (a:A)
  | agg (cs:List A)
inductive D where
  | e (x:E1)
  | fw (xs:List E1)
  | any
abbrev Fr:=List (Nat×D)
def look:Fr->Nat->D
  | [],_=>.any
  | (i,d)::r,t=>cond (av i t) d (look r t)
inductive bd where
  | cells (E:aw) (cs:List A)
  | vec (E:aw) (k n:Nat) (es:Nat->List C)
  | cf (H:ai->(Nat->Option Obj)->Prop)
  | dead
  | loop (N:Nat) (φ:Fr) (r:Loop)
  | qp
  | buf (E:aw) (k n:Nat) (es:Nat->List C)
@[simp] def bd.gr:bd->Bool
  | .vec _ _ _ _=>ab
  | .buf _ _ _ _=>ab
  | _=>ae
structure Loc where
  v:ai
  bs:List Nat
abbrev Mem:=Nat->Nat->Option ai
structure St where
  β:List Loc
  M:Mem
  w:aA
  own:Nat->Prop
def bw:IntKind->Int->Prop
  | .i8,n=>-128<=n/\n<=127
  | .i16,n=>-32768<=n/\n<=32767
  | .i32,n=>-2147483648<=n/\n<=2147483647
  | .i64,n=>-9223372036854775808<=n/\n<=9223372036854775807
  | .u8,n=>0<=n/\n<=255
  | .u16,n=>0<=n/\n<=65535
  | .u32,n=>0<=n/\n<=4294967295
  | .u64,n=>0<=n/\n<=18446744073709551615
def cW:ai->Bool
  | .agg _|.tuple _=>ae
  | _=>ab
def BP.K.cell{w:BP}{lv v:ai}(h:w.K lv v):cW v=ab:=by
  cases w with
  | sl=>obtain⟨_,_,_,_,rfl,_⟩:=h;rfl
  | el=>obtain⟨_,_,_,rfl⟩:=h;rfl
inductive Rd (M:Mem):ai->C->Prop
  | int {k:IntKind} {n:Int} (h:bw k n):Rd M (.int k n) (.int k n)
  | bool {b:Bool}:Rd M (.bool b) (.bool b)
  | str {s:ByteArray} {l:List UInt8} (h:s.data.toList=l) (hl:l.length<=9223372036854775807):Rd M (.string s) (.str l)
  | sl {a:Option Addr} {n cap:Nat} {tight:Bool} {k:Nat} {es:Nat->List C} (b off:Nat) (f:Nat->Nat->ai)
      (F1:n<=cap) (hb:cap<=9223372036854775807) (ht:tight=ab->cap=n) (hk:∀i,i<n->(es i).length=k)
      (ha:0<n->a=aa ⟨b,off,af⟩)
      (hm:∀i,i<n->∀j c,(es i)[j]?=aa c->M b (off+i*k+j)=aa (f i j))
      (hr:∀i,i<n->∀j c,(es i)[j]?=aa c->Rd M (f i j) c):Rd M (.slice a n cap) (.sl tight k n es)
  | rp {cs:List C} (b off:Nat) (f:Nat->ai)
      (hm:∀j c,cs[j]?=aa c->M b (off+j)=aa (f j))
      (hr:∀j c,cs[j]?=aa c->Rd M (f j) c):Rd M (.pointer (aa ⟨b,off,af⟩)) (.rp cs)
  | oG:Rd M (.pointer af) .oG
  | ifs {t:aw} {v:ai} {c:C} (h:Rd M v c) (hc:cW v=ab):Rd M (.iface t v) (.ifs t c)
  | Mh {t:aw} {vs:List ai} {cs:List C} (hl:vs.length=cs.length)
      (f:Nat->ai) (hf:∀j,j<vs.length->vs[j]?=aa (f j)) (hr:∀j c,cs[j]?=aa c->Rd M (f j) c):Rd M (.iface t (.agg vs.toArray)) (.Mh t cs)
  | oI:Rd M .nilIface .oI
  | fn {g:Fn} {first cap:List C} (fs cs:List ai) (hl:fs.length=first.length) (CG:cs.length=cap.length) (f1 f2:Nat->ai)
      (h1:∀j,j<fs.length->fs[j]?=aa (f1 j)) (h2:∀j,j<cs.length->cs[j]?=aa (f2 j))
      (r1:∀j c,first[j]?=aa c->Rd M (f1 j) c) (r2:∀j c,cap[j]?=aa c->Rd M (f2 j) c):Rd M (.func g fs.toArray cs.toArray) (.fn g first cap)
  | y7:Rd M .nilFunc .y7
  | val {x:ai} (h:cW x=ab):Rd M x (.val x)
theorem Rd.fj{M:Mem}{v x:ai}(h:Rd M v (.val x)):v=x:=by cases h;rfl
def Rd.cell{M:Mem}{v:ai}{c:C}(h:Rd M v c):cW v=ab:=by cases h<;>first|rfl|assumption
def Rd.mono{M M':Mem}(d:∀b o v,M b o=aa v->M' b o=aa v){v:ai}{c:C}(h:Rd M v c):Rd M' v c:=by
  induction h with
  | int h=>exact .int h
  | bool=>exact .bool
  | str h hl=>exact .str h hl
  | sl b off f a hb ht hk ha hm hr ih =>
    exact .sl b off f a hb ht hk ha (λi hi j c hj=>d _ _ _ (hm i hi j c hj)) (λi hi j c hj=>ih i hi j c hj)
  | rp b off f hm hr ih=>exact .rp b off f (λj c hj=>d _ _ _ (hm j c hj)) (λj c hj=>ih j c hj)
  | oG=>exact .oG
  | ifs h g ih=>exact .ifs ih g
  | Mh hl f e hr ih=>exact .Mh hl f e (λj c hj=>ih j c hj)
  | oI=>exact .oI
  | fn fs cs hl CG f1 f2 h1 h2 r1 r2 ZV ZW=>exact .fn fs cs hl CG f1 f2 h1 h2 (λj c hj=>ZV j c hj) (λj c hj=>ZW j c hj)
  | y7=>exact .y7
  | val h=>exact .val h
def gd(σ:List bd)(s:St)(v:ai):A->Prop
  | .c x=>Rd s.M v x
  | .ptr l off=>(∀B,σ[l]?=aa B->B.gr=ae)/\∃L b,s.β[l]?=aa L/\L.v=.pointer (aa ⟨b,0,af⟩)/\v=.pointer (aa ⟨b,off,af⟩)
  | .vec l k n es=>Rd s.M v (.sl ae k n es)/\l<σ.length/\∀E k' n' es',σ[l]?=aa (bd.vec E k' n' es')->n<=n'/\(n'=n->∃L,s.β[l]?=aa L/\v=L.v)
  | .ref l=>(∀B,σ[l]?=aa B->B.gr=ae)/\∃L,s.β[l]?=aa L/\v=L.v/\cW v=ab
  | .bp l w=>∃a,w.K a v/\l<σ.length/\∀E k n es,σ[l]?=aa (bd.buf E k n es)->w.g<=n/\(w.g=n->∃L,s.β[l]?=aa L/\L.v=a)
  | .any=>cW v=ab
def dZ(σ:List bd)(s:St):List ai->List A->Prop
  | [],[]=>True
  | v::vs,a::al=>gd σ s v a/\dZ σ s vs al
  | _,_=>False
def nh(σ:List bd)(s:St)(v:ai):E1->Prop
  | .one a=>gd σ s v a
  | .agg cs=>∃vs:List ai,v=.agg vs.toArray/\dZ σ s vs cs
def gC(σ:List bd)(s:St):List ai->List E1->Prop
  | [],[]=>True
  | v::vs,a::al=>nh σ s v a/\gC σ s vs al
  | _,_=>False
def dk(σ:List bd)(s:St)(v:ai):D->Prop
  | .e x=>nh σ s v x
  | .fw xs=>∃vs:List ai,v=.tuple vs.toArray/\gC σ s vs xs
  | .any=>True
def cg(σ:List bd)(s:St):List ai->List D->Prop
  | [],[]=>True
  | v::vs,a::al=>dk σ s v a/\cg σ s vs al
  | _,_=>False
structure Flat(M:Mem)(k n:Nat)(es:Nat->List C)(vs:List ai):Prop where
  len:vs.length=n*k
  width:∀i,i<n->(es i).length=k
  rd:∀i,i<n->∀(j:Nat) (c:C),(es i)[j]?=aa c->∃v,vs[i*k+j]?=aa v/\Rd M v c
def Flat.mono{M M':Mem}(a:∀b o v,M b o=aa v->M' b o=aa v){k n:Nat}{es:Nat->List C}{vs:List ai}(h:Flat M k n es vs):Flat M' k n es vs :=
  ⟨h.len,h.width,λi hi j c hj=>let ⟨v,h1,h2⟩:=h.rd i hi j c hj;⟨v,h1,h2.mono a⟩⟩
def eH(σ:List bd)(s:St):bd->Loc->Prop
  | .cells E cs,L=>∃b vs,L=⟨.pointer (aa ⟨b,0,af⟩),[b]⟩/\s.w.heap[b]?=aa (.cells (List.toArray vs) E (0,0))/\dZ σ s vs cs/\∀o,s.M b o=af
  | .vec E k n es,L=>Rd s.M L.v (.sl ae k n es) /\
      (((L.bs=[]/\n=0)/\Rd s.M L.v (.sl ab k n es)) ∨
       ∃b cap vs,L=⟨.slice (aa ⟨b,0,af⟩) n cap,[b]⟩/\s.w.heap[b]?=aa (.cells (List.toArray vs) E (0,0))/\vs.length=cap*k/\∀o,n*k<=o->s.M b o=af)
  | .cf H,L=>∃c,H L.v c/\(∀(b:Nat) (o:Obj),c b=aa o->s.w.heap[b]?=aa o)/\(∀b,b∈L.bs↔(c b).isSome=ab)/\∀b∈L.bs,∀o,s.M b o=af
  | .dead,_=>True
  | .loop N φ r,L=>∃l tmps fn df,L=⟨.func (.yield l) #[] #[],[l]⟩/\s.w.heap[l]?=aa (.loop {r with tmps:=tmps,fn:=fn,defers:=df})/\tmps.size=N/\(∀t,dk σ s (tmps.getD t ah) (look φ t))/\∀o,s.M l o=af
  | .qp,L=>∃r:Nat,L=⟨.int .i64 r,[r]⟩/\s.w.heap[r]?=aa (.deferred (aa []))/\∀o,s.M r o=af
  | .buf E k n es,L=>(n=0/\L=⟨.slice af 0 0,[]⟩)∨∃b a vs zs,L=⟨.slice (aa ⟨b,0,af⟩) 0 a,[b]⟩/\s.w.heap[b]?=aa (.cells (List.toArray (vs++zs)) E (0,0))/\(vs++zs).length=a*k/\n<=a/\a<=9223372036854775807/\Flat s.M k n es vs/\∀o,s.M b o=af
structure aD(σ:List bd)(s:St):Prop where
  mem:∀b o v,s.M b o=aa v->s.w.cell? ⟨b,o,af⟩=aa v
  len:s.β.length=σ.length
  box:∀(l:Nat) (B:bd) (L:Loc),σ[l]?=aa B->s.β[l]?=aa L->eH σ s B L
  eU:∀(l l':Nat) (L L':Loc),s.β[l]?=aa L->s.β[l']?=aa L'->∀b∈L.bs,b∈L'.bs->l=l'
  lt:∀L∈s.β,∀b∈L.bs,b<s.w.heap.size
  own:∀b,s.own b->b<s.w.heap.size/\∀L∈s.β,b∉L.bs
def hU:bd->Loc->bd->Loc->Prop
  | .vec _ _ n _,L,.vec _ _ a _,L'=>(a=n->L'.v=L.v)/\n<=a
  | .vec _ _ _ _,_,.dead,_=>True
  | .vec _ _ _ _,_,_,_=>False
  | .buf _ _ n _,L,.buf _ _ a _,L'=>(a=n->L'.v=L.v)/\n<=a
  | .buf _ _ _ _,_,.dead,_=>True
  | .buf _ _ _ _,_,_,_=>False
  | _,_,.vec _ _ _ _,_=>False
  | _,_,.buf _ _ _ _,_=>False
  | .dead,L,.dead,L'=>L'.v=L.v
  | .dead,_,_,_=>False
  | .qp,L,.qp,L'=>L'.v=L.v
  | .qp,_,_,_=>False
  | _,_,.qp,_=>False
  | _,L,_,L'=>L'.v=L.v
structure Ext(σ:List bd)(s:St)(σ':List bd)(s':St):Prop where
  mem:∀b o v,s.M b o=aa v->s'.M b o=aa v
  box:∀(l:Nat) (B:bd) (L:Loc),σ[l]?=aa B->s.β[l]?=aa L->∃B' L',σ'[l]?=aa B'/\s'.β[l]?=aa L'/\hU B L B' L'
structure Step(σ:List bd)(s:St)(σ':List bd)(s':St):Prop where
  size:s.w.heap.size<=s'.w.heap.size
  keep:∀b,b<s.w.heap.size->(∀L∈s.β,b∉L.bs)->s'.w.heap[b]?=s.w.heap[b]?
  mem:∀b o v,s.M b o=aa v->s'.M b o=aa v
  iI:∀b,b<s.w.heap.size->(∀L∈s.β,b∉L.bs)->∀o,s'.M b o=s.M b o
  ur:∀L'∈s'.β,∀b∈L'.bs,s.w.heap.size<=b∨∃L∈s.β,b∈L.bs
  box:∀(l:Nat) (B:bd) (L:Loc),σ[l]?=aa B->s.β[l]?=aa L->∃B' L',σ'[l]?=aa B'/\s'.β[l]?=aa L'/\hU B L B' L'
  os:s'.w.os=s.w.os
  tape:s'.w.tape=s.w.tape
  output:s'.w.output=s.w.output
  own:s'.own=s.own
structure cN(σ:List bd)(s:St)(σ':List bd)(s':St):Prop where
  size:s.w.heap.size<=s'.w.heap.size
  keep:∀b,s.own b->s'.w.heap[b]?=s.w.heap[b]?
  mem:∀b o v,s.M b o=aa v->s'.M b o=aa v
  iI:∀b,b<s.w.heap.size->(∀L∈s.β,b∉L.bs)->∀o,s'.M b o=s.M b o
  ur:∀L'∈s'.β,∀b∈L'.bs,s.w.heap.size<=b∨∃L∈s.β,b∈L.bs
  box:∀(l:Nat) (B:bd) (L:Loc),σ[l]?=aa B->s.β[l]?=aa L->∃B' L',σ'[l]?=aa B'/\s'.β[l]?=aa L'/\hU B L B' L'
  os:s'.w.os=s.w.os
  tape:s'.w.tape=s.w.tape
  output:s'.w.output=s.w.output
  own:s'.own=s.own
structure bU(s s':St):Prop where
  β:s'.β=s.β
  M:s'.M=s.M
  own:s'.own=s.own
  size:s.w.heap.size<=s'.w.heap.size
  keep:∀b,(s.own b∨∃L∈s.β,b∈L.bs)->s'.w.heap[b]?=s.w.heap[b]?
  mem:∀b o v,s.M b o=aa v->s'.w.cell? ⟨b,o,af⟩=aa v
  os:s'.w.os=s.w.os
  tape:s'.w.tape=s.w.tape
  output:s'.w.output=s.w.output
def oh(s:St)(e:Event):Prop :=
  match e.loc with
  | .cell a=>e.sync=ae/\a.spot=af/\(False∨((∃L∈s.β,a.block∈L.bs)/\(e.write=ab->s.M a.block a.off=af))∨(e.write=ae/\∃v,s.M a.block a.off=aa v))
  | .obj r=>e.sync=ae/\(False∨∃L∈s.β,r∈L.bs)
  | .mark m=>m=.noRoom∨∃f,m=.extern f
  | _=>False
def ey(s:St)(es:Array Event):Prop:=∀e∈es,oh s e
def ey.nil{s:St}:ey s #[]:=by intro e h;grind
def hU.refl(B:bd)(L:Loc):hU B L B L:=by cases B<;>simp[hU]
def hU.trans{B B' VV:bd}{L L' X1:Loc}(h:hU B L B' L')(a:hU B' L' VV X1):hU B L VV X1:=by
  cases B<;>cases B'<;>cases VV<;>simp_all[hU]
  all_goals
    grind
def Step.refl(σ:List bd)(s:St):Step σ s σ s :=
  ⟨aZ _,λ_ _ _=>rfl,λ_ _ _ h=>h,λ_ _ _ _=>rfl,λL h b hb=>.inr ⟨L,h,hb⟩,λ_ B L h a=>⟨B,L,h,a,.refl _ _⟩,rfl,rfl,rfl,rfl⟩
def Step.trans{σ σ1 σ2:List bd}{s d s2:St}(h:Step σ s σ1 d)(k:Step σ1 d σ2 s2):Step σ s σ2 s2:=by
  have out:∀b,b<s.w.heap.size->(∀L∈s.β,b∉L.bs)->∀L∈d.β,b∉L.bs:=by
    intro b hb hn L a c;rcases h.ur L a b c with h1|⟨u,i,m⟩
    · omega
    grind
  refine⟨dO h.size k.size,?_,λb o v n=>k.mem _ _ _ (h.mem _ _ _ n),?_,?_,?_,k.os.trans h.os,k.tape.trans h.tape,k.output.trans h.output,k.own.trans h.own⟩
  · intro b hb hn
    rw[k.keep b (cx hb h.size) (out b hb hn),h.keep b hb hn]
  · intro b hb hn o
    rw[k.iI b (cx hb h.size) (out b hb hn),h.iI b hb hn]
  · intro L a b hb
    rcases k.ur L a b hb with h1|⟨L1,j,r⟩
    · exact .inl (dO h.size h1)
    grind
  · intro l B L t a
    obtain⟨B1,L1,h1,h2,f⟩:=h.box l B L t a;obtain⟨p,q,k1,e,g⟩:=k.box l B1 L1 h1 h2;exact⟨p,q,k1,e,f.trans g⟩
def cN.refl(σ:List bd)(s:St):cN σ s σ s :=
  ⟨aZ _,λ_ _=>rfl,λ_ _ _ h=>h,λ_ _ _ _=>rfl,λL h b hb=>.inr ⟨L,h,hb⟩,λ_ B L h a=>⟨B,L,h,a,.refl _ _⟩,rfl,rfl,rfl,rfl⟩
def cN.trans{σ σ1 σ2:List bd}{s d s2:St}(h:cN σ s σ1 d)(k:cN σ1 d σ2 s2):cN σ s σ2 s2:=by
  have out:∀b,b<s.w.heap.size->(∀L∈s.β,b∉L.bs)->∀L∈d.β,b∉L.bs:=by
    intro b hb hn L a c;rcases h.ur L a b c with h1|⟨u,i,m⟩
    · omega
    grind
  refine⟨dO h.size k.size,?_,λb o v n=>k.mem _ _ _ (h.mem _ _ _ n),?_,?_,?_,k.os.trans h.os,k.tape.trans h.tape,k.output.trans h.output,k.own.trans h.own⟩
  · intro b hb
    rw[k.keep b (by rw[h.own];exact hb),h.keep b hb]
  · intro b hb hn o
    rw[k.iI b (cx hb h.size) (out b hb hn),h.iI b hb hn]
  · intro L a b hb
    rcases k.ur L a b hb with h1|⟨L1,j,r⟩
    · exact .inl (dO h.size h1)
    grind
  · intro l B L t a
    obtain⟨B1,L1,h1,h2,f⟩:=h.box l B L t a;obtain⟨p,q,k1,e,g⟩:=k.box l B1 L1 h1 h2;exact⟨p,q,k1,e,f.trans g⟩
def Step.n3{σ σ':List bd}{s s':St}(hh:aD σ s)(h:Step σ s σ' s'):cN σ s σ' s' :=
  ⟨h.size,λb hb=>h.keep b (hh.own b hb).1 (hh.own b hb).2,h.mem,h.iI,h.ur,h.box,h.os,h.tape,h.output,h.own⟩
def cN.ext{σ σ':List bd}{s s':St}(h:cN σ s σ' s'):Ext σ s σ' s':=⟨h.mem,h.box⟩
def bU.refl{σ:List bd}{s:St}(hh:aD σ s):bU s s:=⟨rfl,rfl,rfl,aZ _,λ_ _=>rfl,hh.mem,rfl,rfl,rfl⟩
def bU.stepW{σ:List bd}{s s':St}(h:bU s s'):cN σ s σ s' :=
  ⟨h.size,λb hb=>h.keep b (.inl hb),λb o v c=>by rw[h.M];exact c,λ_ _ _ _=>by rw[h.M],λL a b hb=>.inr ⟨L,by rw[<-h.β];exact a,hb⟩,
    λl B L d a=>⟨B,L,d,by rw[h.β];exact a,.refl _ _⟩,h.os,h.tape,h.output,h.own⟩
def Step.ext{σ σ':List bd}{s s':St}(h:Step σ s σ' s'):Ext σ s σ' s':=⟨h.mem,h.box⟩
section mono
variable {σ σ':List bd}{s s':St}
def Ext.LZ(h:Ext σ s σ' s'){l:Nat}{L:Loc}(b:s.β[l]?=aa L)(hl:s.β.length=σ.length)(c:∀B,σ[l]?=aa B->B.gr=ae):
    (∀B,σ'[l]?=aa B->B.gr=ae)/\∃L',s'.β[l]?=aa L'/\L'.v=L.v:=by
  have a:l<σ.length:=by grind
  obtain⟨B',L',k1,e,f⟩:=h.box l (σ[l]) L (bm a) b;have d:=c _ (bm a);generalize σ[l]=B at *;rw[k1];cases B<;>cases B'<;>simp_all[hU,bd.gr]
def gd.mono(h:Ext σ s σ' s')(hl:s.β.length=σ.length){v:ai}{a:A}(r:gd σ s v a):gd σ' s' v a:=by
  cases a with
  | c x=>exact Rd.mono h.mem r
  | any=>exact r
  | ptr l off =>
    obtain⟨m,L,b,h1,h2,j⟩:=r;obtain⟨g,L',k1,i⟩:=h.LZ h1 hl m;exact⟨g,L',b,k1,by grind,j⟩
  | vec l k n es =>
    obtain⟨o,d,q⟩:=r;obtain⟨B',L',k1,i,f⟩:=h.box l (σ[l]) (s.β[l]'(by omega)) (bm d) (bm (by omega));have e:l<σ'.length:=(b8.1 k1).1;refine⟨Rd.mono h.mem o,e,λE k' g es' he=>?_⟩;rw[he]at k1;cases k1;have t:=bm d;generalize σ[l]=B at *;cases B with
    | vec E0 k0 n0 X2 =>
      obtain⟨p,q2⟩:=f;grind
    | _=>simp[hU]at f
  | ref l =>
    obtain⟨m,L,h1,h2,j⟩:=r;obtain⟨g,L',k1,i⟩:=h.LZ h1 hl m;exact⟨g,L',k1,by grind,j⟩
  | bp l w =>
    obtain⟨lv,o,d,q⟩:=r;obtain⟨B',L',k1,i,f⟩:=h.box l (σ[l]) (s.β[l]'(by omega)) (bm d) (bm (by omega));have e:l<σ'.length:=(b8.1 k1).1;refine⟨lv,o,e,λE k' g es' he=>?_⟩;rw[he]at k1;cases k1;have t:=bm d;generalize σ[l]=B at *;cases B with
    | buf E0 k0 n0 X2 =>
      obtain⟨p,q2⟩:=f;grind
    | _=>simp[hU]at f
def dZ.mono(h:Ext σ s σ' s')(hl:s.β.length=σ.length){vs:List ai}{cs:List A}(r:dZ σ s vs cs):dZ σ' s' vs cs:=by
  induction vs generalizing cs with
  | nil=>cases cs<;>simp_all[dZ]
  | cons v vs ih =>
    cases cs with
    | nil=>simp[dZ]at r
    | cons a cs=>exact⟨r.1.mono h hl,ih r.2⟩
def nh.mono(h:Ext σ s σ' s')(hl:s.β.length=σ.length){v:ai}{x:E1}(r:nh σ s v x):nh σ' s' v x:=by
  cases x with
  | one a=>exact gd.mono h hl r
  | agg cs=>obtain⟨vs,h1,h2⟩:=r;exact⟨vs,h1,h2.mono h hl⟩
def gC.mono(h:Ext σ s σ' s')(hl:s.β.length=σ.length){vs:List ai}{xs:List E1}(r:gC σ s vs xs):gC σ' s' vs xs:=by
  induction vs generalizing xs with
  | nil=>cases xs<;>simp_all[gC]
  | cons v vs ih =>
    cases xs with
    | nil=>simp[gC]at r
    | cons a cs=>exact⟨r.1.mono h hl,ih r.2⟩
def dk.mono(h:Ext σ s σ' s')(hl:s.β.length=σ.length){v:ai}{d:D}(r:dk σ s v d):dk σ' s' v d:=by
  cases d with
  | e x=>exact nh.mono h hl r
  | fw xs=>obtain⟨vs,h1,h2⟩:=r;exact⟨vs,h1,h2.mono h hl⟩
  | any=>trivial
def cg.mono(h:Ext σ s σ' s')(hl:s.β.length=σ.length){vs:List ai}{xs:List D}(r:cg σ s vs xs):cg σ' s' vs xs:=by
  induction vs generalizing xs with
  | nil=>cases xs<;>simp_all[cg]
  | cons v vs ih =>
    cases xs with
    | nil=>simp[cg]at r
    | cons a cs=>exact⟨r.1.mono h hl,ih r.2⟩
end mono
def om(σ:List bd)(s:St):List Deferred->List Nat->Prop
  | [],[]=>True
  | d::ds,l::ls=>(σ[l]?=aa .qp/\∃(L:Loc) (r:Nat),s.β[l]?=aa L/\L.v=.int .i64 r/\d={target:=.collected r,args:=#[]})/\l∉ls/\om σ s ds ls
  | _,_=>False
def om.mono{σ σ':List bd}{s s':St}(h:Ext σ s σ' s'):∀{ds:List Deferred} {ls:List Nat},om σ s ds ls->om σ' s' ds ls
  | [],[],_=>trivial
  | [],_::_,r=>r.elim
  | _::_,[],r=>r.elim
  | d::ds,l::ls,⟨⟨h1,L,r,h2,g,c⟩,f,e⟩=>by
    obtain⟨B',L',k1,a,b⟩:=h.box l _ L h1 h2;cases B'<;>simp[hU]at b
    exact⟨⟨k1,L',r,a,by grind,c⟩,f,om.mono h e⟩
def mP:List bd->Bool
  | []=>ab
  | .qp::_=>ae
  | _::r=>mP r
def mQ:∀{l:List bd},mP l=ab->∀B∈l,B≠.qp
  | [],_,B,a=>by grind
  | b::r,h,B,a=>by
    have c:b≠.qp/\mP r=ab:=by cases b<;>simp_all[mP]
    rcases dK.1 a with rfl|a
    · exact c.1
    · exact mQ c.2 B a
theorem gE{s:St}{r:Nat}{wr:Bool}{L:Loc}(b:L∈s.β)(a:r∈L.bs):oh s ⟨.obj r,wr,ae⟩:=⟨rfl,.inr ⟨L,b,a⟩⟩
def ey.one{s:St}{e:Event}(h:oh s e):ey s #[e]:=by intro x a;grind
def ey.two{s:St}{e a:Event}(h:oh s e)(b:oh s a):ey s #[e,a]:=by intro x c;grind
variable {n k l b i j:Nat}{E:aw}{H:ai->(Nat->Option Obj)->Prop}{L:Array Bool}{M:Mem}{N:Nat}{P:aM}{S:aq->St->Prop}{c:Code}{g:aq}{o:aB}{s:St}{t:aw}{v:ai}{w:aA}{x y:aC}{α:Type}{η:aC->D}{ι:Type}{σ:List bd}{φ:Fr}{all:List aB}{jJ:Array aw}{cap:List C}{cm:List D}{cs:List aU}{ds:List (Nat×Bool)}{es:Nat->List C}{fo:aC}{gs:Array aq}{obs:List Prop}{off:Nat}{op:BinOp}{ops:Array aB}{ps:List Prop}{rest:List aB}{s':St}{ty:aw}{val:Nat->Nat->ai}{vs:List ai}{w':aA}{xs:Array aC}{σ' σs:List bd}{res:ι->D}{σ1:ι->List bd}
section
open Go.Conc (G listed)
def qn(s s':St)(es:Array Event):Prop:=(∃σ σ',aD σ s/\aD σ' s'/\Step σ s σ' s')/\ey s es
structure Cx(P:aM) where
 main:Bool
 rely:St->St->Prop
 uO:aq->St->(aq->St->Prop)->Prop
 hZ:∀{s s'},rely s s'->bU s s'
 AN:Prop
class Cx.ic {P:aM} (X:Cx P):Prop where
 ok:X.AN
structure eK(s s':St):Prop where
 w:s'.w=s.w
 mem:∀b o v,s.M b o=aa v->s'.M b o=aa v
 iI:∀b,(∀L∈s.β,b∉L.bs)->∀o,s'.M b o=s.M b o
 cell:∀b o v,s'.M b o=aa v->s.w.cell? ⟨b,o,af⟩=aa v
 blk:∀b,(s'.own b∨∃L∈s'.β,b∈L.bs)->s.own b∨∃L∈s.β,b∈L.bs
structure mz(s s':St):Prop where
 w:s'.w=s.w
 β:s'.β=s.β
 own:s'.own=s.own
 less:∀b o v,s'.M b o=aa v->s.M b o=aa v
 mem:∀b o v,s.M b o=aa v->s'.M b o=aa v∨s.own b
inductive fu {P:aM} (X:Cx P) (S:aq->St->Prop):aq->St->Prop
 |stop {g:aq} {s:St}:S g s->fu X S g s
 |step {g:aq} {s:St} (ng:St->aq) (ns:St->St) (ne:St->Array Event):g.status=.running ->
   (∀s1,X.rely s s1->aG P X.main g s1.w=.go (ng s1) (ns s1).w (ne s1))->(∀s1,X.rely s s1->qn s1 (ns s1) (ne s1))->(∀s1,X.rely s s1->fu X S (ng s1) (ns s1))->fu X S g s
 |ghost {g:aq} {s s':St}:eK s s'->fu X S g s'->fu X S g s
 |forget {g:aq} {s s':St}:X.AN->mz s s'->fu X S g s'->fu X S g s
 |uO {g:aq} {s:St} {T:aq->St->Prop}:X.uO g s T->(∀g' s',T g' s'->fu X S g' s')->fu X S g s
section
variable {X:Cx P}
def fu.next(f:g.status=.running)(h:∀c,X.rely s c->∃g' s' es,aG P X.main g c.w=.go g' s'.w es/\qn c s' es/\fu X S g' s'):fu X S g s:=by
 classical
 have hh:∀c,∃r:aq×St×Array Event,X.rely s c->aG P X.main g c.w=.go r.1 r.2.1.w r.2.2/\qn c r.2.1 r.2.2/\fu X S r.1 r.2.1:=by
  intro c;by_cases e:X.rely s c
  .obtain⟨g',s',es,h1⟩:=h c e;exact⟨(g',s',es),λ_=>h1⟩
  .exact⟨(g,c,#[]),λd=>absurd d e⟩
 refine .step (λc=>(Classical.choose (hh c)).1) (λc=>(Classical.choose (hh c)).2.1) (λc=>(Classical.choose (hh c)).2.2) f ?_ ?_ ?_
 .grind
 .grind
 grind
theorem eK.of(hh:aD σ s)(c:aD σ' s')(f:s'.w=s.w)(st:cN σ s σ' s'):eK s s':=by
 have i:∀b o v,s'.M b o=aa v->s.w.cell? ⟨b,o,af⟩=aa v:=λb o v h=>by rw[<-f];exact c.mem b o v h
 have d:∀b o v,s.w.cell? ⟨b,o,af⟩=aa v->b<s.w.heap.size:=by
  intro b o v h;rcases cA b s.w.heap.size with h1|h1
  .exact h1
  .simp[aV,yT h1]at h
 refine⟨f,st.mem,λb hb o=>?_,i,λb hb=>?_⟩
 .rcases cA b s.w.heap.size with h1|h1
  .exact st.iI b h1 hb o
  .cases h2:s'.M b o with
   |some v=>grind
   |none=>cases g:s.M b o with
    |none=>rfl
    |some v=>have:=d _ _ _ (hh.mem _ _ _ g);omega
 .rcases hb with hb|⟨L,e,hb⟩
  .exact .inl (by rw[<-st.own];exact hb)
  .rcases st.ur L e b hb with h1|h1
   .have:=c.lt L e b hb;grind
   grind
def aD.rely(hh:aD σ s)(h:bU s s'):aD σ s':=by
 have ex:Ext σ s σ s':=h.stepW.ext;have z:∀v a,gd σ s v a->gd σ s' v a:=λv a r=>r.mono ex hh.len;refine⟨λb o v hm=>h.mem b o v (by rw[<-h.M];exact hm),by rw[h.β];exact hh.len,?_,by rw[h.β];exact hh.eU,?_,?_⟩
 .intro l B L p e;rw[h.β]at e;have hb:=hh.box l B L p e;have y:∀b∈L.bs,s'.w.heap[b]?=s.w.heap[b]?:=λb hb=>h.keep b (.inr ⟨L,bH e,hb⟩);cases B with
  |cells E cs =>
   obtain⟨b,vs,h1,h2,c,d⟩:=hb;subst h1;exact⟨b,vs,rfl,by grind,c.mono ex hh.len,λo=>by rw[h.M,d]⟩
  |vec E k n es =>
   obtain⟨h1,h2⟩:=hb;refine⟨by rw[h.M];exact h1,?_⟩;rcases h2 with⟨h2,c⟩|⟨b,cap,vs,h2,c,d,f⟩
   .exact .inl ⟨h2,by rw[h.M];exact c⟩
   .subst h2;exact .inr ⟨b,cap,vs,rfl,by grind,d,λo ho=>by rw[h.M,f o ho]⟩
  |cf H =>
   obtain⟨ch,h1,h2,c,d⟩:=hb;refine⟨ch,h1,λb o x=>?_,c,λb g o=>by rw[h.M,d b g]⟩;grind
  |dead=>trivial
  |loop N φ r =>
   obtain⟨l,tmps,fn,j,h1,h2,c,d,f⟩:=hb;subst h1;exact⟨l,tmps,fn,j,rfl,by grind,c,λt=>(d t).mono ex hh.len,λo=>by rw[h.M,f]⟩
  |qp =>
   obtain⟨r,h1,h2,c⟩:=hb;subst h1;exact⟨r,rfl,by grind,λo=>by rw[h.M,c]⟩
  |buf E k n es =>
   rcases hb with hb|⟨b,u,vs,q,h1,h2,c,d,f,m,i⟩
   .exact .inl hb
   .subst h1;exact .inr ⟨b,u,vs,q,rfl,by grind,c,d,f,by rw[h.M];exact m,λo=>by rw[h.M,i]⟩
 .intro L e b hb;rw[h.β]at e;exact cx (hh.lt L e b hb) h.size
 .intro b hb;rw[h.own]at hb;rw[h.β];exact⟨cx (hh.own b hb).1 h.size,(hh.own b hb).2⟩
def qn.quiet(hh:aD σ s):qn s s #[]:=⟨⟨σ,σ,hh,hh,.refl _ _⟩,.nil⟩
def _root_.Go.Frame.aT(b:aU)(a:Act)(todo:List Item):aU:={b with tmps:=a.tmps,todo:=todo,defers:=a.defers++b.defers,mode:=.run}
variable {b:aU}{a:Act}{k:List Item}{main:Bool}
def Ew(b:aU)(a:Act)(c:List Item):(b.aT a c).eval=a.eval:=by funext x;cases x<;>rfl
def Ex:aG P main (G (b.aT a (.code .skip::k)) cs) w=.go (G (b.aT a k) cs) w:=by simp[G,aG,stepG.exec,Frame.aT]
def qq{id:Nat}:aG P main (G (b.aT a (.inBlock id::k)) cs) w=.go (G (b.aT a k) cs) w:=by simp[G,aG,stepG.exec,Frame.aT]
theorem nw{x y:Code}:aG P main (G (b.aT a (.code (.seq x y)::k)) cs) w=.go (G (b.aT a (.code x::.code y::k)) cs) w:=by simp[G,aG,stepG.exec,Frame.aT]
def uu{c:aC}{x y:Code}{t:Bool}(h:a.eval c=.bool t):
  aG P main (G (b.aT a (.code (.cond c x y)::k)) cs) w=.go (G (b.aT a (.code (if t then x else y)::k)) cs) w:=by
 have d:(b.aT a (.code (.cond c x y)::k)).eval c=.bool t:=by rw[Ew];exact h
 simp only[Frame.aT]at d;simp[G,aG,stepG.exec,Frame.aT,d]
def rm{id:Nat}:aG P main (G (b.aT a (.code (.block id c)::k)) cs) w=.go (G (b.aT a (.code c::.inBlock id::k)) cs) w:=by simp[G,aG,stepG.exec,Frame.aT]
def Ey:aG P main (G (b.aT a (.code (.loop c)::k)) cs) w=.go (G (b.aT a (.code c::.inLoop c::k)) cs) w:=by simp[G,aG,stepG.exec,Frame.aT]
def xM:aG P main (G (b.aT a (.inLoop c::k)) cs) w=.go (G (b.aT a (.code c::.inLoop c::k)) cs) w:=by simp[G,aG,stepG.exec,Frame.aT]
def y4{id:Nat}{k':List Item}(h:exitTo id k=aa k'):aG P main (G (b.aT a (.code (.exit id)::k)) cs) w=.go (G (b.aT a k') cs) w:=by simp[G,aG,stepG.exec,Frame.aT,h]
def pA{id:Nat}:aG P main (G (b.aT a (.code (.region id ops ae)::k)) cs) w=.go (G (b.aT a (.inRegion ops (bh ops.size)::k)) cs) w:=by simp[G,aG,stepG.exec,Frame.aT]
def lx{id:Nat}:aG P main (G (b.aT a (.code (.region id ops ab)::k)) cs) w =
  .go (G (b.aT a (.inRegion ops (Region.schedule (P.follows .mixedOrders) ops (w.tape w.drawn (.order b.fn id)))::k)) cs) {w with drawn:=w.drawn+1}:=by simp[G,aG,stepG.exec,Frame.aT,choose,Sem.run,Question.forced,Question.cut]
def iK:aG P main (G (b.aT a (.inRegion ops []::k)) cs) w=.go (G (b.aT a k) cs) w:=by simp[G,aG,stepG.exec,Frame.aT]
def CR(h:b.roundOf=af):aG P main (G (b.aT a (.code .ret::k)) cs) w=.go (G {b.aT a (.code .ret::k)with mode:=.returning} cs) w:=by simp[G,aG,stepG.exec,Frame.aT,h]
def CU(h:b.roundOf=af):aG P main (G (b.aT a []) cs) w=.go (G {b.aT a []with mode:=.returning} cs) w:=by simp[G,aG,stepG.exec,Frame.aT,h]
def ja(ops:Array aB)(i:Nat)(rest:List Nat)(v:ai):
  (b.aT a (.inRegion ops (i::rest)::k)).finish v=b.aT (a.put ((ops[i]?).bind (·.dst)) v) (.inRegion ops rest::k):=by cases h:(ops[i]?).bind (·.dst)<;>simp[Frame.finish,Frame.aT,Act.put,h]
def LX{rest:List Nat}(ho:ops[i]?=aa o)(d:aY o (yielded ops a.tmps)=ae):
  aG P main (G (b.aT a (.inRegion ops (i::rest)::k)) cs) w=.go (G (b.aT (a.put o.dst ah) (.inRegion ops rest::k)) cs) w:=by have c:=ja (b:=b) (a:=a) (k:=k) ops i rest ah;rw[ho]at c;simp only[mr]at c;rw[<-c];simp[G,aG,stepG.exec,Frame.aT,ho,d]
theorem rn{i:aC->ai}{c:Call}(h:o.op=.defer c){f:Next}(e:(ak i o).run P w=.ok f w'):∃d,f=.defer d:=by
 simp only[ak,h,bO]at e;cases g:(resolve i c o.type).run P w with
 |ok d w2=>rw[g]at e;simp at e;grind
 |halt x w2=>rw[g]at e;simp at e
def pC{rest:List Nat}(ho:ops[i]?=aa o)(e:aY o (yielded ops a.tmps)=ab)(f:∀c,o.op≠.defer c):
  aG P main (G (b.aT a (.inRegion ops (i::rest)::k)) cs) w=stepG.apply P ab (b.aT a (.inRegion ops (i::rest)::k)) cs af (ak a.eval o) w:=by have d:=Ew b a (.inRegion ops (i::rest)::k);simp only[Frame.aT]at d;simp[G,aG,stepG.exec,stepG.oper,Frame.oper?,Frame.aT,ho,e,d];grind
theorem AO{rest:List Nat}(ho:ops[i]?=aa o)(g:aY o (yielded ops a.tmps)=ab)(h:b.kind≠.early)(f:(ak a.eval o).run P w=.ok (.value v) w'):
  aG P main (G (b.aT a (.inRegion ops (i::rest)::k)) cs) w=.go (G (b.aT (a.put o.dst v) (.inRegion ops rest::k)) cs) w' (listed P b.fn a o w):=by
 have d:=ja (b:=b) (a:=a) (k:=k) ops i rest v;rw[ho]at d;simp only[mr]at d;have e:(b.kind==CallKind.early)=ae:=by grind
 rw[pC ho g (λc j=>by grind[rn]),<-d];simp[stepG.apply,f,G,Frame.aT,e,GStep.after,listed]
theorem Ez{rest:List Nat}(ho:ops[i]?=aa o)(g:aY o (yielded ops a.tmps)=ab)(h:b.kind≠.early)(f:(ak a.eval o).run P w=.ok .skip w'):
  aG P main (G (b.aT a (.inRegion ops (i::rest)::k)) cs) w=.go (G (b.aT (a.put o.dst ah) (.inRegion ops rest::k)) cs) w' (listed P b.fn a o w):=by
 have d:=ja (b:=b) (a:=a) (k:=k) ops i rest ah;rw[ho]at d;simp only[mr]at d;have e:(b.kind==CallKind.early)=ae:=by grind
 rw[pC ho g (λc j=>by grind[rn]),<-d];simp[stepG.apply,f,G,Frame.aT,e,GStep.after,listed]
def oB{rest:List Nat}{f:aJ}{args:Array ai}(ho:ops[i]?=aa o)(g:aY o (yielded ops a.tmps)=ab)(h:b.kind≠.early)(e:(ak a.eval o).run P w=.ok (.enter f args) w'):
  aG P main (G (b.aT a (.inRegion ops (i::rest)::k)) cs) w=.go (G (Frame.enter P f args .normal) (b.aT a (.inRegion ops (i::rest)::k)::cs)) w' (listed P b.fn a o w):=by
 have d:(b.kind==CallKind.early)=ae:=by grind
 rw[pC ho g (λc j=>by grind[rn])];simp[stepG.apply,e,G,Frame.aT,d,GStep.after,listed]
structure tL(P:aM)(f:aJ)(fr:aU)(v:ai)(s:St):Prop where
 ZB:fr.fn=f
 mode:fr.mode=.returning
 defers:fr.defers=[]
 kind:fr.kind=.normal
 fn:∃fn,P.funcs[fr.fn]?=aa fn/\∀w,(∀b o u,s.M b o=aa u->w.cell? ⟨b,o,af⟩=aa u)->(results fn fr.tmps).run P w=.ok v w/\∀e∈(results fn fr.tmps).events P w #[],∃b o u,e=⟨.cell ⟨b,o,af⟩,ae,ae⟩/\s.M b o=aa u
def tL.mono{f:aJ}{fr:aU}(h:tL P f fr v s)(g:∀b o u,s.M b o=aa u->s'.M b o=aa u):tL P f fr v s':=by obtain⟨h1,h2,c,d,fn,e,i⟩:=h;refine⟨h1,h2,c,d,fn,e,λw j=>?_⟩;grind
def ey.seen{s:St}{es:Array Event}{fn:aJ}(h:ey s es):ey s (seen P fn es):=λe c=>h e (Go.Conc.mem_seen c)
def HN{f:aJ}{g c:aU}(h:tL P f g v s)(w:aA)(n:∀b o u,s.M b o=aa u->w.cell? ⟨b,o,af⟩=aa u):∃es,aG P main (G g (c::cs)) w=.go (G (c.finish v) cs) w es/\∀e∈es,∃b o u,e=⟨.cell ⟨b,o,af⟩,ae,ae⟩/\s.M b o=aa u:=by obtain⟨fn,l,d⟩:=h.fn;obtain⟨j,m⟩:=d w n;refine⟨seen P g.fn ((results fn g.tmps).events P w #[]),?_,λe i=>m e (Go.Conc.mem_seen i)⟩;simp[G,aG,unwind,doReturn,h.mode,h.defers,h.kind,l,j,GStep.after]
end
end
structure ck(N:Nat)(σ:List bd)(s:St)(φ:Fr)(a:Act):Prop where
 size:a.tmps.size=N
 defers:∃ls,om σ s a.defers ls
 slot:∀t,dk σ s (a.tmps.getD t ah) (look φ t)
def ck.mono{N:Nat}{σ σ':List bd}{s s':St}{φ:Fr}{a:Act}(h:cN σ s σ' s')(hl:s.β.length=σ.length)(f:ck N σ s φ a):ck N σ' s' φ a :=
 ⟨f.size,f.defers.imp λ_ h1=>h1.mono h.ext,λt=>(f.slot t).mono h.ext hl⟩
def ck.rely{a:Act}(h:bU s s')(hh:aD σ s)(f:ck N σ s φ a):ck N σ s' φ a:=f.mono h.stepW hh.len
def ck.put{N:Nat}{σ:List bd}{s:St}{φ:Fr}{a:Act}(f:ck N σ s φ a){d:Nat}(c:d<N){v:ai}{x:D}(r:dk σ s v x):ck N σ s ((d,x)::φ) (a.put (aa d) v):=by
 refine⟨by simp[Act.put,f.size],f.defers,λt=>?_⟩;simp only[Act.put,look];by_cases e:d=t
 .subst e;rw[show av d d=ab from jm d];have g:d<a.tmps.size:=by rw[f.size];exact c
  simp only[dH,uM g,ga,cond];exact r
 .have:av d t=ae:=by grind[Nat.eq_of_beq_eq_true]
  rw[this];have h:=f.slot t;simp only[dH]at h⊢;grind
def rJ(φ φ':Fr):Prop:=∀σ s v t,dk σ s v (look φ t)->dk σ s v (look φ' t)
def ck.le{φ':Fr}{a:Act}(h:rJ φ φ')(f:ck N σ s φ a):ck N σ s φ' a :=
 ⟨f.size,f.defers,λt=>h _ _ _ _ (f.slot t)⟩
abbrev Post:=Exit->Fr->List bd->Prop
def ends(X:Cx P)(S:aq->St->Prop)(b:aU)(k:List Item)(cs:List aU):Exit->Act->St->Prop
 |.normal,a,s=>fu X S (G (b.aT a k) cs) s
 |.exit id,a,s=>∀pre,(∀k',exitTo id (pre++k')=exitTo id k')->fu X S (G (b.aT a (.code (.exit id)::(pre++k))) cs) s
 |.ret,a,s=>∀pre,fu X S (G (b.aT a (.code .ret::pre)) cs) s
 |.panic ch,a,s=>∀c,fu X S (G {b.aT a c with mode:=.panicking ch} cs) s
 |_,_,_=>False
section
variable {X:Cx P}{b:aU}{k:List Item}{a:Act}
def ends.cons{x:Item}(c:∀id k',exitTo id (x::k')=exitTo id k'){e:Exit}(d:e≠.normal)(h:ends X S b k cs e a s):ends X S b (x::k) cs e a s:=by
 cases e with
 |normal=>grind
 |exit id =>
  intro pre hp;have:=h (pre++[x]) (λk'=>by grind);grind
 |ret=>exact h
 |panic ch=>exact h
 |goto l=>exact h
 |outgrown=>exact h
def fu.ctl{g':aq}(hh:aD σ s)(e:g.status=.running)(d:∀w,aG P X.main g w=.go g' w #[])(h:∀c,bU s c->fu X S g' c):fu X S g s :=
 .next e λc h1=>⟨g',c,#[],d c.w,.quiet (hh.rely (X.hZ h1)),h c (X.hZ h1)⟩
def px{f:aJ}{j c:aU}(p:aD σ s)(h:tL P f j v s)(k:∀d,bU s d->fu X S (G (c.finish v) cs) d):fu X S (G j (c::cs)) s:=by refine .next rfl λd q=>?_;have i:=X.hZ q;have g:=p.rely i;obtain⟨es,l,r⟩:=HN (main:=X.main) (c:=c) (cs:=cs) h d.w i.mem;refine⟨_,d,es,l,⟨⟨σ,σ,g,g,.refl _ _⟩,λe n=>?_⟩,k d i⟩;obtain⟨b,o,u,rfl,m⟩:=r e n;exact⟨rfl,rfl,.inr (.inr ⟨rfl,u,by rw[i.M];exact m⟩)⟩
def vu(I:Nat->Act->St->Prop)(i:∀n a s,I n a s->∃σ,aD σ s/\∀d,bU s d->I n a d)(round:∀n a s,I n a s->(∀a' s' m,m<n->I m a' s'->fu X S (G (b.aT a' (.inLoop c::k)) cs) s')->fu X S (G (b.aT a (.code c::.inLoop c::k)) cs) s)(o:I n a s):
  fu X S (G (b.aT a (.code (.loop c)::k)) cs) s:=by
 have key:∀n a s,I n a s->fu X S (G (b.aT a (.inLoop c::k)) cs) s:=by
  intro n;induction n using Nat.strongRecOn with
  |_ n j =>
   intro a s hi;obtain⟨σ,f,g⟩:=i n a s hi;exact .ctl f rfl (λw=>xM) λd h=>round n a d (g d h) λa' s' m l e=>j m l a' s' e
 obtain⟨σ,f,g⟩:=i n a s o;exact .ctl f rfl (λw=>Ey) λd h=>round n a d (g d h) λa' s' m _ e=>key m a' s' e
end
def AW(X:Cx P)(N:Nat)(c:Code)(Q:Post)(φ:Fr)(σ:List bd):Prop :=
 ∀s a,ck N σ s φ a->aD σ s->∀(b:aU) (k:List Item) (cs:List aU) (S:aq->St->Prop),b.kind≠.early ->
  (∀e φ' σ' s' a',Q e φ' σ'->ck N σ' s' φ' a'->aD σ' s'->cN σ s σ' s'->ends X S b k cs e a' s')->fu X S (G (b.aT a (.code c::k)) cs) s
def Names(all:List aB):List Nat->List aB->Prop
 |[],[]=>True
 |i::idx,o::rest=>all.toArray[i]?=aa o/\Names all idx rest
 |_,_=>False
def jd(X:Cx P)(N:Nat)(all rest:List aB)(Q:Fr->List bd->Prop)(φ:Fr)(σ:List bd):Prop :=
 ∀s a,ck N σ s φ a->aD σ s->∀(b:aU) (k:List Item) (cs:List aU) (S:aq->St->Prop) (idx:List Nat),b.kind≠.early->Names all idx rest ->
  (∀φ' σ' s' a',Q φ' σ'->ck N σ' s' φ' a'->aD σ' s'->cN σ s σ' s'->fu X S (G (b.aT a' k) cs) s')->fu X S (G (b.aT a (.inRegion all.toArray idx::k)) cs) s
section rules
variable {X:Cx P}{Q:Post}
def AW.mono{d:Post}(h:AW X N c Q φ σ)(f:∀e φ σ,Q e φ σ->d e φ σ):AW X N c d φ σ :=
 λs a i hh b k cs S hb hQ=>h s a i hh b k cs S hb λe φ' σ' s' a' q g j st=>hQ e φ' σ' s' a' (f _ _ _ q) g j st
def AW.le{c:Code}{φ':Fr}(h:AW X N c Q φ' σ)(hl:rJ φ φ'):AW X N c Q φ σ :=
 λs a d hh b k cs S hb hQ=>h s a (d.le hl) hh b k cs S hb hQ
theorem AW.skip(h:Q .normal φ σ):AW X N .skip Q φ σ:=λs a c hh b k cs S _ d =>
 .ctl hh rfl (λ_=>Ex) λe h1=>d .normal φ σ e a h (c.rely h1 hh) (hh.rely h1) h1.stepW
def AW.ret(h:Q .ret φ σ):AW X N .ret Q φ σ:=λs a c hh b k cs S _ d=>d .ret φ σ s a h c hh (.refl _ _) k
theorem AW.exit{id:Nat}(h:Q (.exit id) φ σ):AW X N (.exit id) Q φ σ:=λs a c hh b k cs S _ d=>by have:=d (.exit id) φ σ s a h c hh (.refl _ _) [] (λ_=>rfl);grind
def E4(next:Fr->List bd->Prop)(Q:Post):Post
 |.normal,φ,σ=>next φ σ
 |e,φ,σ=>Q e φ σ
theorem AW.seq{x y:Code}(h:AW X N x (E4 (AW X N y Q) Q) φ σ):AW X N (.seq x y) Q φ σ:=by
 intro s a i hh b k cs S hb hQ;refine .ctl hh rfl (λ_=>nw) λj h1=>?_;refine h j a (i.rely h1 hh) (hh.rely h1) b (.code y::k) cs S hb ?_;intro e φ' σ' s' a' q f g st;have c:=h1.stepW.trans st;cases e with
 |normal=>exact q s' a' f g b k cs S hb λe d σ2 s2 a2 q2 f2 h2 oe=>hQ e d σ2 s2 a2 q2 f2 h2 (c.trans oe)
 |_=>exact ends.cons (λ_ _=>rfl) (by simp) (hQ _ _ _ _ _ q f g c)
theorem AW.cond{c:aC}{x y:Code}{t:Bool}{u:Nat}(n:c=.tmp u)(hl:look φ u=.e (.one (.c (.bool t))))(j:t=ab->AW X N x Q φ σ)(l:t=ae->AW X N y Q φ σ):AW X N (.cond c x y) Q φ σ:=by
 intro s a f hh b k cs S hb hQ;have g:=f.slot u;rw[hl]at g;have h:a.eval c=.bool t:=by subst n;generalize h:a.tmps.getD u ah=v at g;simp only[dk,nh,gd]at g;cases g;exact h
 refine .ctl hh rfl (λ_=>uu h) λi h1=>?_;have d:∀e φ' σ' s' a',Q e φ' σ'->ck N σ' s' φ' a'->aD σ' s'->cN σ i σ' s'->ends X S b k cs e a' s':=λe φ' σ' s' a' q m o st=>hQ e φ' σ' s' a' q m o (h1.stepW.trans st);cases t
 .exact l rfl i a (f.rely h1 hh) (hh.rely h1) b k cs S hb d
 .exact j rfl i a (f.rely h1 hh) (hh.rely h1) b k cs S hb d
def zC(id:Nat)(Q:Post):Post
 |.exit HG,φ,σ=>if HG=id then Q .normal φ σ else Q (.exit HG) φ σ
 |e,φ,σ=>Q e φ σ
theorem AW.block{id:Nat}(h:AW X N c (zC id Q) φ σ):AW X N (.block id c) Q φ σ:=by
 intro s a i hh b k cs S hb hQ;refine .ctl hh rfl (λ_=>rm) λj h1=>?_;refine h j a (i.rely h1 hh) (hh.rely h1) b (.inBlock id::k) cs S hb ?_;intro e φ' σ' s' a' q g f st;have d:=h1.stepW.trans st;cases e with
 |normal =>
  exact .ctl f rfl (λ_=>qq) λs2 h2=>hQ .normal φ' σ' s2 a' q (g.rely h2 f) (f.rely h2) (d.trans h2.stepW)
 |exit HG =>
  simp only[zC]at q;split at q
  .rename_i e;subst e;intro pre hp;refine .ctl f rfl (λ_=>y4 (k':=k) (by rw[hp];simp[exitTo])) λs2 h2=>?_;exact hQ .normal φ' σ' s2 a' q (g.rely h2 f) (f.rely h2) (d.trans h2.stepW)
  .rename_i m
   intro pre hp;have:=hQ (.exit HG) φ' σ' s' a' q g f d (pre++[.inBlock id]) (λk'=>by
    rw[jP,hp];have:(id==HG)=ae:=by grind
    simp[exitTo,this])
   grind
 |ret=>exact hQ _ _ _ _ _ q g f d
 |panic ch=>exact hQ _ _ _ _ _ q g f d
 |goto l=>exact hQ _ _ _ _ _ q g f d
 |outgrown=>exact hQ _ _ _ _ _ q g f d
def AW.loop{S:Type}(I:S->Prop)(fr:S->Fr)(st:S->List bd)(h:S->Nat)(x:S)(w:I x)(l:rJ φ (fr x))(m:st x=σ)(round:∀x,I x->AW X N c (E4 (λφ' σ'=>∃y,I y/\h y<h x/\rJ φ' (fr y)/\σ'=st y) Q) (fr x) (st x)):AW X N (.loop c) Q φ σ:=by
 intro s a u hh b k cs S hb hQ;subst m;refine vu (λn a' s'=>∃y,I y/\ck N (st y) s' (fr y) a'/\aD (st y) s'/\cN (st x) s (st y) s'/\h y=n) ?_ ?_ ⟨x,w,u.le l,hh,.refl _ _,rfl⟩
 .rintro n a' s' ⟨y,o,j,f,d,e⟩;exact⟨st y,f,λA h1=>⟨y,o,j.rely h1 f,f.rely h1,d.trans h1.stepW,e⟩⟩
 rintro n a' s' ⟨y,o,j,f,d,rfl⟩ r;refine round y o s' a' j f b (.inLoop c::k) cs S hb ?_;intro e t σ2 s2 a2 q p h2 oe;cases e with
 |normal =>
  obtain⟨z,v,i,g,rfl⟩:=q;exact r a2 s2 (h z) i ⟨z,v,p.le g,h2,d.trans oe,rfl⟩
 |_=>exact ends.cons (λ_ _=>rfl) (by simp) (hQ _ _ _ _ _ q p h2 (d.trans oe))
end rules
def dZ.length{σ:List bd}{s:St}{vs:List ai}{cs:List A}(r:dZ σ s vs cs):vs.length=cs.length:=by
 induction vs generalizing cs with
 |nil=>cases cs<;>simp_all[dZ]
 |cons v vs ih =>
  cases cs with
  |nil=>simp[dZ]at r
  |cons a cs=>simp[ih r.2]
def gd.cell{σ:List bd}{s:St}{v:ai}{a:A}(r:gd σ s v a):cW v=ab:=by
 cases a with
 |c x=>exact Rd.cell r
 |ptr l off=>obtain⟨_,_,_,_,_,rfl⟩:=r;rfl
 |vec l k n es=>exact Rd.cell r.1
 |ref l=>obtain⟨_,_,_,_,h⟩:=r;exact h
 |bp l w=>obtain⟨_,h,_⟩:=r;exact h.cell
 |any=>exact r
theorem dZ.get{cs:List A}(r:dZ σ s vs cs){a:A}(h:cs[j]?=aa a):∃v,vs[j]?=aa v/\gd σ s v a:=by
 induction vs generalizing cs j with
 |nil=>cases cs<;>simp_all[dZ]
 |cons v vs ih =>
  cases cs with
  |nil=>grind
  |cons b cs =>
   cases j with
   |zero=>simp at h;subst h;exact⟨v,rfl,r.1⟩
   |succ j=>simp at h;obtain⟨u,c,d⟩:=ih r.2 h;grind
def dZ.cell{σ:List bd}{s:St}{vs:List ai}{cs:List A}(r:dZ σ s vs cs):∀v∈vs,v.oneCell'=ab:=by
 induction vs generalizing cs with
 |nil=>simp
 |cons v vs ih =>
  cases cs with
  |nil=>simp[dZ]at r
  |cons a cs =>
   intro u b;rcases dK.1 b with rfl|b
   .have:=gd.cell r.1;cases u<;>simp_all[cW,Value.oneCell']
   .exact ih r.2 u b
def dZ.append{b:List ai}{cs lS:List A}(r:dZ σ s vs cs)(r':dZ σ s b lS):dZ σ s (vs++b) (cs++lS):=by
 induction vs generalizing cs with
 |nil=>cases cs<;>simp_all[dZ]
 |cons v vs ih =>
  cases cs with
  |nil=>simp[dZ]at r
  |cons a cs=>exact⟨r.1,ih r.2⟩
def dZ.take{σ:List bd}{s:St}{vs:List ai}{cs:List A}(r:dZ σ s vs cs)(k:Nat):dZ σ s (vs.take k) (cs.take k):=by
 induction vs generalizing cs k with
 |nil=>cases cs<;>simp_all[dZ]
 |cons v vs ih =>
  cases cs with
  |nil=>simp[dZ]at r
  |cons a cs=>cases k with
   |zero=>simp[dZ]
   |succ k=>exact⟨r.1,ih r.2 k⟩
def dZ.drop{σ:List bd}{s:St}{vs:List ai}{cs:List A}(r:dZ σ s vs cs)(k:Nat):dZ σ s (vs.drop k) (cs.drop k):=by
 induction vs generalizing cs k with
 |nil=>cases cs<;>simp_all[dZ]
 |cons v vs ih =>
  cases cs with
  |nil=>simp[dZ]at r
  |cons a cs=>cases k with
   |zero=>exact r
   |succ k=>simpa using ih r.2 k
theorem aD.block(h:aD σ s){o:Nat}(hm:s.M b o=aa v):b<s.w.heap.size:=by
 have:=h.mem b o v hm;rcases cA b s.w.heap.size with h|h
 .exact h
 .simp[aV,yT h]at this
theorem aD.same(h:aD σ s)(f:w'.heap=s.w.heap):aD σ {s with w:=w'}:=by
 have j:∀a,w'.cell? a=s.w.cell? a:=λa=>by simp[aV,f]
 have m:∀v a,gd σ s v a->gd σ {s with w:=w'} v a:=λv a r=>by cases a<;>exact r
 have e:∀vs al,dZ σ s vs al->dZ σ {s with w:=w'} vs al:=by
  intro vs;induction vs with
  |nil=>intro al r;cases al<;>simp_all[dZ]
  |cons v vs ih=>intro al r;cases al with
   |nil=>simp[dZ]at r
   |cons a al=>exact⟨m _ _ r.1,ih _ r.2⟩
 refine⟨λb o v hm=>by rw[j];exact h.mem b o v hm,h.len,?_,h.eU,λL e b hb=>by show b<w'.heap.size;rw[f];exact h.lt L e b hb,λb hb=>⟨by show b<w'.heap.size;rw[f];exact(h.own b hb).1,(h.own b hb).2⟩⟩;intro l B L x g;have:=h.box l B L x g;cases B with
 |cells E cs =>
  obtain⟨b,vs,h1,h2,c,d⟩:=this;exact⟨b,vs,h1,by grind,e _ _ c,d⟩
 |vec E k n es =>
  obtain⟨h1,h2⟩:=this;refine⟨h1,?_⟩;grind
 |cf H =>
  obtain⟨ch,h1,h2,c,d⟩:=this;exact⟨ch,h1,λb o hb=>by grind,c,d⟩
 |dead=>trivial
 |loop N φ r =>
  obtain⟨l,tmps,fn,u,h1,h2,c,d,q⟩:=this;exact⟨l,tmps,fn,u,h1,by grind,c,λt=>dk.mono (s:=s) (σ':=σ) (s':={s with w:=w'}) ⟨λ_ _ _ h=>h,λ_ B L h p=>⟨B,L,h,p,.refl _ _⟩⟩ h.len (d t),q⟩
 |qp =>
  obtain⟨r,h1,h2,c⟩:=this;exact⟨r,h1,by grind,c⟩
 |buf E k n es =>
  rcases this with h1|⟨b,i,vs,y,h1,h2,c⟩
  .exact .inl h1
  .exact .inr ⟨b,i,vs,y,h1,by grind,c⟩
theorem Step.same(e:w'.heap=s.w.heap)(ho:w'.os=s.w.os)(d:w'.tape=s.w.tape)(c:w'.output=s.w.output):Step σ s σ {s with w:=w'} :=
 ⟨by grind,λb _ _=>by grind,λ_ _ _ h=>h,λ_ _ _ _=>rfl,λL h b hb=>.inr ⟨L,h,hb⟩,λ_ B L h a=>⟨B,L,h,a,.refl _ _⟩,ho,d,c,rfl⟩
def eH.carry{B:bd}{L:Loc}(d:Ext σ s σ' s')(hl:s.β.length=σ.length)(hb:∀b∈L.bs,s'.w.heap[b]?=s.w.heap[b]?/\∀o,s'.M b o=s.M b o)(h:eH σ s B L):eH σ' s' B L:=by
 cases B with
 |cells E cs =>
  obtain⟨b,vs,h1,h2,a,c⟩:=h;subst h1;obtain⟨k1,e⟩:=hb b (by simp);exact⟨b,vs,rfl,by grind,a.mono d hl,λo=>by grind⟩
 |vec E k n es =>
  obtain⟨h1,h2⟩:=h;refine⟨h1.mono d.mem,?_⟩;rcases h2 with⟨h2,a⟩|⟨b,cap,vs,h2,a,c,f⟩
  .exact .inl ⟨h2,a.mono d.mem⟩
  grind
 |cf H =>
  obtain⟨ch,h1,h2,a,c⟩:=h;refine⟨ch,h1,λb o q=>?_,a,λb g o=>by grind⟩;grind
 |dead=>trivial
 |loop N φ r =>
  obtain⟨l,tmps,fn,i,h1,h2,a,c,f⟩:=h;subst h1;obtain⟨k1,e⟩:=hb l (by simp);exact⟨l,tmps,fn,i,rfl,by grind,a,λt=>(c t).mono d hl,λo=>by grind⟩
 |qp =>
  obtain⟨r,h1,h2,a⟩:=h;subst h1;obtain⟨k1,e⟩:=hb r (by simp);exact⟨r,rfl,by grind,λo=>by grind⟩
 |buf E k n es =>
  rcases h with h1|⟨b,p,vs,m,h1,h2,a,c,f,j,u⟩
  .exact .inl h1
  .subst h1;obtain⟨k1,e⟩:=hb b (by simp);exact .inr ⟨b,p,vs,m,rfl,by grind,a,c,f,j.mono d.mem,λo=>by grind⟩
def St.fJ(s:St)(E:aw)(vs:List ai):St :=
 {β:=s.β++[⟨.pointer (aa ⟨s.w.heap.size,0,af⟩),[s.w.heap.size]⟩],M:=s.M,w:=s.w.alloc (.cells vs.toArray E),own:=s.own}
theorem cM(w:aA)(o:Obj)(h:b<w.heap.size):(w.alloc o).heap[b]?=w.heap[b]?:=by show(w.heap.push o)[b]?=w.heap[b]?;grind
theorem dF(w:aA)(o:Obj):(w.alloc o).heap[w.heap.size]?=aa o:=by show(w.heap.push o)[w.heap.size]?=aa o;simp
def Step.fJ{σ:List bd}(s:St)(E:aw)(vs:List ai)(B:bd):Step σ s (σ++[B]) (s.fJ E vs):=by
 refine⟨by simp[St.fJ],?_,λ_ _ _ h=>h,λ_ _ _ _=>rfl,?_,?_,rfl,rfl,rfl,rfl⟩
 .intro b hb _;exact cM _ _ hb
 .intro L a b hb;simp only[St.fJ,fz,iT]at a;grind
 .intro l B' L c a;have hl:l<s.β.length:=(b8.1 a).1;have d:l<σ.length:=(b8.1 c).1;exact⟨B',L,by grind,by simp only[St.fJ];grind,.refl _ _⟩
def aD.fJ{σ:List bd}{s:St}(h:aD σ s){E:aw}{vs:List ai}{cs:List A}(r:dZ σ s vs cs):aD (σ++[.cells E cs]) (s.fJ E vs):=by
 have st:=Step.fJ (σ:=σ) s E vs (.cells E cs);have g:(s.fJ E vs).w.heap.size=s.w.heap.size+1:=by simp[St.fJ]
 refine⟨?_,by simp[St.fJ,h.len],?_,?_,?_,?_⟩
 .intro b o v hm;have hb:=h.block hm;have:=h.mem b o v hm;rw[<-this];simp only[aV,St.fJ];grind[cM]
 .intro l B L f a;rcases Nat.lt_trichotomy l σ.length with c|rfl|i
  .rw[jh c]at f;simp only[St.fJ]at a;rw[jh (by rw[h.len];exact c)]at a;refine(h.box l B L f a).carry st.ext h.len λb hb=>⟨?_,λ_=>rfl⟩
   have:=h.lt L (bH a) b hb;exact cM _ _ this
  .simp at f;subst f;simp only[St.fJ]at a;rw[fx (by rw[h.len];grind)]at a;simp[h.len]at a;subst a;refine⟨s.w.heap.size,vs,rfl,dF _ _,r.mono st.ext h.len,λo=>?_⟩;cases hm:s.M s.w.heap.size o with
   |none=>exact hm
   |some v=>have:=h.block hm;omega
  grind
 .intro l l' L L' a e b hb nZ;simp only[St.fJ]at a e;have d:∀l L,(s.β++[⟨.pointer (aa ⟨s.w.heap.size,0,af⟩),[s.w.heap.size]⟩])[l]?=aa L->(s.β[l]?=aa L)∨(l=s.β.length/\L.bs=[s.w.heap.size]):=by grind
  rcases d l L a with h1|⟨rfl,h1⟩<;>rcases d l' L' e with h2|⟨rfl,h2⟩
  .exact h.eU l l' L L' h1 h2 b hb nZ
  .have:=h.lt L (bH h1) b hb;grind
  .have:=h.lt L' (bH h2) b nZ;grind
  .rfl
 .intro L a b hb;rw[g];simp only[St.fJ,fz,iT]at a;rcases a with a|rfl
  .have:=h.lt L a b hb;omega
  grind
 .intro b hb;obtain⟨k,j⟩:=h.own b hb;refine⟨by grind,λL a=>?_⟩;simp only[St.fJ,fz,iT]at a;grind
def aD.grow(h:aD σ s){M':Mem}(a:s.w.heap.size<=w'.heap.size)(e:∀b,b<s.w.heap.size->w'.heap[b]?=s.w.heap[b]?)(d:∀b,b<s.w.heap.size->∀o,M' b o=s.M b o)(k:∀b,s.w.heap.size<=b->∀o v,M' b o=aa v->w'.cell? ⟨b,o,af⟩=aa v)(ho:w'.os=s.w.os)(f:w'.tape=s.w.tape)(g:w'.output=s.w.output):aD σ ⟨s.β,M',w',s.own⟩/\Step σ s σ ⟨s.β,M',w',s.own⟩:=by
 have st:Step σ s σ ⟨s.β,M',w',s.own⟩ :=
  ⟨a,λb hb _=>e b hb,λb o v hm=>by rw[<-hm];exact d b (h.block hm) o,λb hb _ o=>d b hb o,λL h b hb=>.inr ⟨L,h,hb⟩,λ_ B L h i=>⟨B,L,h,i,.refl _ _⟩,ho,f,g,rfl⟩
 refine⟨⟨?_,h.len,?_,h.eU,λL c b hb=>cx (h.lt L c b hb) a,λb hb=>⟨cx (h.own b hb).1 a,(h.own b hb).2⟩⟩,st⟩
 .intro b o v hm;rcases cA b s.w.heap.size with hb|hb
  .have hm':s.M b o=aa v:=by grind
   rw[<-h.mem b o v hm'];simp only[aV];grind
  grind
 .intro l B L j c;exact(h.box l B L j c).carry st.ext h.len λb hb=>⟨e b (h.lt L (bH c) b hb),λo=>d b (h.lt L (bH c) b hb) o⟩
def aD.write(h:aD σ s){L:Loc}{cs lS:List A}{a:List ai}(j:σ[l]?=aa (.cells E cs))(c:s.β[l]?=aa L)(f:L.bs=[b])(r:dZ σ s a lS):aD (σ.set l (.cells E lS)) {s with w:=s.w.setRow b a.toArray}/\Step σ s (σ.set l (.cells E lS)) {s with w:=s.w.setRow b a.toArray}:=by
 have d:l<σ.length:=(b8.1 j).1;obtain⟨g,vs,h1,h2,n,k⟩:=h.box l _ L j c;subst h1;simp at f;subst f;have st:Step σ s (σ.set l (.cells E lS)) {s with w:=s.w.setRow g a.toArray}:=by
  refine⟨by simp,?_,λ_ _ _ h=>h,λ_ _ _ _=>rfl,λL h b hb=>.inr ⟨L,h,hb⟩,?_,rfl,rfl,rfl,rfl⟩
  .intro b hb hn;exact setRow_other _ _ _ _ (λe=>hn _ (bH c) (by simp[e]))
  .intro l' B L' lQ gm;by_cases e:l=l'
   .subst e;rw[j]at lQ;cases lQ;exact⟨_,L',by rw[fQ d],gm,by simp[hU]⟩
   .exact⟨B,L',by grind,gm,.refl _ _⟩
 refine⟨⟨?_,by simp[h.len],?_,h.eU,λL c b hb=>by simpa using h.lt L c b hb,λb hb=>by simpa using h.own b hb⟩,st⟩
 .intro b o v hm;have m:b≠g:=λe=>by grind
  rw[<-h.mem b o v hm];simp only[aV];grind[setRow_other]
 .intro l' B L' lQ gm;by_cases e:l=l'
  .subst e;rw[fQ d]at lQ;cases lQ;rw[c]at gm;cases gm;exact⟨g,a,rfl,setRow_heap _ _ _ _ _ _ h2,r.mono st.ext h.len,k⟩
  .rw[kF e]at lQ;refine(h.box l' B L' lQ gm).carry st.ext h.len λb hb=>⟨setRow_other _ _ _ _ λi=>?_,λ_=>rfl⟩
   subst i;exact e (h.eU l l' _ L' c gm b (by simp) hb)
def Qd(σ:List bd)(s:St):Next->D->Prop
 |.value v,x=>dk σ s v x
 |.skip,x=>x=.any
 |_,_=>False
def bD(P:aM)(o:aB)(η:aC->D)(σ:List bd)(x:D)(σ':List bd):Prop :=
 ∀s a,aD σ s->(∀y,dk σ s (a y) (η y))->∃b s',(ak a o).run P s.w=.ok b s'.w/\Qd σ' s' b x/\aD σ' s'/\Step σ s σ' s'/\ey s ((ak a o).events P s.w #[])
def bD.ny{x:D}(h:∀s a,aD σ s->(∀y,dk σ s (a y) (η y))->∃v,(ak a o).run P s.w=.ok (.value v) s.w/\dk σ s v x/\ey s ((ak a o).events P s.w #[])):bD P o η σ x σ :=
 λs a hh hr=>let ⟨v,h1,h2,b⟩:=h s a hh hr;⟨.value v,s,h1,h2,hh,.refl _ _,b⟩
def bD.quiet{x:D}(h:∀s a,aD σ s->(∀y,dk σ s (a y) (η y))->∃v,(ak a o).run P s.w=.ok (.value v) s.w/\dk σ s v x/\(ak a o).events P s.w #[]=#[]):bD P o η σ x σ :=
 λs a hh hr=>let ⟨v,h1,h2,b⟩:=h s a hh hr;⟨.value v,s,h1,h2,hh,.refl _ _,by rw[b];exact .nil⟩
def MO:IntKind->Int->Bool
 |.i64,.ofNat m=>bu m 9223372036854775807
 |.i64,.negSucc m=>bu m 9223372036854775807
 |.u8,.ofNat m=>bu m 255
 |.i32,.ofNat m=>bu m 2147483647
 |.i32,.negSucc m=>bu m 2147483647
 |.u64,.ofNat m=>bu m 18446744073709551615
 |.u32,.ofNat m=>bu m 4294967295
 |_,_=>ae
def Qh{k:IntKind}{n:Int}(h:MO k n=ab):bw k n:=by cases k<;>cases n<;>simp only[MO,bw]at h⊢<;>first|(cases h;done)|(have:=dJ h;grind)
def qv:ai->Option C
 |.int k n=>cond (MO k n) (aa (.int k n)) af
 |.bool b=>aa (.bool b)
 |.string s=>cond (bu s.size 9223372036854775807) (aa (.str s.data.toList)) af
 |.slice af 0 0=>aa (.sl ab 0 0 (λ_=>[]))
 |.pointer af=>aa .oG
 |.nilIface=>aa .oI
 |.nilFunc=>aa .y7
 |.map m=>aa (.val (.map m))
 |_=>af
theorem Rd.jr{t:Bool}{a:Option Addr}:Rd M (.slice a 0 0) (.sl t k 0 es) :=
 Rd.sl 0 0 (λ_ _=>ah) (aZ _) (by omega) (λ_=>rfl) (by omega) (by omega) (by omega) (by omega)
def Rd.qv{M:Mem}{v:ai}{c:C}(h:qv v=aa c):Rd M v c:=by
 unfold AM.qv at h;split at h<;>first
  |(rename_i k n;cases hb:MO k n<;>rw[hb]at h<;>cases h;exact .int (Qh hb))
  |(rename_i s;cases hb:bu s.size 9223372036854775807<;>rw[hb]at h<;>cases h;exact .str rfl (by rw[iS];exact dJ hb))
  |(cases h;done)
  |(cases h;exact .bool)
  |(cases h;exact Rd.jr)
  |(cases h;exact .oG)
  |(cases h;exact .oI)
  |(cases h;exact .y7)
  |(cases h;exact .val rfl)
def dOf:Option C->D
 |some c=>.e (.one (.c c))
 |none=>.any
def bJ(φ:Fr):aC->D
 |.tmp t=>look φ t
 |.const v=>dOf (qv v)
 |.func f=>.e (.one (.c (.fn (.func f) [] [])))
 |.global _=>.any
theorem cY{a:Act}(f:ck N σ s φ a)(y:aC):dk σ s (a.eval y) (bJ φ y):=by
 cases y with
 |tmp t=>exact f.slot t
 |const v =>
  simp only[bJ,Act.eval];cases h:qv v with
  |none=>trivial
  |some c=>exact Rd.qv h
 |func g =>
  exact Rd.fn [] [] rfl rfl (λ_=>ah) (λ_=>ah) (by simp) (by simp) (by simp) (by simp)
 |global g=>trivial
def kg:Option Nat->D->Fr->Fr
 |some t,x,φ=>(t,x)::φ
 |none,_,φ=>φ
def zx{X:Cx P}{b:aU}{k:List Item}{a:Act}{rest:List Nat}(m:b.kind≠.early)(ho:ops[i]?=aa o)(n:aY o (yielded ops a.tmps)=ab)(h:∀c,bU s c->∃d s' v,(ak a.eval o).run P c.w=.ok d s'.w/\(d=.value v∨(d=.skip/\v=ah))/\qn c s' ((ak a.eval o).events P c.w #[])/\fu X S (G (b.aT (a.put o.dst v) (.inRegion ops rest::k)) cs) s'):
  fu X S (G (b.aT a (.inRegion ops (i::rest)::k)) cs) s:=by refine .next rfl λc f=>?_;obtain⟨d,s',v,l,j,e,g⟩:=h c (X.hZ f);refine⟨_,s',Go.Conc.listed P b.fn a o c.w,?_,⟨e.1,e.2.seen⟩,g⟩;grind[AO,Ez]
theorem bD.move(h:o.op=.move x):bD P o η σ (η x) σ :=
 .quiet λs a _ b=>⟨a x,by simp[ak,h,pure],b x,by simp[ak,h]⟩
theorem bD.assign(h:o.op=.assign x):bD P o η σ (η x) σ :=
 .quiet λs a _ b=>⟨a x,by simp[ak,h,pure],b x,by simp[ak,h]⟩
def fH{c:C}(h:dk σ s v (.e (.one (.c c)))):Rd s.M v c:=h
def bD.pick{c a b:aC}(h:o.op=.pick c a b){t:Bool}(i:η c=.e (.one (.c (.bool t)))):
  bD P o η σ (match t with|true=>η a|false=>η b) σ:=by
 refine .quiet λs f _ g=>?_;have h1:=g c;rw[i]at h1;have h2:=fH h1;generalize d:f c=v at h2;cases h2;cases t
 .exact⟨f b,by simp[ak,h,d,asBool],g b,by simp[ak,h,d,asBool]⟩
 .exact⟨f a,by simp[ak,h,d,asBool],g a,by simp[ak,h,d,asBool]⟩
def I1(op:BinOp)(k:IntKind)(x y:Int):Option (C×List Prop) :=
 match op with
 |.add=>aa (.int k (x+y),[bw k (x+y)])
 |.sub=>aa (.int k (x-y),[bw k (x-y)])
 |.mul=>aa (.int k (x*y),[bw k (x*y)])
 |.quo=>aa (.int k (x / y),[0<=x,0<y])
 |.rem=>aa (.int k (x % y),[0<=x,0<y])
 |.eql=>aa (.bool (x==y),[])
 |.neq=>aa (.bool (x != y),[])
 |.lss=>aa (.bool (decide (x<y)),[])
 |.leq=>aa (.bool (decide (x<=y)),[])
 |.gtr=>aa (.bool (decide (y<x)),[])
 |.geq=>aa (.bool (decide (y<=x)),[])
 |_=>af
def I2(op:BinOp)(x y:List UInt8):Option (C×List Prop) :=
 match op with
 |.add=>aa (.str (x++y),[x.length+y.length<=9223372036854775807])
 |.eql=>aa (.bool (x==y),[])
 |.neq=>aa (.bool (!(x==y)),[])
 |.lss=>aa (.bool (bc x y),[])
 |.leq=>aa (.bool (bc x y||x==y),[])
 |.gtr=>aa (.bool (!(bc x y||x==y)),[])
 |.geq=>aa (.bool (!(bc x y)),[])
 |_=>af
@[simp] def au:List Prop->Prop
 |[]=>True
 |[p]=>p
 |p::q::r=>p/\au (q::r)
def au.cons{p:Prop}{r:List Prop}:au (p::r)↔p/\au r:=by cases r<;>simp
theorem l0{k:IntKind}{n:Int}(h:bw k n):k.wrap n=n:=by cases k<;>simp only[bw,IntKind.wrap,IntKind.bits,IntKind.signed]at h⊢<;>simp<;>(try split)<;>omega
def I3{k:IntKind}{x y:Int}{c:C}(h:I1 op k x y=aa (c,obs))(ho:au obs)(f:bw k x)(j:bw k y)(t:aw)(M:Mem):
  ∃v,(binOp op t (.int k x) (.int k y)).run P w=.ok v w/\Rd M v c:=by
 cases op<;>simp only[I1,dx,ln,reduceCtorEq]at h
 case add=>obtain⟨rfl,rfl⟩:=h;exact⟨_,by simp only[binOp,cR,fa,bM,Op.intArith,l0 ho];rfl,.int ho⟩
 case sub=>obtain⟨rfl,rfl⟩:=h;exact⟨_,by simp only[binOp,cR,fa,bM,Op.intArith,l0 ho];rfl,.int ho⟩
 case mul=>obtain⟨rfl,rfl⟩:=h;exact⟨_,by simp only[binOp,cR,fa,bM,Op.intArith,l0 ho];rfl,.int ho⟩
 case quo =>
  obtain⟨rfl,rfl⟩:=h;obtain⟨b,a⟩:=ho;replace a:0<y:=a;have e:x.tdiv y=x / y:=Int.tdiv_eq_ediv_of_nonneg b;have d:bw k (x / y):=by have g:0<=x / y:=Int.ediv_nonneg b (by omega);have i:x / y<=x:=Int.ediv_le_self _ b;cases k<;>simp only[bw]at f⊢<;>omega
  exact⟨_,by simp only[binOp,cR,fa,bM,Op.intDiv,show y≠0 by omega,e,l0 d];rfl,.int d⟩
 case rem =>
  obtain⟨rfl,rfl⟩:=h;obtain⟨b,a⟩:=ho;replace a:0<y:=a;have e:x.tmod y=x % y:=Int.tmod_eq_emod_of_nonneg b;have d:bw k (x % y):=by have g:0<=x % y:=q8 _ (by omega);have i:x % y<y:=qT _ a;cases k<;>simp only[bw]at j⊢<;>omega
  exact⟨_,by simp only[binOp,cR,fa,bM,Op.intDiv,show y≠0 by omega,e];rfl,.int d⟩
 all_goals (obtain⟨rfl,rfl⟩:=h;exact⟨_,by simp only[binOp,cR,fa,bM,Op.intCmp,gt_iff_lt,ge_iff_le];rfl,.bool⟩)
def I4{x y:ByteArray}{a b:List UInt8}{c:C}(h:I2 op a b=aa (c,obs))(ho:au obs)(g:x.data.toList=a)(i:y.data.toList=b)(t:aw)(M:Mem):
  ∃v,(binOp op t (.string x) (.string y)).run P w=.ok v w/\Rd M v c:=by
 subst g i;cases op<;>simp only[I2,dx,ln,reduceCtorEq]at h
 case add =>
  obtain⟨rfl,rfl⟩:=h;have d:¬((x.size+y.size:Nat):Int)>IntKind.i64.max:=by have j:x.data.toList.length=x.size:=iS;have k:y.data.toList.length=y.size:=iS;have e:IntKind.i64.max=9223372036854775807:=rfl;have f:x.data.toList.length+y.data.toList.length<=9223372036854775807:=ho;grind
  refine⟨_,by simp only[binOp,Op.stringOp,d,bM];rfl,.str (by simp) (by simpa using ho)⟩
 all_goals (obtain⟨rfl,rfl⟩:=h;exact⟨_,by simp only[binOp,Op.stringOp,ByteArray.toList_eq];rfl,.bool⟩)
def MP{k:IntKind}{x y:Int}{c:C}(h:I1 op k x y=aa (c,obs))(ho:au obs)(t:aw):
  (binOp op t (.int k x) (.int k y)).events P w #[]=#[]:=by
 cases op<;>simp only[I1,dx,ln,reduceCtorEq]at h
 case quo =>
  obtain⟨rfl,rfl⟩:=h;obtain⟨b,a⟩:=ho;replace a:0<y:=a;simp only[binOp,cR,fa,bM,Op.intDiv,show y≠0 by omega];rfl
 case rem =>
  obtain⟨rfl,rfl⟩:=h;obtain⟨b,a⟩:=ho;replace a:0<y:=a;simp only[binOp,cR,fa,bM,Op.intDiv,show y≠0 by omega];rfl
 all_goals (simp only[binOp,cR,fa,bM,Op.intCmp,Op.intArith];rfl)
def MQ{x y:ByteArray}{a b:List UInt8}{c:C}(h:I2 op a b=aa (c,obs))(ho:au obs)(g:x.data.toList=a)(i:y.data.toList=b)(t:aw):
  (binOp op t (.string x) (.string y)).events P w #[]=#[]:=by
 subst g i;cases op<;>simp only[I2,dx,ln,reduceCtorEq]at h
 case add =>
  obtain⟨rfl,rfl⟩:=h;have d:¬((x.size+y.size:Nat):Int)>IntKind.i64.max:=by have j:x.data.toList.length=x.size:=iS;have k:y.data.toList.length=y.size:=iS;have e:IntKind.i64.max=9223372036854775807:=rfl;have f:x.data.toList.length+y.data.toList.length<=9223372036854775807:=ho;grind
  simp only[binOp,Op.stringOp,d,bM];rfl
 all_goals (simp only[binOp,Op.stringOp];rfl)
def Gj:IntKind->IntKind->Bool
 |.i8,.i8|.i16,.i16|.i32,.i32|.i64,.i64|.u8,.u8|.u16,.u16|.u32,.u32|.u64,.u64=>ab
 |_,_=>ae
def zF{k k':IntKind}(h:Gj k k'=ab):k=k':=by cases k<;>cases k'<;>first|rfl|(cases h;done)
def Mn(op:BinOp):C->C->Option (C×List Prop)
 |.int k x,.int k' y=>cond (Gj k k') (I1 op k x y) af
 |.str a,.str b=>I2 op a b
 |_,_=>af
def gn(op:BinOp)(t:aw)(x y:aC)(k k':IntKind)(n a:Int)(u:aA):(eqGuard op t x y (.int k n) (.int k' a)).run P u=.ok () u:=by cases op<;>rfl
def tr(op:BinOp)(t:aw)(x y:aC)(a b:ByteArray)(u:aA):(eqGuard op t x y (.string a) (.string b)).run P u=.ok () u:=by cases op<;>rfl
def js(op:BinOp)(t:aw)(x y:aC)(k k':IntKind)(n a:Int)(u:aA)(es:Array Event):(eqGuard op t x y (.int k n) (.int k' a)).events P u es=es:=by cases op<;>rfl
def vD(op:BinOp)(t:aw)(x y:aC)(a b:ByteArray)(u:aA)(es:Array Event):(eqGuard op t x y (.string a) (.string b)).events P u es=es:=by cases op<;>rfl
theorem bD.binOp(h:o.op=.binOp op t x y ty){a b c:C}(u:η x=.e (.one (.c a)))(hb:η y=.e (.one (.c b)))(g:Mn op a b=aa (c,obs))(ho:au obs):bD P o η σ (.e (.one (.c c))) σ:=by
 refine .quiet λs m _ p=>?_;have h1:=p x;have h2:=p y;rw[u]at h1;rw[hb]at h2;replace h1:=fH h1;replace h2:=fH h2;generalize f:m x=vx at h1;generalize d:m y=vy at h2;cases h1<;>cases h2<;>simp only[Mn,reduceCtorEq]at g
 case int.int k n z k' n' VS =>
  cases q:Gj k k'<;>simp only[q,cond,reduceCtorEq]at g
  cases zF q;obtain⟨v,i,j⟩:=I3 (P:=P) (w:=s.w) g ho z VS t s.M;exact⟨v,by simp only[ak,h,bO,f,d,gn,b9,i,cT],j,by simp[ak,h,f,d,gn,js,MP g ho]⟩
 case str.str =>
  rename_i A l r hl y' l' hy CG;obtain⟨v,i,j⟩:=I4 (P:=P) (w:=s.w) g ho r hy t s.M;exact⟨v,by simp only[ak,h,bO,f,d,tr,b9,i,cT],j,by simp[ak,h,f,d,tr,vD,MQ g ho r hy]⟩
def Vf(op:UnOp):C->Option C
 |.bool b=>match op with|.not=>aa (.bool (!b))|_=>af
 |_=>af
theorem bD.unOp{op:UnOp}(h:o.op=.unOp op t x){a c:C}(i:η x=.e (.one (.c a)))(d:Vf op a=aa c):bD P o η σ (.e (.one (.c c))) σ:=by
 refine .quiet λs f _ g=>?_;have h1:=g x;rw[i]at h1;replace h1:=fH h1;generalize b:f x=vx at h1;cases h1<;>simp only[Vf,reduceCtorEq]at d
 cases op<;>simp only[reduceCtorEq,dx]at d
 subst d;exact⟨_,by simp only[ak,h,b,Op.unary,bO,cT,b9],Rd.bool,by simp[ak,h,b,Op.unary]⟩
theorem gC.get{xs:List E1}(r:gC σ s vs xs){x:E1}(h:xs[j]?=aa x):∃v,vs[j]?=aa v/\nh σ s v x:=by
 induction vs generalizing xs j with
 |nil=>cases xs<;>simp_all[gC]
 |cons v vs ih =>
  cases xs with
  |nil=>grind
  |cons b cs =>
   cases j with
   |zero=>simp at h;subst h;exact⟨v,rfl,r.1⟩
   |succ j=>simp at h;obtain⟨u,a,c⟩:=ih r.2 h;grind
theorem bD.extract{P:aM}{o:aB}{η:aC->D}{σ:List bd}{x:aC}{j:Nat}(h:o.op=.extract x j){xs:List E1}{e:E1}(g:η x=.fw xs)(c:xs[j]?=aa e):bD P o η σ (.e e) σ:=by refine .quiet λs k _ d=>?_;have h1:=d x;rw[g]at h1;obtain⟨vs,f,i⟩:=h1;obtain⟨v,a,b⟩:=i.get c;refine⟨v,?_,b,?_⟩<;>simp[ak,h,f,Instr.extract,a]
def y3(b o:Nat):Event:=⟨.cell ⟨b,o,af⟩,ae,ae⟩
def F0(b o:Nat):Event:=⟨.cell ⟨b,o,af⟩,ab,ae⟩
theorem dm(b o n:Nat):(⟨b,o,af⟩:Addr).add n=⟨b,o+n,af⟩:=by unfold Addr.add;split<;>simp_all
section
def y6{o:Nat}(h:w.cell? ⟨b,o,af⟩=aa v)(es:Array Event):(load ⟨b,o,af⟩).events P w es=es.push (y3 b o):=by rw[events_load,h];rfl
def mU{w:aA}{b o:Nat}:∀(n i:Nat) (acc:Array ai) (es:Array Event),(∀j,j<n->∃v,w.cell? ⟨b,o+(i+j),af⟩=aa v) ->
    ∀e∈(loadCellsFrom ⟨b,o,af⟩ i n acc).events P w es,e∈es∨∃j,j<i+n/\e=y3 b (o+j)
  | 0,i,acc,es,_=>λe h=>.inl (by simpa[loadCellsFrom]using h)
  | n+1,i,acc,es,c=>λe h=>by
    obtain⟨v,a⟩:=c 0 (by omega);simp only[hI]at a;simp only[loadCellsFrom,aK,dm,run_load,a,aP,y6 a]at h;rcases mU n (i+1) (acc.push v) _ (λj d=>by grind) e h with f|⟨j,d,rfl⟩
    · grind
    grind
def rl{o:Nat}{es:Array Event}(h:∀j,j<n->∃v,w.cell? ⟨b,o+j,af⟩=aa v):∀e∈(loadCells ⟨b,o,af⟩ n).events P w es,e∈es∨∃j,j<n/\e=y3 b (o+j):=by intro e a;have:=mU (P:=P) n 0 #[] es (by grind) e a;grind
def eh{b o:Nat}{t:aw}:∀(vs:List ai) (i:Nat) (a:Array ai) (w:aA) (es:Array Event),w.heap[b]?=aa (.cells a t (0,0))->o+i+vs.length<=a.size->(∀v∈vs,v.oneCell'=ab) ->
    ∀e∈(storeCells ⟨b,o,af⟩ vs i).events P w es,e∈es∨∃j,i<=j/\j<i+vs.length/\e=F0 b (o+j)
  | [],_,_,_,_,_,_,_=>λe h=>.inl (by simpa[storeCells]using h)
  | v::rest,i,a,w,es,k,n,l=>λe h=>by
    have hi:o+i<a.size:=by grind
    have c:w.cell? ⟨b,o+i,af⟩=aa a[o+i]:=by simp[aV,k,hi]
    have d:w.frozen? ⟨b,o+i,af⟩=ae:=by simp[World.frozen?,k]
    have f:(store (⟨b,o+i,af⟩:Addr) v).run P w=.ok () (w.setRow b (a.setIfInBounds (o+i) v)):=by grind[run_store,setCell_eq_setRow]
    have g:(store (⟨b,o+i,af⟩:Addr) v).events P w es=es.push (F0 b (o+i)):=by rw[events_store P w es _ v _ (l v (by simp)),c];simp only[d,gJ,bM];rfl
    simp only[storeCells,aK,dm,f,g,aP]at h;rcases eh rest (i+1) (a.setIfInBounds (o+i) v) _ _ (setRow_heap _ _ _ _ _ _ k) (by grind) (λu m=>l u (by grind)) e h with r|⟨j,p,q,rfl⟩
    · grind
    grind
def cV(P:aM)(m:Sem α):Prop:=∀w es,m.events P w es=es
def cV.bind{β:Type}{m:Sem α}{f:α->Sem β}(h:cV P m)(k:∀a,cV P (f a)):cV P (m >>= f):=by
  intro w es;rw[aK,h w es];cases m.run P w with
  | ok a w'=>exact k a w' es
  | halt x w'=>rfl
def cV.pure{α:Type}{a:α}:cV P (Pure.pure a:Sem α):=λ_ _=>rfl
def cV.stuck{α:Type}{a:String}:cV P (Go.stuck a:Sem α):=λ_ _=>rfl
def cV.unsupported{α:Type}{u:Unsupported}:cV P (Go.unsupported u:Sem α):=λ_ _=>rfl
def cV.sizeOf{t:aw}:cV P (sizeOf t):=λ_ _=>events_sizeOf ..
def cV.underlying{t:aw}:cV P (underlying t):=λ_ _=>events_underlying ..
def cV.zeroValue{t:aw}:cV P (zeroValue t):=λ_ _=>events_zeroValue ..
def cV.newObj{o:Obj}:cV P (newObj o):=λ_ _=>rfl
def cV.newRow{t:aw}{c:Array ai}:cV P (newRow t c):=.bind .newObj λ_=>.pure
def cV.Oz{α β:Type}{f:α->Sem β}(h:∀a,cV P (f a)):∀l:List α,cV P (l.mapM f)
  | []=>by rw[List.mapM_nil];exact .pure
  | a::l=>by rw[kQ];exact .bind (h a) λ_=>.bind (cV.Oz h l) λ_=>.pure
def cV.map{α β:Type}{f:α->β}{m:Sem α}(h:cV P m):cV P (Functor.map f m):=λw es=>by rw[Sem.events_map];exact h w es
def cV.SM{β:Type}{f:α->Sem β}(h:∀a,cV P (f a))(l:Array α):cV P (l.mapM f):=by rw[qk];exact .map (.Oz h _)
def cV.Ih{α β:Type}{F:α->β->Sem (ForInStep β)}(h:∀a b,cV P (F a b)):∀(l:List α) (b:β),cV P (forIn l b F)
  | [],b=>by rw[List.forIn_nil];exact .pure
  | a::l,b=>by
    rw[List.forIn_cons];refine .bind (h a b) λr=>?_;cases r with
    | done b=>exact .pure
    | yield b=>exact cV.Ih h l b
theorem cV.build{t:aw}{parts:Array (Nat×ai)}:cV P (Instr.build t parts):=by
  unfold Instr.build;refine .bind .zeroValue λz=>.bind .underlying λd=>?_;cases d<;>first
    | exact .stuck
    | (refine .bind (.SM (λ_=>.bind .sizeOf λ_=>.pure) _) λpl=>?_
       split
       · exact .pure
       · exact .stuck)
    | (refine .bind .sizeOf λn=>?_
       split
       · exact .pure
       · exact .stuck)
theorem cV.buildSlice{t:aw}{n:Nat}{parts:Array (Nat×ai)}:cV P (Instr.buildSlice t n parts):=by
  unfold Instr.buildSlice;refine .bind .underlying λd=>?_;cases d<;>first
    | exact .stuck
    | (refine .bind .sizeOf λm=>?_
       dsimp only
       have hj:∀(elem:aw) (zero:Array ai),cV P (match Instr.fill (λi=>aa (i*m,m)) (Array.map (λx=>zero[x % zero.size]!) (Array.range (n*m))) parts.toList with
          | some cells=>do
            let a<-Go.newRow elem cells
            Pure.pure (Value.slice (aa a) n n)
          | _=>Go.stuck "buildSlice: a part of the wrong size"):=by
         intro elem zero;split
         · exact .bind .newRow λ_=>.pure
         · exact .stuck
       by_cases b:n*m=0
       · simp only[b,b5]
         rw[b]at hj;split
         · grind
         · exact .bind .pure λz=>hj _ z
       · simp only[b,bM]
         split
         · exact .bind .unsupported λ_=>.bind .zeroValue λz=>.bind .pure λz=>hj _ z
         · exact .bind .zeroValue λz=>.bind .pure λz=>hj _ z)
def oF{o:Nat}{L:Loc}(c:L∈s.β)(a:b∈L.bs):oh s (y3 b o):=⟨rfl,rfl,.inr (.inl ⟨⟨L,c,a⟩,λh=>by cases h⟩)⟩
def AL{o:Nat}(h:s.M b o=aa v):oh s (y3 b o):=⟨rfl,rfl,.inr (.inr ⟨rfl,v,h⟩)⟩
theorem kT{o:Nat}{L:Loc}(c:L∈s.β)(a:b∈L.bs)(d:s.M b o=af):oh s (F0 b o):=⟨rfl,rfl,.inr (.inl ⟨⟨L,c,a⟩,λ_=>d⟩)⟩
end
structure TI where
 size:Nat
 bytes:Nat
 agg:Bool
 desc:TypeDesc
 zero:List C
 eq:List TypeDesc:=[]
def qB:TypeDesc->ai->ai->Option Bool
 |.int _,.int k a,.int k' b=>if k=k' then aa (a==b)else af
 |.string,.string a,.string b=>aa (a.toList==b.toList)
 |.bool,.bool a,.bool b=>aa (a==b)
 |_,_,_=>af
def jB:List TypeDesc->List ai->List ai->Option Bool
 |[],[],[]=>aa ab
 |d::ds,v::vs,w::ws=>match qB d v w with
  |some a=>match jB ds vs ws with
   |some b=>aa (a&&b)
   |none=>af
  |none=>af
 |_,_,_=>af
def zL:TypeDesc->Bool
 |.struct _|.array _ _=>ab
 |_=>ae
structure dC(P:aM)(t:aw)(i:TI):Prop where
 RX:P.underlying t=aa i.desc
 agg:zL i.desc=i.agg
 info:∃inf z,P.info? t=aa inf/\inf.size=i.size/\inf.bytes=i.bytes/\inf.zero=aa z/\z.cells.toList.map qv=i.zero.map aa/\(∃cs,z=if i.agg then .agg cs else z)/\i.zero.length=i.size
 eqs:i.eq≠[]->P.eqGuardType P.depth t=ae/\∀(w:aA) (vs ws:List ai) (b:Bool),jB i.eq vs ws=aa b->(Op.equal t (.agg vs.toArray) (.agg ws.toArray)).run P w=.ok b w/\∀es,(Op.equal t (.agg vs.toArray) (.agg ws.toArray)).events P w es=es
def bE:List (Nat×TI)->Nat->Option TI
 |[],_=>af
 |(i,d)::r,t=>cond (av i t) (aa d) (bE r t)
def c8(P:aM)(T:List (Nat×TI)):Prop:=∀t i,bE T t=aa i->dC P t i
section
variable {i:TI}
def dC.run_underlying(h:dC P t i):(underlying t).run P w=.ok i.desc w:=by simp[underlying,h.RX]
def dC.jU(h:dC P t i):(isAgg t).run P w=.ok i.agg w:=by have:=h.agg;unfold Go.isAgg;rw[bO,h.run_underlying];cases a:i.desc<;>rw[a]at this<;>simp[zL]at this<;>simp[this]
def dC.run_sizeOf(h:dC P t i):(sizeOf t).run P w=.ok i.size w:=by obtain⟨a,z,h1,h2,_⟩:=h.info;simp[sizeOf,typeInfo,h1,h2]
def ki{σ:List bd}{s:St}:∀{vs:List ai}{cs:List C},vs.map qv=cs.map aa->dZ σ s vs (cs.map A.c)
 |[],[],_=>trivial
 |[],_::_,h=>by grind
 |_::_,[],h=>by grind
 |v::vs,c::cs,h=>by simp only[jl,List.cons.injEq]at h;exact⟨Rd.qv h.1,ki h.2⟩
def dC.I5(h:dC P t i)(σ:List bd)(s:St):∃z,(zeroValue t).run P w=.ok z w/\dZ σ s z.cells.toList (i.zero.map A.c):=by obtain⟨a,z,h1,h2,e,d,b,_⟩:=h.info;exact⟨z,by simp[zeroValue,typeInfo,h1,d],ki b⟩
end
def kI:D->Option (List A)
 |.e (.one a)=>aa [a]
 |.e (.agg cs)=>aa cs
 |_=>af
theorem ld{d:D}{cs:List A}(h:kI d=aa cs)(r:dk σ s v d):dZ σ s v.cells.toList cs:=by
 cases d with
 |e x =>
  cases x with
  |one a =>
   cases h;have:=gd.cell r;cases v<;>first|exact⟨r,ar⟩|cases this
  |agg c =>
   cases h;obtain⟨vs,rfl,b⟩:=r;simpa[Value.cells]using b
 |fw xs=>cases h
 |any=>cases h
def bD.newVar{P:aM}{o:aB}{η:aC->D}{σ:List bd}{E:aw}{cs:List A}(h:∀s a,aD σ s->(∀y,dk σ s (a y) (η y))->∃v:ai,(ak a o).run P s.w=((do pure (.value (.pointer (aa (<-newVar E v))))):Sem Next).run P s.w/\dZ σ s v.cells.toList cs/\(ak a o).events P s.w #[]=#[]):
  bD P o η σ (.e (.one (.ptr σ.length 0))) (σ++[.cells E cs]):=by
 intro s a hh hr;obtain⟨v,h1,h2,b⟩:=h s a hh hr;refine⟨.value (.pointer (aa ⟨s.w.heap.size,0,af⟩)),s.fJ E v.cells.toList,?_,?_,hh.fJ h2,.fJ s E _ _,by rw[b];exact .nil⟩
 .rw[h1];simp[Go.newVar,newRow,St.fJ]
 .refine⟨by simp,⟨.pointer (aa ⟨s.w.heap.size,0,af⟩),[s.w.heap.size]⟩,s.w.heap.size,?_,rfl,rfl⟩;simp[St.fJ,<-hh.len]
theorem bD.alloc{P:aM}{T:List (Nat×TI)}(b:c8 P T){o:aB}{η:aC->D}{σ:List bd}{E:aw}(h:o.op=.alloc E){i:TI}(hi:bE T E=aa i):
  bD P o η σ (.e (.one (.ptr σ.length 0))) (σ++[.cells E (i.zero.map A.c)]):=by refine .newVar λs f _ _=>?_;obtain⟨z,a,d⟩:=(b E i hi).I5 (w:=s.w) σ s;exact⟨z,by simp[ak,h,Instr.alloc,a],d,by simp[ak,h,Instr.alloc,a,Go.newVar,newRow]⟩
theorem bD.box{P:aM}{o:aB}{η:aC->D}{σ:List bd}{E:aw}{x:aC}(h:o.op=.box E x){cs:List A}(a:kI (η x)=aa cs):
  bD P o η σ (.e (.one (.ptr σ.length 0))) (σ++[.cells E cs]) :=
 .newVar λs b _ c=>⟨b x,by simp[ak,h,Instr.box],ld a (c x),by simp[ak,h,Instr.box,Go.newVar,newRow]⟩
def n6{α:Type}:Nat->List α->Option (List α)
 |0,_=>aa []
 |n+1,x::xs=>match n6 n xs with|some r=>aa (x::r)|none=>af
 |_+1,[]=>af
def mN{α:Type}:∀{n:Nat}{l r:List α},n6 n l=aa r->r=l.take n/\r.length=n
 |0,l,r,h=>by cases h;simp
 |n+1,[],r,h=>by simp[n6]at h
 |n+1,x::xs,r,h=>by
  simp only[n6]at h;cases a:n6 n xs with
  |none=>grind
  |some q =>
   simp[a]at h;subst h;obtain⟨c,b⟩:=mN a;grind
def eB{α:Type}:Nat->List α->Option α
 |_,[]=>af
 |0,x::_=>aa x
 |n+1,_::xs=>eB n xs
theorem cX{α:Type}:∀{n:Nat}{l:List α}{x:α},eB n l=aa x->l[n]?=aa x
 |_,[],_,h=>by simp[eB]at h
 |0,x::_,_,h=>by simpa[eB]using h
 |n+1,_::xs,_,h=>by simpa using cX (n:=n) (l:=xs) h
def gT{α:Type}:Nat->List α->List α
 |0,l=>l
 |_+1,[]=>[]
 |n+1,_::xs=>gT n xs
def mW{α:Type}:∀(n:Nat)(l:List α),gT n l=l.drop n
 |0,_=>by simp[gT]
 |_+1,[]=>by simp[gT]
 |n+1,_::xs=>by simp[gT,mW n xs]
def mD(i:TI)(cs:List A):Option E1 :=
 match i.agg with
 |true=>match n6 i.size cs with|some r=>aa (.agg r)|none=>af
 |false=>match eB 0 cs with|some a=>aa (.one a)|none=>af
def l7{i:TI}(l:dC P t i){cs:List A}{e:E1}(u:∀(j:Nat) (v:ai),vs[j]?=aa v->s.w.cell? ⟨b,off+j,af⟩=aa v)(k:dZ σ s vs cs)(d:mD i cs=aa e):
  ∃v,(loadVar t ⟨b,off,af⟩).run P s.w=.ok v s.w/\nh σ s v e:=by
 simp only[loadVar,bO,l.jU,b9];cases o:i.agg<;>simp only[mD,o]at d
 .cases f:eB 0 cs with
  |none=>grind
  |some a =>
   simp[f]at d;subst d;obtain⟨v,q,h⟩:=k.get (cX f);refine⟨v,?_,h⟩;grind[run_load]
 .cases f:n6 i.size cs with
  |none=>grind
  |some r =>
   simp[f]at d;subst d;obtain⟨n,p⟩:=mN f;have c:=k.take i.size;rw[<-n]at c;have m:(vs.take i.size).length=i.size:=by rw[c.length,p]
   have g:=run_loadCells_list (P:=P) s.w ⟨b,off,af⟩ (vs.take i.size) (λj v x=>by grind[dm])
   rw[m]at g;refine⟨.agg (vs.take i.size).toArray,?_,vs.take i.size,rfl,c⟩;simp[l.run_sizeOf,g]
def iV{i:TI}(k:dC P t i)(f:∀j,j<n->∃v,w.cell? ⟨b,off+j,af⟩=aa v)(c:(if i.agg then i.size else 1)<=n):
  ∀e∈(loadVar t ⟨b,off,af⟩).events P w #[],∃j,j<n/\e=y3 b (off+j):=by
 intro e a;simp only[loadVar,aK,k.jU,aP,events_isAgg]at a;cases g:i.agg
 .rw[g]at c a;obtain⟨v,d⟩:=f 0 (by grind);simp only[hI]at d;simp only[gJ,bM,y6 d]at a;rcases Array.mem_push.1 a with h|rfl
  .grind
  .exact⟨0,by grind,rfl⟩
 .rw[g]at c a;simp only[b5]at c;simp only[b5,aK,k.run_sizeOf,aP,events_sizeOf]at a;have key:∀e∈(loadCells ⟨b,off,af⟩ i.size).events P w #[],∃j,j<n/\e=y3 b (off+j):=by
   intro e a;rcases rl (P:=P) (λj l=>f j (by omega)) e a with h|⟨j,l,rfl⟩
   .grind
   grind
  apply key;generalize(loadCells ⟨b,off,af⟩ i.size).run P w=r at a;cases r with
  |ok v w'=>simpa using a
  |halt x w'=>simpa using a
theorem oJ{i:TI}{cs:List A}{e:E1}(h:mD i cs=aa e):(if i.agg then i.size else 1)<=cs.length:=by
 unfold mD at h;cases b:i.agg<;>rw[b]at h
 .cases cs with
  |nil=>simp[eB]at h
  |cons c cs=>simp
 .simp only at h;cases a:n6 i.size cs with
  |none=>grind
  |some r =>
   obtain⟨f,d⟩:=mN a;grind
theorem bD.ES{T:List (Nat×TI)}(r:c8 P T)(h:o.op=.load t x){cs:List A}{i:TI}{e:E1}(D:η x=.e (.one (.ptr l off)))(F:σ[l]?=aa (.cells E cs))(hi:bE T t=aa i)(p:mD i (gT off cs)=aa e):bD P o η σ (.e e) σ:=by
 refine .ny λs C hh hr=>?_
 have h1:=hr x;rw[D]at h1;obtain⟨_,L,b,y,c,u⟩:=h1;obtain⟨k,vs,rfl,B,d,_⟩:=hh.box l _ L F y;simp at c;subst c;rw[mW]at p;obtain⟨v,a,m⟩:=l7 (s:=s) (σ:=σ) (P:=P) (r t i hi) (b:=k) (off:=off) (vs:=vs.drop off) (cs:=cs.drop off) (e:=e) (λj v hj=>by
  simp only[aV,B]
  grind) (d.drop off) p
 refine⟨v,by simp[ak,h,u,Instr.loadAt,Instr.sureAddr,a],m,λz f=>?_⟩;have g:z∈(loadVar t ⟨k,off,af⟩).events P s.w #[]:=by
  have e:ak C o=(do pure (.value (<-loadVar t ⟨k,off,af⟩))):=by simp[ak,h,u,Instr.loadAt,Instr.sureAddr]
  rw[e]at f;simpa[a]using f
 have q:(vs.drop off).length=(cs.drop off).length:=(d.drop off).length;obtain⟨j,hj,rfl⟩:=iV (r t i hi) (n:=(vs.drop off).length) (λj hj=>by refine⟨(vs.drop off)[j],?_⟩;simp only[aV,B];simp at hj⊢<;>omega) (by grind[oJ]) z g
 exact oF (bH y) (by simp)
theorem bD.Ir{T:List (Nat×TI)}(y:c8 P T)(h:o.op=.load t x){cs:List C}{i:TI}{e:E1}(D:η x=.e (.one (.c (.rp cs))))(hi:bE T t=aa i)(r:mD i (cs.map A.c)=aa e):bD P o η σ (.e e) σ:=by
 refine .ny λs u hh hr=>?_;have h1:=hr x;rw[D]at h1;have h2:=fH h1;generalize m:u x=vx at h2;cases h2;rename_i b off f hm LI;have q:∀(n:Nat) (ds:List C),(∀j c,ds[j]?=aa c->Rd s.M (f (n+j)) c)->dZ σ s ((bh ds.length).map λj=>f (n+j)) (ds.map A.c):=by
  intro n ds;induction ds generalizing n with
  |nil=>intro _;trivial
  |cons d ds ih =>
   intro B;rw[gb,yS];refine⟨B 0 d rfl,?_⟩;have:=ih (n+1) (λj c hj=>by have:=B (j+1) c (by grind);grind);grind[Function.comp_def]
 obtain⟨v,a,p⟩:=l7 (s:=s) (σ:=σ) (P:=P) (y t i hi) (b:=b) (off:=off) (vs:=(bh cs.length).map λj=>f (0+j)) (cs:=cs.map A.c) (e:=e) (λj v hj=>by
  simp only[nq,br]at hj;by_cases g:j<cs.length
  .simp[g]at hj;subst hj;exact hh.mem _ _ _ (hm j cs[j] (bm g))
  grind) (q 0 cs (by grind)) r
 refine⟨v,by simp[ak,h,m,Instr.loadAt,Instr.sureAddr,a],p,λz k=>?_⟩;have l:z∈(loadVar t ⟨b,off,af⟩).events P s.w #[]:=by
  have e:ak u o=(do pure (.value (<-loadVar t ⟨b,off,af⟩))):=by simp[ak,h,m,Instr.loadAt,Instr.sureAddr]
  rw[e]at k;simpa[a]using k
 obtain⟨j,hj,rfl⟩:=iV (y t i hi) (n:=cs.length) (λj hj=>⟨f j,hh.mem _ _ _ (hm j cs[j] (bm hj))⟩) (by have:=oJ r;grind) z l;exact AL (hm j cs[j] (bm hj))
def fe{α:Type}:Nat->List α->List α->Option (List α)
 |0,[],l=>aa l
 |0,n::ns,_::cs=>match fe 0 ns cs with|some r=>aa (n::r)|none=>af
 |k+1,ns,c::cs=>match fe k ns cs with|some r=>aa (c::r)|none=>af
 |_,_,[]=>af
def pP{α:Type}:∀{off:Nat}{new l r:List α},fe off new l=aa r->off+new.length<=l.length/\r=l.take off++new++l.drop (off+new.length)
 |0,[],l,r,h=>by cases l<;>cases h<;>simp
 |0,n::ns,c::cs,r,h=>by
  simp only[fe]at h;cases a:fe 0 ns cs with
  |none=>grind
  |some q =>
   simp[a]at h;subst h;obtain⟨d,b⟩:=pP a;grind
 |0,n::ns,[],r,h=>by simp[fe]at h
 |k+1,ns,c::cs,r,h=>by
  simp only[fe]at h;cases a:fe k ns cs with
  |none=>grind
  |some q =>
   simp[a]at h;subst h;obtain⟨d,b⟩:=pP a;grind
 |k+1,ns,[],r,h=>by simp[fe]at h
def dZ.fe{new:List ai}{cs Qi r:List A}(h:AM.fe off Qi cs=aa r)(h1:dZ σ s vs cs)(h2:dZ σ s new Qi):
  off+new.length<=vs.length/\dZ σ s (vs.take off++new++vs.drop (off+new.length)) r:=by obtain⟨k1,rfl⟩:=pP h;rw[h2.length,h1.length];refine⟨k1,((h1.take off).append h2).append (by have:=h1.drop (off+Qi.length);exact this)⟩
theorem bD.store{T:List (Nat×TI)}(z:c8 P T)(h:o.op=.store t x y){cs new lS:List A}{i:TI}(J:η x=.e (.one (.ptr l off)))(F:σ[l]?=aa (.cells E cs))(hi:bE T t=aa i)(H:kI (η y)=aa new)(B:new.length=i.size)(K:fe off new cs=aa lS):
  bD P o η σ .any (σ.set l (.cells E lS)):=by
 intro s d hh hr;have h1:=hr x;rw[J]at h1;obtain⟨_,L,b,u,m,C⟩:=h1;obtain⟨p,vs,rfl,G,q,k⟩:=hh.box l _ L F u;simp at m;subst m;have c:=ld H (hr y);obtain⟨k1,I⟩:=dZ.fe K q c;obtain⟨w1,w2⟩:=hh.write F u rfl I;refine⟨.skip,_,?_,rfl,w1,w2,?_⟩
 rotate_left
 .intro D a;have f:(d y).cells.size=i.size:=by rw[<-B,<-c.length,iS]
  have e:ak d o=(do storeVar t ⟨p,off,af⟩ (d y);pure .skip):=by simp[ak,h,C,Instr.storeAt,Instr.sureAddr]
  rw[e]at a;have n:D∈(storeCells ⟨p,off,af⟩ (d y).cells.toList).events P s.w #[]:=by
   simp only[storeVar,aK,(z t i hi).run_sizeOf,f,aP,events_sizeOf,cR,fa,bM,bO,b9,Sem.events_pure]at a;generalize(storeCells ⟨p,off,af⟩ (d y).cells.toList).run P s.w=r at a;cases r with
   |ok v w'=>simpa using a
   |halt x w'=>simpa using a
  rcases eh (d y).cells.toList 0 vs.toArray s.w #[] G (by grind) c.cell D n with M|⟨j,_,_,rfl⟩
  .grind
  .exact kT (bH u) (by simp) (k _)
 have g:=run_storeCells_at P p off E (d y).cells.toList 0 vs.toArray s.w G (by grind) (c.cell);have f:(d y).cells.size=i.size:=by rw[<-B,<-c.length,iS]
 simp only[hI]at g;simp[ak,h,C,Instr.storeAt,Instr.sureAddr,storeVar,(z t i hi).run_sizeOf,f,g]
def jw(T:List (Nat×TI))(t:aw)(f:Nat):Option (Nat×TI) :=
 match bE T t with
 |some i=>match i.desc with
  |.struct fs=>match eB f fs.toList with
   |some fl=>match bE T fl.type with
    |some j=>cond (av j.size 0) af (aa (fl.offset,j))
    |none=>af
   |none=>af
  |_=>af
 |none=>af
def sJ{T:List (Nat×TI)}(b:c8 P T){f:Nat}{j:TI}(h:jw T t f=aa (off,j)):
  ∃i fs fl,bE T t=aa i/\i.desc=.struct fs/\fs[f]?=aa fl/\fl.offset=off/\bE T fl.type=aa j/\j.size≠0/\dC P t i/\dC P fl.type j:=by
 unfold jw at h;split at h
 .rename_i i hi;split at h
  .rename_i fs WT;split at h
   .rename_i fl hfl;split at h
    .rename_i d c;cases a:av d.size 0<;>simp[a]at h
     obtain⟨rfl,rfl⟩:=h;refine⟨i,fs,fl,hi,WT,by simpa using cX hfl,rfl,c,?_,b _ _ hi,b _ _ c⟩;intro e;rw[e]at a;cases a
    grind
   grind
  grind
 grind
def l8{T:List (Nat×TI)}(c:c8 P T){f:Nat}{j:TI}(h:jw T t f=aa (off,j))(b o:Nat)(w:aA):
  (Instr.fieldAt t (.pointer (aa ⟨b,o,af⟩)) f).run P w=.ok (.pointer (aa ⟨b,o+off,af⟩)) w:=by obtain⟨i,fs,fl,l,k,a,d,m,g,e,g2⟩:=sJ c h;simp[Instr.fieldAt,e.run_underlying,k,a,Instr.sureAddr,fieldPlace,g2.run_sizeOf,g,dm,d]
def nJ{T:List (Nat×TI)}(c:c8 P T){f:Nat}{j:TI}(h:jw T t f=aa (off,j))(b o:Nat)(w:aA)(es:Array Event):
  (Instr.fieldAt t (.pointer (aa ⟨b,o,af⟩)) f).events P w es=es:=by obtain⟨i,fs,fl,k,g,a,l,m,e,d,g2⟩:=sJ c h;simp[Instr.fieldAt,d.run_underlying,g,a,Instr.sureAddr,fieldPlace,g2.run_sizeOf,e]
def bD.rD{T:List (Nat×TI)}(d:c8 P T){f:Nat}(h:o.op=.fieldAddr t x f){j:TI}(i:η x=.e (.one (.ptr l off)))(c:jw T t f=aa (k,j)):bD P o η σ (.e (.one (.ptr l (off+k)))) σ:=by refine .quiet λs p hh hr=>?_;have h1:=hr x;rw[i]at h1;obtain⟨n,L,b,m,a,g⟩:=h1;exact⟨.pointer (aa ⟨b,off+k,af⟩),by simp[ak,h,g,l8 d c],⟨n,L,b,m,a,rfl⟩,by simp[ak,h,g,nJ d c]⟩
theorem bD.tj{T:List (Nat×TI)}(g:c8 P T){f:Nat}(h:o.op=.fieldAddr t x f){cs:List C}{j:TI}(l:η x=.e (.one (.c (.rp cs))))(d:jw T t f=aa (k,j)):bD P o η σ (.e (.one (.c (.rp (gT k cs))))) σ:=by
 refine .quiet λs i hh hr=>?_;have h1:=hr x;rw[l]at h1;have h2:=fH h1;generalize a:i x=vx at h2;cases h2;rename_i b o m hm LI;refine⟨.pointer (aa ⟨b,o+k,af⟩),by simp[ak,h,a,l8 g d],?_,by simp[ak,h,a,nJ g d]⟩;rw[mW];refine Rd.rp b (o+k) (λj=>m (k+j)) (λj c hj=>?_) (λj c hj=>?_)
 .grind
 grind
def I6{i:TI}(g:dC P t i){cs:List A}(r:dZ σ s vs cs){e:E1}(b:mD i (gT off cs)=aa e)(w:aA):
  ∃v,(part t vs.toArray off).run P w=.ok v w/\nh σ s v e/\∀es,(part t vs.toArray off).events P w es=es:=by
 simp only[part,bO,g.jU,b9,aK,aP,events_isAgg];rw[mW]at b;cases k:i.agg<;>simp only[mD,k]at b
 .cases d:eB 0 (cs.drop off)with
  |none=>grind
  |some a =>
   simp[d]at b;subst b;obtain⟨v,h,f⟩:=(r.drop off).get (cX d);simp at h;refine⟨v,?_,f,λes=>?_⟩<;>simp[h]
 .cases d:n6 i.size (cs.drop off)with
  |none=>grind
  |some q =>
   simp[d]at b;subst b;obtain⟨j,l⟩:=mN d;have c:=(r.drop off).take i.size;rw[<-j]at c;refine⟨.agg (vs.toArray.extract off (off+i.size)),by simp[g.run_sizeOf],⟨(vs.drop off).take i.size,?_,c⟩,λes=>by simp⟩;simp
theorem bD.field{P:aM}{T:List (Nat×TI)}(r:c8 P T){o:aB}{η:aC->D}{σ:List bd}{t:aw}{x:aC}{f:Nat}(h:o.op=.field t x f){cs:List A}{k:Nat}{j:TI}{e:E1}(u:η x=.e (.agg cs))(q:jw T t f=aa (k,j))(p:mD j (gT k cs)=aa e):bD P o η σ (.e e) σ:=by refine .quiet λs y hh hr=>?_;have h1:=hr x;rw[u]at h1;obtain⟨vs,l,b⟩:=h1;obtain⟨i,fs,fl,h1,h2,g,m,B,z,n,g2⟩:=sJ r q;obtain⟨v,a,d,c⟩:=I6 g2 b p s.w;exact⟨v,by simp[ak,h,l,Instr.field,n.run_underlying,h2,g,asAgg,m,a],d,by simp[ak,h,l,Instr.field,n.run_underlying,h2,g,asAgg,m,c]⟩
theorem bD.tk(h:o.op=.nilCheck x)(g:η x=.e (.one (.ptr l off))):bD P o η σ (.e (.one (.ptr l off))) σ:=by refine .quiet λs d hh hr=>?_;have h1:=hr x;rw[g]at h1;have a:=h1;obtain⟨j,L,b,i,f,c⟩:=h1;exact⟨d x,by simp[ak,h,c],a,by simp[ak,h,c]⟩
theorem bD.vj(h:o.op=.nilCheck x){cs:List C}(b:η x=.e (.one (.c (.rp cs)))):bD P o η σ (.e (.one (.c (.rp cs)))) σ:=by refine .quiet λs d hh hr=>?_;have h1:=hr x;rw[b]at h1;have h2:=fH h1;generalize a:d x=vx at h2;cases h2;exact⟨_,by simp[ak,h,a];rfl,by grind,by simp[ak,h,a]⟩
def Gn(new:List ai):∀(j off:Nat)(cs:Array ai),off+j+new.length<=cs.size ->
  ((new.zipIdx j).foldl (λcs (x:ai×Nat)=>cs.setIfInBounds (off+x.2) x.1) cs).toList=cs.toList.take (off+j)++new++cs.toList.drop (off+j+new.length):=by
 induction new with
 |nil=>intro j off cs _;simp
 |cons v vs ih =>
  intro j off cs h;simp only[List.zipIdx_cons,iB];rw[ih (j+1) off _ (by grind)];have:=list_seg_step cs.toList (off+j) v vs (by grind);simpa[Array.toList_setIfInBounds,Nat.add_assoc]using this
def x4(place:Nat->Option (Nat×Nat)):List (Nat×List A)->List A->Option (List A)
 |[],cs=>aa cs
 |(i,new)::rest,cs=>match place i with
  |some (off,size)=>match av new.length size with
   |true=>match fe off new cs with
    |some r=>x4 place rest r
    |none=>af
   |false=>af
  |none=>af
def vE{σ:List bd}{s:St}{place place':Nat->Option (Nat×Nat)}(n:∀i p,place i=aa p->place' i=aa p):∀{parts:List (Nat×List A)}{vparts:List (Nat×ai)}{cs r:List A}{vs:Array ai},
  x4 place parts cs=aa r->vparts.map (·.1)=parts.map (·.1)->(∀(k:Nat) (p:Nat×List A) (q:Nat×ai),parts[k]?=aa p->vparts[k]?=aa q->dZ σ s q.2.cells.toList p.2)->dZ σ s vs.toList cs ->
  ∃d,Instr.fill place' vs vparts=aa d/\dZ σ s d.toList r
 |[],[],cs,r,vs,h,_,_,c=>by cases h;exact⟨vs,rfl,c⟩
 |[],_::_,cs,r,vs,h,a,_,c=>by grind
 |_::_,[],cs,r,vs,h,a,_,c=>by grind
 |(i,new)::rest,(e,v)::Th,cs,r,vs,h,a,l,c=>by
  simp only[jl,List.cons.injEq]at a;obtain⟨rfl,a⟩:=a;simp only[x4]at h;cases b:place e with
  |none=>grind
  |some p =>
   obtain⟨off,size⟩:=p;simp only[b]at h;cases j:av new.length size with
   |false=>grind
   |true =>
    simp only[j]at h;cases o:fe off new cs with
    |none=>grind
    |some q =>
     simp only[o]at h;have f:=l 0 (e,new) (e,v) rfl rfl;simp only at f;have z:=f.length;have m:new.length=size:=bX j;obtain⟨k1,y⟩:=dZ.fe o c f;have B:=Gn v.cells.toList 0 off vs (by grind);have g:v.cells.size=size:=by grind
     have u:off+size<=vs.size:=by grind
     obtain⟨d,w,t⟩:=vE (σ:=σ) (s:=s) n (parts:=rest) (vparts:=Th) (cs:=q) (r:=r)
      (vs:=v.cells.zipIdx.foldl (λcs (x:ai×Nat)=>cs.setIfInBounds (off+x.2) x.1) vs) h a (λk p q w t=>l (k+1) p q (by grind) (by grind)) (by grind[Array.toList_zipIdx])
     refine⟨d,?_,t⟩;simp only[Instr.fill,n _ _ b,g,cR,fa,kS,Bool.false_or,bl];grind
def pQ(T:List (Nat×TI)):List Field->Option (List (Nat×Nat))
 |[]=>aa []
 |f::fs=>match bE T f.type with
  |some j=>match pQ T fs with
   |some r=>aa ((f.offset,j.size)::r)
   |none=>af
  |none=>af
def vF{P:aM}{T:List (Nat×TI)}(a:c8 P T):∀{fs:List Field}{r:List (Nat×Nat)},pQ T fs=aa r->fs.mapM (λf=>(P.info? f.type).map λi=>(f.offset,i.size))=aa r
 |[],r,h=>by cases h;simp
 |f::fs,r,h=>by
  simp only[pQ]at h;cases c:bE T f.type with
  |none=>grind
  |some j =>
   cases b:pQ T fs with
   |none=>grind
   |some q =>
    simp[c,b]at h;subst h;obtain⟨e,z,d,g,_⟩:=(a _ _ c).info;simp[kQ,d,g,vF a b]
def oQ(η:aC->D):List (Nat×aC)->Option (List (Nat×List A))
 |[]=>aa []
 |(i,x)::r=>match kI (η x)with
  |some cs=>match oQ η r with
   |some q=>aa ((i,cs)::q)
   |none=>af
  |none=>af
def sK{σ:List bd}{s:St}{a:aC->ai}{η:aC->D}(c:∀y,dk σ s (a y) (η y)):∀{l:List (Nat×aC)}{q:List (Nat×List A)},oQ η l=aa q ->
  (l.map λ(i,x)=>(i,a x)).map (·.1)=q.map (·.1)/\∀(k:Nat) (p:Nat×List A) (u:Nat×ai),q[k]?=aa p->(l.map λ(i,x)=>(i,a x))[k]?=aa u->dZ σ s u.2.cells.toList p.2
 |[],q,h=>by cases h;simp
 |(i,x)::r,q,h=>by
  simp only[oQ]at h;cases d:kI (η x)with
  |none=>grind
  |some cs =>
   cases b:oQ η r with
   |none=>grind
   |some q' =>
    simp[d,b]at h;subst h;obtain⟨e,f⟩:=sK c b;grind[ld]
def zq(T:List (Nat×TI))(η:aC->D)(t:aw)(parts:List (Nat×aC)):Option (List A) :=
 match bE T t with
 |some i=>match i.desc with
  |.struct fs=>match pQ T fs.toList with
   |some pl=>match oQ η parts with
    |some ps=>x4 (λk=>eB k pl) ps (i.zero.map A.c)
    |none=>af
   |none=>af
  |_=>af
 |none=>af
theorem bD.build{P:aM}{T:List (Nat×TI)}(g:c8 P T){o:aB}{η:aC->D}{σ:List bd}{t:aw}{parts:Array (Nat×aC)}(h:o.op=.build t parts){cs:List A}(b:zq T η t parts.toList=aa cs):bD P o η σ (.e (.agg cs)) σ:=by
 refine .quiet λs u hh hr=>?_;unfold zq at b;cases hi:bE T t with
 |none=>grind
 |some i =>
  simp only[hi]at b;cases j:i.desc with
  |struct fs =>
   simp only[j]at b;cases c:pQ T fs.toList with
   |none=>grind
   |some pl =>
    simp only[c]at b;cases f:oQ η parts.toList with
    |none=>grind
    |some ps =>
     simp only[f]at b;obtain⟨q,z,l,F,C,v,r,G,B⟩:=(g t i hi).info;obtain⟨y,p2⟩:=sK (σ:=σ) (s:=s) hr f;obtain⟨d,n,m⟩:=vE (σ:=σ) (s:=s) (place':=λk=>pl.toArray[k]?) (λk p E=>by grind[cX]) b y p2 (ki r);have hb:P.built t (parts.map λ(i,x)=>(i,u x)).toList=aa d:=by unfold Program.built;have a:=(g t i hi).RX;rw[j]at a;simp only[l,a,v,vF g c];simpa using n
     refine⟨.agg d,?_,⟨d.toList,by simp,m⟩,?_⟩
     .simp only[ak,h,bO,run_build s.w t _ d hb,b9,cT]
     .simp only[ak,h,aK,run_build s.w t _ d hb,aP,Sem.events_pure];exact cV.build s.w #[]
  |_=>grind
theorem Qp(hi:i<n)(b:j<k):i*k+j<n*k:=by have a:(i+1)*k<=n*k:=eu k (by omega);grind
theorem MU(a:j<k):(i*k+j) / k=i:=by grind[Nat.mul_comm,Nat.mul_add_div,Nat.div_eq_of_lt]
theorem MV(a:j<k):(i*k+j) % k=j:=by rw[Nat.mul_comm,Nat.mul_add_mod,Nat.mod_eq_of_lt a]
def Flat.nil:Flat M k 0 es []:=⟨by simp,by omega,by omega⟩
def cy(n:Nat)(f g:Nat->List C):Nat->List C:=λi=>if i<n then f i else g (i-n)
def Flat.append{m:Nat}{es':Nat->List C}{b:List ai}(h:Flat M k n es vs)(d:Flat M k m es' b):Flat M k (n+m) (cy n es es') (vs++b):=by
 refine⟨by simp[h.len,d.len,gM],λi hi=>?_,λi hi j c hj=>?_⟩
 .simp only[cy];split
  .rename_i a;exact h.width i a
  .exact d.width _ (by omega)
 .simp only[cy]at hj;split at hj
  .rename_i a;obtain⟨v,h1,h2⟩:=h.rd i a j c hj;grind
  .rename_i e;obtain⟨v,h1,h2⟩:=d.rd _ (by omega) j c hj;refine⟨v,?_,h2⟩;have e1:i*k+j=vs.length+((i-n)*k+j):=by rw[h.len,<-Nat.add_assoc,<-gM,yX (by omega)]
   grind
def Flat.cell{M:Mem}{k n:Nat}{es:Nat->List C}{vs:List ai}(h:Flat M k n es vs):∀v∈vs,v.oneCell'=ab:=by
 intro v b;obtain⟨p,c,rfl⟩:=dN b;rw[h.len]at c;have a:0<k:=by grind
 have hi:p / k<n:=pn (by grind);have hj:p % k<k:=jo _ a;have d:=h.width _ hi;obtain⟨v,h1,h2⟩:=h.rd (p / k) hi (p % k) ((es (p / k))[p % k]'(by omega)) (bm (by omega));have e:p / k*k+p % k=p:=pr p k;rw[e]at h1;rw[bm (by grind)]at h1;simp at h1;rw[h1];have:=Rd.cell h2;cases v<;>simp_all[cW,Value.oneCell']
def Rd.flat{t:Bool}(h:Rd M v (.sl t k n es)):
  ∃a cap vs,v=.slice a n cap/\n<=cap/\cap<=9223372036854775807/\(t=ab->cap=n)/\Flat M k n es vs/\∀p u,vs[p]?=aa u->∃b off,a=aa ⟨b,off,af⟩/\M b (off+p)=aa u:=by
 cases h with
 |@sl a _ cap _ _ _ b off f c hb ht hk ha hm hr =>
  refine⟨a,cap,(bh (n*k)).map λp=>f (p / k) (p % k),rfl,c,hb,ht,⟨by simp,hk,?_⟩,?_⟩
  .grind [Qp,MU,MV]
  .intro p u g;simp only[nq]at g;by_cases d:p<n*k
   .simp[d]at g;subst g;have e:0<k:=by grind
    have hi:p / k<n:=pn (by grind);have hj:p % k<k:=jo _ e;have i:=hk _ hi;have:=hm (p / k) hi (p % k) ((es (p / k))[p % k]'(by omega)) (bm (by omega));refine⟨b,off,ha (Nat.lt_of_le_of_lt (iN _) hi),?_⟩;grind[Nat.div_add_mod']
   grind
def Rd.qm(h:Flat M k n es vs){a:Option Addr}{cap:Nat}{t:Bool}(f:0<n->a=aa ⟨b,off,af⟩)(d:n<=cap)(hb:cap<=9223372036854775807)(e:t=ab->cap=n)(hm:∀p u,vs[p]?=aa u->M b (off+p)=aa u):Rd M (.slice a n cap) (.sl t k n es):=by
 refine .sl b off (λi j=>(vs[i*k+j]?).getD ah) d hb e h.width f (λi hi j c hj=>?_) (λi hi j c hj=>?_)
 .obtain⟨v,h1,h2⟩:=h.rd i hi j c hj;grind
 .obtain⟨v,h1,h2⟩:=h.rd i hi j c hj;grind
def dT(i:aD σ s){t:Bool}(h:Rd s.M v (.sl t k n es)):
  ∃vs,Flat s.M k n es vs/\(Builtin.firstCells k n v).run P s.w=.ok vs.toArray s.w/\Builtin.lenOf v=pure n:=by
 obtain⟨a,cap,vs,rfl,e,q,p,f,d⟩:=h.flat;refine⟨vs,f,?_,rfl⟩;have g:vs.length=n*k:=f.len;cases a with
 |none =>
  have:vs=[]:=by
   cases vs with
   |nil=>rfl
   |cons u o=>obtain⟨b,off,c,_⟩:=d 0 u rfl;cases c
  subst this;rfl
 |some ad =>
  simp only[Builtin.firstCells];rw[<-g];refine run_loadCells_list s.w ad vs λj u m=>?_;obtain⟨b,off,c,l⟩:=d j u m;cases c;rw[dm];exact i.mem _ _ _ l
def bD.Ip{T:List (Nat×TI)}(g:c8 P T)(h:o.op=.index t x y){l:List UInt8}{j:Int}{k:IntKind}{i:TI}{m:Nat}(hi:bE T t=aa i)(n:i.desc=.string)(r:η x=.e (.one (.c (.str l))))(u:η y=.e (.one (.c (.int k j))))(hj:j=m)(hm:m<l.length):bD P o η σ (.e (.one (.c (.int .u8 (l[m]).toNat)))) σ:=by
 refine .quiet λs f hh hr=>?_;have h1:=hr x;have h2:=hr y;rw[r]at h1;rw[u]at h2;replace h1:=fH h1;replace h2:=fH h2;generalize d:f x=vx at h1;generalize b:f y=vy at h2;cases h1 with
 |@str sb _ q hl =>
 cases h2;subst q;have p:sb[m]?=aa (sb.data.toList[m]):=by
  have hm':m<sb.size:=by have e:sb.data.toList.length=sb.size:=iS;omega
  rw[getElem?_pos sb m hm'];congr 1
 refine⟨.int .u8 (sb.data.toList[m]).toNat,?_,Rd.int ?_,?_⟩
 rotate_left 2
 .have a:=(g t i hi).run_underlying (w:=s.w);rw[n]at a;simp[ak,h,d,b,Instr.index,asIntOf,a,hj,p]
 .have a:=(g t i hi).run_underlying (w:=s.w);rw[n]at a;simp[ak,h,d,b,Instr.index,asIntOf,a,hj,p]
 .have:=(sb.data.toList[m]).toNat_lt;simp only[bw];omega
def bD.indexAddr{T:List (Nat×TI)}(A:c8 P T)(h:o.op=.indexAddr t x y){i ie:TI}(hi:bE T t=aa i)(D:i.desc=.slice E)(G:bE T E=aa ie){tt:Bool}{j:Int}{k:IntKind}{m:Nat}(C:∀s v,dk σ s v (η x)->Rd s.M v (.sl tt ie.size n es))(F:η y=.e (.one (.c (.int k j))))(hj:j=m)(d:m<n):
  bD P o η σ (.e (.one (.c (.rp (es m))))) σ:=by
 refine .quiet λs z hh hr=>?_;have h1:=C s _ (hr x);have h2:=hr y;rw[F]at h2;replace h2:=fH h2;generalize r:z x=vx at h1;generalize l:z y=vy at h2;cases h2;cases h1 with
 |@sl a _ cap _ _ _ b off f B hb ht hk ha hm' LI =>
 have p:0<n:=by omega
 have u:=(A t i hi).run_underlying (w:=s.w);rw[D]at u;refine⟨.pointer (aa ⟨b,off+m*ie.size,af⟩),?_,Rd.rp b (off+m*ie.size) (f m) (λq c g=>hm' m d q c g) (λq c g=>LI m d q c g),?_⟩<;>
 simp[ak,h,r,l,Instr.indexAt,asIntOf,u,hj,ha p,(A E ie G).run_sizeOf,dm,d]
def bD.SN{T:List (Nat×TI)}(j:c8 P T)(h:o.op=.call {callee:=.builtin .len,args:=#[x],argTypes:=jJ})(g:jJ[0]?=aa t){i:TI}(hi:bE T t=aa i)(p:i.desc=.slice E){tt:Bool}(l:∀s v,dk σ s v (η x)->Rd s.M v (.sl tt k n es)):bD P o η σ (.e (.one (.c (.int .i64 n)))) σ:=by
 refine .quiet λs q hh hr=>?_;obtain⟨a,cap,vs,m,f,hb,_⟩:=(l s _ (hr x)).flat;have d:=(j t i hi).run_underlying (w:=s.w);rw[p]at d;have b:jJ[0]?=aa t:=g;refine⟨.int .i64 n,?_,Rd.int (by simp only[bw];omega),?_⟩<;>
 simp[ak,h,resolve,invoke,builtin,Builtin.len_,m,d,goInt,b]
theorem bD.PR{T:List (Nat×TI)}(m:c8 P T)(h:o.op=.call {callee:=.builtin .len,args:=#[x],argTypes:=jJ})(j:jJ[0]?=aa t){i:TI}(hi:bE T t=aa i)(p:i.desc=.string){l:List UInt8}(n:η x=.e (.one (.c (.str l)))):bD P o η σ (.e (.one (.c (.int .i64 l.length)))) σ:=by
 refine .quiet λs k hh hr=>?_;have h1:=hr x;rw[n]at h1;replace h1:=fH h1;generalize d:k x=vx at h1;cases h1 with
 |@str sb _ g hl =>
 have f:=(m t i hi).run_underlying (w:=s.w);rw[p]at f;have a:jJ[0]?=aa t:=j;have b:sb.size=l.length:=by rw[<-g];exact iS.symm
 refine⟨.int .i64 l.length,?_,Rd.int (by simp only[bw];omega),?_⟩<;>
 simp[ak,h,resolve,invoke,builtin,Builtin.len_,d,f,goInt,a,b]
def St.newRow(s:St)(E:aw)(vs:List ai):St :=
 {β:=s.β,M:=λb o=>if b=s.w.heap.size then vs[o]? else s.M b o,w:=s.w.alloc (.cells vs.toArray E),own:=s.own}
def aD.newRow{σ:List bd}{s:St}(h:aD σ s)(E:aw)(vs:List ai):aD σ (s.newRow E vs)/\Step σ s σ (s.newRow E vs):=by
 refine h.grow (by simp) (λb hb=>cM _ _ hb) (λb hb o=>by grind) (λb hb o v hm=>?_) rfl rfl rfl;by_cases e:b=s.w.heap.size
 .subst e;simp at hm;show aV (s.w.alloc (.cells vs.toArray E)) ⟨s.w.heap.size,o,af⟩=aa v;unfold aV;grind[dF]
 .simp only[e,bM]at hm;have:=h.block hm;omega
def Gp(s:St)(E:aw)(vs:List ai):∀p u,vs[p]?=aa u->(s.newRow E vs).M s.w.heap.size (0+p)=aa u:=by intro p u h;simpa[St.newRow]using h
def gN:List A->Option (List C)
 |[]=>aa []
 |.c c::r=>match gN r with|some q=>aa (c::q)|none=>af
 |.vec _ k n es::r=>match gN r with|some q=>aa (.sl ae k n es::q)|none=>af
 |_::_=>af
def lh{σ:List bd}{s:St}:∀{cs:List A}{r:List C}{vs:List ai},gN cs=aa r->dZ σ s vs cs->dZ σ s vs (r.map A.c)
 |[],r,vs,h,a=>by cases h;exact a
 |_::_,_,[],_,a=>a.elim
 |.c c::al,r,v::vs,h,a=>by
  simp only[gN]at h;cases b:gN al with
  |none=>grind
  |some q=>simp[b]at h;subst h;exact⟨a.1,lh b a.2⟩
 |.vec l k n es::al,r,v::vs,h,a=>by
  simp only[gN]at h;cases b:gN al with
  |none=>grind
  |some q=>simp[b]at h;subst h;exact⟨a.1.1,lh b a.2⟩
 |.ptr l o::al,r,v::vs,h,a=>by simp[gN]at h
 |.ref l::al,r,v::vs,h,a=>by simp[gN]at h
 |.bp l w::al,r,v::vs,h,a=>by simp[gN]at h
 |.any::al,r,v::vs,h,a=>by simp[gN]at h
def sL{α:Type}(k:Nat):Nat->List α->Option (List (List α))
 |0,[]=>aa []
 |0,_::_=>af
 |n+1,l=>match n6 k l with
  |some c=>match sL k n (gT k l)with
   |some r=>aa (c::r)
   |none=>af
  |none=>af
def dZ.closed:∀{vs:List ai}{cs:List C},dZ σ s vs (cs.map A.c)->∀(j:Nat)(c:C),cs[j]?=aa c->∃v,vs[j]?=aa v/\Rd s.M v c:=by intro vs cs h j c hj;obtain⟨v,h1,h2⟩:=h.get (j:=j) (a:=.c c) (by grind);exact⟨v,h1,h2⟩
def x5{M:Mem}{k:Nat}:∀{n:Nat}{cs:List C}{es:List (List C)}{vs:List ai},sL k n cs=aa es->vs.length=cs.length->(∀(j:Nat)(c:C),cs[j]?=aa c->∃v,vs[j]?=aa v/\Rd M v c)->es.length=n/\Flat M k n (λi=>es.getD i []) vs
 |0,[],es,vs,h,a,b=>by cases h;simp at a;subst a;exact⟨rfl,.nil⟩
 |0,_::_,es,vs,h,a,b=>by cases h
 |n+1,cs,es,vs,h,a,b=>by
  simp only[sL]at h;cases f:n6 k cs with
  |none=>grind
  |some c =>
   simp only[f]at h;cases d:sL k n (gT k cs)with
   |none=>grind
   |some q =>
    simp[d]at h;subst h;obtain⟨l,g⟩:=mN f;rw[mW]at d;obtain⟨s,o⟩:=x5 (vs:=vs.drop k) d (by grind) (λj c p=>by
     obtain⟨v,l,g⟩:=b (k+j) c (by grind)
     exact⟨v,by grind,g⟩)
    refine⟨by grind,?_⟩;have r:k<=cs.length:=by grind
    have m:Flat M k 1 (λ_=>c) (vs.take k):=by refine⟨by grind,by grind,λi hi j x p=>?_⟩;grind
    have:=m.append o;rw[Nat.add_comm 1 n]at this;have e:cy 1 (λ_=>c) (λi=>q.getD i [])=λi=>(c::q).getD i []:=by funext i;cases i<;>simp[cy]
    rw[e]at this;simpa using this
def Mo(T:List (Nat×TI))(η:aC->D)(t:aw)(n:Nat)(parts:List (Nat×aC)):Option (Nat×List (List C)) :=
 match bE T t with
 |some i=>match i.desc with
  |.slice E=>match bE T E with
   |some ie=>match av ie.size 0 with
    |true=>af
    |false=>match bu (n*ie.size) 16777216 with
     |true=>match oQ η parts with
      |some ps=>match x4 (λk=>aa (k*ie.size,ie.size)) ps (List.replicate (n*ie.size) A.any)with
       |some cs=>match gN cs with
        |some r=>match sL ie.size n r with
         |some es=>aa (ie.size,es)
         |none=>af
        |none=>af
       |none=>af
      |none=>af
     |false=>af
   |none=>af
  |_=>af
 |none=>af
theorem bD.buildSlice{P:aM}{T:List (Nat×TI)}(J:c8 P T){o:aB}{η:aC->D}{σ:List bd}{t:aw}{n:Nat}{parts:Array (Nat×aC)}(h:o.op=.buildSlice t n parts){k:Nat}{es:List (List C)}(a:Mo T η t n parts.toList=aa (k,es)):bD P o η σ (.e (.one (.c (.sl ab k n λi=>es.getD i [])))) σ:=by
 intro s O hh hr;unfold Mo at a;cases hi:bE T t with
 |none=>grind
 |some i =>
  simp only[hi]at a;cases W:i.desc with
  |slice E =>
   simp only[W]at a;cases K:bE T E with
   |none=>grind
   |some ie =>
    simp only[K]at a;cases U:av ie.size 0 with
    |true=>grind
    |false =>
     simp only[U]at a;cases g:bu (n*ie.size) 16777216 with
     |false=>grind
     |true =>
      simp only[g]at a;cases B:oQ η parts.toList with
      |none=>grind
      |some ps =>
       simp only[B]at a;cases y:x4 (λk=>aa (k*ie.size,ie.size)) ps (List.replicate (n*ie.size) A.any)with
       |none=>grind
       |some cs =>
        simp only[y]at a;cases F:gN cs with
        |none=>grind
        |some r =>
         simp only[F]at a;cases j:sL ie.size n r with
         |none=>grind
         |some es' =>
          simp only[j,dx,ln]at a;obtain⟨rfl,rfl⟩:=a;have hz0:ie.size≠0:=λe=>by rw[e]at U;cases U
          have X:=dJ g;obtain⟨inf,z,z1,z2,z3,z4,V,z6,z7⟩:=(J E ie K).info;have Z:z.cells.size=ie.size:=by have:=dA List.length V;grind
          have hzc:∀v∈z.cells.toList,cW v=ab:=by intro v N;have d:qv v∈z.cells.toList.map qv:=jS.2 ⟨v,N,rfl⟩;rw[V]at d;obtain⟨c,_,Y⟩:=jS.1 d;exact(Rd.qv (M:=s.M) Y.symm).cell
          have G:∀m,(∀v∈(bh m).map (λq=>z.cells[q % z.cells.size]!),cW v=ab):=by grind[Nat.mod_lt]
          have H:∀vs:List ai,(∀v∈vs,cW v=ab)->dZ σ s vs (List.replicate vs.length A.any):=by
           intro vs;induction vs with
           |nil=>intro _;trivial
           |cons v vs ih=>intro N;exact⟨N v (by simp),ih λu L=>N u (by grind)⟩
          obtain⟨p1,p2⟩:=sK (σ:=σ) (s:=s) hr B;have S:dZ σ s ((Array.range (n*ie.size)).map (λq=>z.cells[q % z.cells.size]!)).toList (List.replicate (n*ie.size) A.any):=by have:=H _ (G (n*ie.size));simpa using this
          obtain⟨l,u1,u2⟩:=vE (σ:=σ) (s:=s) (place':=λk=>aa (k*ie.size,ie.size)) (λk p hk=>hk) y p1 p2 S;have u3:=lh F u2;obtain⟨c1,c2⟩:=x5 (M:=s.M) (vs:=l.toList) j (by simpa using u3.length) u3.closed;obtain⟨g1,g2⟩:=hh.newRow E l.toList;refine⟨.value (.slice (aa ⟨s.w.heap.size,0,af⟩) n n),s.newRow E l.toList,?_,?_,g1,g2,?_⟩
          rotate_left 2
          .have e:(ak O o).events P s.w #[]=#[]:=by simp only[ak,h];exact cV.bind cV.buildSlice (λ_=>cV.pure) _ _
           rw[e];exact .nil
          .have L:=(J t i hi).run_underlying (w:=s.w);rw[W]at L;have Q:(zeroValue E).run P s.w=.ok z s.w:=by simp[zeroValue,typeInfo,z1,z4]
           have f:Instr.fill (λk=>aa (k*ie.size,ie.size)) ((Array.range (n*ie.size)).map (λq=>z.cells[q % z.cells.size]!)) (parts.map λ(i,x)=>(i,O x)).toList=aa l:=by simpa using u1
           by_cases h0:n*ie.size=0
           .have R:n=0:=by grind[Nat.mul_eq_zero]
            subst R;have I:Array.range 0=#[]:=rfl;simp[I]at f;simp[ak,h,Instr.buildSlice,L,(J E ie K).run_sizeOf,I,f,Go.newRow,St.newRow]
           .rw[show ak O o=(do pure (.value (<-Instr.buildSlice t n (parts.map λ(i,x)=>(i,O x))))) by simp[ak,h]];simp only[Instr.buildSlice,bO,L,b9,(J E ie K).run_sizeOf,h0,bM,Q,show¬n*ie.size>2 ^ 24 by omega,rf,f,cT];simp[Go.newRow,St.newRow]
          .refine Rd.qm (c2.mono g2.mem) (b:=s.w.heap.size) (off:=0) (λ_=>rfl) (aZ _) ?_ (λ_=>rfl) (Gp s E l.toList);have:n<=n*ie.size:=ue n (by omega);omega
  |_=>grind
def Ext.trans{σ σ1 σ2:List bd}{s a s2:St}(h:Ext σ s σ1 a)(k:Ext σ1 a σ2 s2):Ext σ s σ2 s2:=by refine⟨λb o v j=>k.mem _ _ _ (h.mem _ _ _ j),λl B L q m=>?_⟩;obtain⟨B1,L1,h1,h2,f⟩:=h.box l B L q m;obtain⟨n,p,k1,c,e⟩:=k.box l B1 L1 h1 h2;exact⟨n,p,k1,c,f.trans e⟩
def fS{l:List α}{x y:α}{i:Nat}(h:(l++[x])[i]?=aa y):l[i]?=aa y∨(i=l.length/\y=x):=by grind
def aD.gx{a:St}(h1:aD σ a)(st:Step σ s σ a)(o:a.β=s.β)(hh:aD σ s){B:bd}{L:Loc}(p:eH (σ++[B]) {a with β:=a.β++[L]} B L)(f:∀b∈L.bs,s.w.heap.size<=b/\b<a.w.heap.size):aD (σ++[B]) {a with β:=a.β++[L]}/\Step σ s (σ++[B]) {a with β:=a.β++[L]}:=by
 have ex:Ext σ a (σ++[B]) {a with β:=a.β++[L]}:=by refine⟨λ_ _ _ h=>h,λl B' L' lQ gm=>?_⟩;have hl:l<a.β.length:=(b8.1 gm).1;have n:l<σ.length:=(b8.1 lQ).1;exact⟨B',L',by grind,by grind,.refl _ _⟩
 have e2:=st.ext.trans ex;refine⟨⟨h1.mem,by simp[h1.len],?_,?_,?_,?_⟩,⟨st.size,st.keep,st.mem,st.iI,?_,e2.box,st.os,st.tape,st.output,st.own⟩⟩
 .intro l B' L' lQ gm;rcases fS lQ with j|⟨rfl,rfl⟩
  .have hl:l<a.β.length:=by rw[h1.len];grind
   rw[jh hl]at gm;exact(h1.box l B' L' j gm).carry ex h1.len λ_ _=>⟨rfl,λ_=>rfl⟩
  .rcases fS gm with c|⟨_,rfl⟩
   .have:=(b8.1 c).1;rw[h1.len]at this;omega
   grind
 .intro l l' L1 L2 c k b hb nZ;rcases fS c with k1|⟨rfl,rfl⟩<;>rcases fS k with m|⟨rfl,rfl⟩
  .exact h1.eU l l' L1 L2 k1 m b hb nZ
  .have a1:=f b nZ;have a2:=hh.lt L1 (by grind) b hb;omega
  .have a1:=f b hb;have a2:=hh.lt L2 (by grind) b nZ;omega
  .rfl
 .intro L' gm b hb;simp only[fz,iT]at gm;rcases gm with gm|rfl
  .exact h1.lt L' gm b hb
  grind
 .intro b hb;refine⟨(h1.own b hb).1,λL' gm Pl=>?_⟩;simp only[fz,iT]at gm;rcases gm with gm|rfl
  .exact(h1.own b hb).2 L' gm Pl
  .have e:=st.own;simp only at hb;rw[e]at hb;have:=(hh.own b hb).1;grind
 grind
def aD.hX{M':Mem}(hh:aD σ s){B B':bd}{L L':Loc}(r:σ[l]?=aa B)(h:s.β[l]?=aa L)(A:hU B L B' L')(q:s.w.heap.size<=w'.heap.size)(I:∀b,b<s.w.heap.size->b∉L.bs->w'.heap[b]?=s.w.heap[b]?)(J:∀b,b<s.w.heap.size->b∉L.bs->∀o,M' b o=s.M b o)(k:∀b o v,s.M b o=aa v->M' b o=aa v)(F:∀b o v,M' b o=aa v->w'.cell? ⟨b,o,af⟩=aa v)(D:∀b∈L'.bs,(b∈L.bs∨s.w.heap.size<=b)/\b<w'.heap.size)(ho:w'.os=s.w.os)(C:w'.tape=s.w.tape)(E:w'.output=s.w.output)(K:eH (σ.set l B') ⟨s.β.set l L',M',w',s.own⟩ B' L'):aD (σ.set l B') ⟨s.β.set l L',M',w',s.own⟩/\Step σ s (σ.set l B') ⟨s.β.set l L',M',w',s.own⟩:=by
 have z:l<σ.length:=(b8.1 r).1;have x:l<s.β.length:=(b8.1 h).1;have a:∀i X,(s.β.set l L')[i]?=aa X->(i=l/\X=L')∨(i≠l/\s.β[i]?=aa X):=by grind
 have ex:Ext σ s (σ.set l B') ⟨s.β.set l L',M',w',s.own⟩:=by
  refine⟨k,λi X Y c m=>?_⟩;by_cases e:l=i
  .grind
  .exact⟨X,Y,by grind,by grind,.refl _ _⟩
 have out:∀i X,i≠l->s.β[i]?=aa X->∀b∈X.bs,b<s.w.heap.size/\b∉L.bs:=by intro i X hi c b hb;exact⟨hh.lt X (bH c) b hb,λp=>hi (hh.eU i l X L c h b hb p)⟩
 refine⟨⟨F,by simp[hh.len],?_,?_,?_,?_⟩,⟨q,?_,k,?_,?_,ex.box,ho,C,E,rfl⟩⟩
 .intro i X Y c m;rcases a i Y m with⟨rfl,rfl⟩|⟨hi,m⟩
  .grind
  .rw[kF (λe=>hi e.symm)]at c;refine(hh.box i X Y c m).carry ex hh.len λb hb=>?_;grind
 .intro i y X u c f b hb nZ;rcases a i X c with⟨rfl,rfl⟩|⟨hi,t⟩<;>rcases a y u f with⟨rfl,rfl⟩|⟨n,j⟩
  .rfl
  .grind
  .grind
  .exact hh.eU i y X u t j b hb nZ
 .intro X c b hb;obtain⟨i,hi,rfl⟩:=dN c;rcases a i _ (bm hi)with⟨rfl,e⟩|⟨n,f⟩
  .grind
  grind
 .intro b hb;obtain⟨H,G⟩:=hh.own b hb;grind
 .grind
 .grind
 grind
def rj{a old bytes:Nat}(h:old<a)(b:a*bytes<=140737488355328):¬Builtin.nextslicecap a old*bytes>2 ^ 48:=by have:=growslice_fits h b;omega
section
variable {T:List (Nat×TI)}(g:c8 P T){d:aw}{i i2 ie:TI}
def iO(hi:dC P t i)(r:i.desc=.slice E)(h:dC P d i2)(f:i2.desc=.slice E)(u:dC P E ie)(p:aD σ s){a:Option Addr}{cap:Nat}(e:n<=cap){x:ai}{tx:Bool}{es':Nat->List C}(m:Rd s.M x (.sl tx ie.size 0 es')):
  (Builtin.append_ #[t,d] ty #[.slice a n cap,x]).run P s.w=.ok (.slice a n cap) s.w:=by obtain⟨b,v,q,l⟩:=dT (P:=P) p m;have k:=hi.run_underlying (w:=s.w);have c:=h.run_underlying (w:=s.w);rw[r]at k;rw[f]at c;obtain⟨a',o,vs,rfl,_⟩:=m.flat;have j:b=[]:=jg (by simpa using v.len);subst j;cases a<;>simp[Builtin.append_,k,c,u.run_sizeOf,Builtin.lenOf,e,q,storeCells]
def ia(hi:dC P t i)(hd:i.desc=.slice E)(A:dC P d i2)(y:i2.desc=.slice E)(N:dC P E ie)(hh:aD σ s){a:Option Addr}{cap m:Nat}{U tx:Bool}{es':Nat->List C}{x:ai}(X:Rd s.M (.slice a n cap) (.sl U ie.size n es))(S:Rd s.M x (.sl tx ie.size m es'))(W:cap<n+m)(J:(n+m)*ie.bytes<=140737488355328)(G:ie.bytes≠0):
  ∃vs zs LV,Flat s.M ie.size (n+m) (cy n es es') vs/\n+m<=LV/\LV<=9223372036854775807/\(vs++zs).length=LV*ie.size /\
   (Builtin.append_ #[t,d] ty #[.slice a n cap,x]).run P s.w=.ok (.slice (aa ⟨s.w.heap.size,0,af⟩) (n+m) LV) (s.w.drew.alloc (.cells (vs++zs).toArray E)):=by
 have p:aD σ {s with w:=s.w.drew}:=hh.same rfl;obtain⟨b,K,F,j⟩:=dT (P:=P) p (v:=x) S;obtain⟨c,q,h,R⟩:=dT (P:=P) p (v:=.slice a n cap) X;have O:=hi.run_underlying (w:=s.w);have r:=A.run_underlying (w:=s.w);rw[hd]at O;rw[y]at r;obtain⟨l,z,L,z2,z3,z4,Y,z6,z7⟩:=N.info;have Q:n+m<=140737488355328:=dO (ue _ (Nat.pos_of_ne_zero G)) J;have B:z.cells.size=ie.size:=by have:=dA List.length Y;grind
 refine⟨c++b,(Builtin.zeroCells z.cells (grownCap s.w (n+m) cap E-(n+m))).toList,grownCap s.w (n+m) cap E,q.append K,grownCap_ge _ _ _ _,?_,?_,?_⟩
 .have:=grownCap_le_maxLen s.w (n+m) cap E (by unfold maxLen;omega);unfold maxLen at this;omega
 .have V:=grownCap_ge s.w (n+m) cap E;simp only[cv,q.len,K.len,iS,size_zeroCells,B,<-gM];grind
 .have XW:=rj W J;have o:¬Builtin.nextslicecap (n+m) cap*l.bytes>2 ^ 48:=by grind
  have k:¬n+m<=cap:=by omega
  have D:¬((n+m:Nat):Int)>IntKind.i64.max:=by have e:IntKind.i64.max=9223372036854775807:=rfl;grind
  have H:∀u,(typeInfo E).run P u=.ok l u:=λu=>by simp[typeInfo,L]
  have I:∀u,(zeroValue E).run P u=.ok z u:=λu=>by simp[zeroValue,typeInfo,L,z4]
  have f:(Builtin.lenOf x).run P s.w=.ok m s.w:=by rw[j];rfl
  replace F:(Builtin.firstCells ie.size m x).run P s.w.drew=.ok b.toArray s.w.drew:=F;replace h:(Builtin.firstCells ie.size n (.slice a n cap)).run P s.w.drew=.ok c.toArray s.w.drew:=h
  unfold Builtin.append_;simp only[g8,kC,nj,bO,O,r,b9,N.run_sizeOf,cT,gJ,bM,f,k,
   D,false_and,H,o,run_choose,Question.forced,run_askRoom,rf,World.drew_eq,h,F,kR,b5,I]
  simp[Go.newRow,grownCap];have e:∀Z:Array ai,(c++b).toArray++Z=(c++(b++Z.toList)).toArray:=λZ=>by grind
  rw[e];rfl
def jT(hi:dC P t i)(B:i.desc=.slice E)(o:dC P d i2)(l:i2.desc=.slice E)(z:dC P E ie)(D:aD σ s){cap m:Nat}{v:aw}{c:List ai}(F:s.w.heap[b]?=aa (.cells c.toArray v (0,0)))(j:c.length=cap*ie.size){tx:Bool}{es':Nat->List C}{x:ai}(y:Rd s.M x (.sl tx ie.size m es'))(q:n+m<=cap):
  ∃a,Flat s.M ie.size m es' a/\(Builtin.append_ #[t,d] ty #[.slice (aa ⟨b,0,af⟩) n cap,x]).run P s.w=.ok (.slice (aa ⟨b,0,af⟩) (n+m) cap) (s.w.setRow b (c.take (n*ie.size)++a++c.drop (n*ie.size+a.length)).toArray):=by
 obtain⟨a,p,A,h⟩:=dT (P:=P) D y;have r:=hi.run_underlying (w:=s.w);have k:=o.run_underlying (w:=s.w);rw[B]at r;rw[l]at k;have u:n*ie.size+a.length<=c.length:=by rw[p.len,j,<-gM];exact eu _ q
 have f:=run_storeCells_at P b (n*ie.size) v a 0 c.toArray s.w F (by grind) p.cell;simp only[hI]at f;have e:(Builtin.lenOf x).run P s.w=.ok m s.w:=by rw[h];rfl
 refine⟨a,p,?_⟩;unfold Builtin.append_;simp only[g8,kC,nj,bO,r,k,b9,z.run_sizeOf,cT,gJ,bM,e,q,b5,kR,A,dm,br,f]
end
def CP{x:Sem α}{es:Array Event}{e:Event}(h:e∈x.events P w es):e∈es∨e∈x.events P w #[]:=by grind[Sem.events_acc]
def XX(s:St)(e:Event):Prop:=∃b o u,e=y3 b o/\s.M b o=aa u
def gH(r:aD σ s){t:Bool}(h:Rd s.M v (.sl t k n es))(B:w.heap=s.w.heap):
  ∀e∈(Builtin.firstCells k n v).events P w #[],XX s e:=by
 obtain⟨a,cap,vs,rfl,q,G,E,C,y⟩:=h.flat;have D:vs.length=n*k:=C.len;intro e f;cases a with
 |none=>simp[Builtin.firstCells]at f
 |some ad =>
  simp only[Builtin.firstCells]at f;have c:∀j,j<n*k->∃b off u,ad=⟨b,off,af⟩/\s.M b (off+j)=aa u:=by intro j m;obtain⟨b,off,F,o⟩:=y j (vs[j]'(by omega)) (bm (by omega));grind
  by_cases x:n*k=0
  .rw[x]at f;simp[loadCells,loadCellsFrom]at f
  .obtain⟨b,off,_,rfl,_⟩:=c 0 (by omega);have z:∀j,j<n*k->∃v,w.cell? ⟨b,off+j,af⟩=aa v:=by intro j m;obtain⟨A,l,u,p,o⟩:=c j m;cases p;have:=r.mem _ _ _ o;exact⟨u,by simp only[aV,B]at this⊢;exact this⟩
   rcases rl (P:=P) z e f with h|⟨j,m,rfl⟩
   .grind
   .obtain⟨A,l,u,p,o⟩:=c j m;cases p;exact⟨_,_,u,rfl,o⟩
theorem sd{e:Event}(h:XX s e):oh s e:=by obtain⟨b,o,u,rfl,a⟩:=h;exact AL a
section
variable {d:aw}{i i2 ie:TI}
def jq(hi:dC P t i)(y:i.desc=.slice E)(k:dC P d i2)(h:i2.desc=.slice E)(z:dC P E ie)(p:aD σ s){a:Option Addr}{cap:Nat}(f:n<=cap){x:ai}{tx:Bool}{es':Nat->List C}(j:Rd s.M x (.sl tx ie.size 0 es')):
  ey s ((Builtin.append_ #[t,d] ty #[.slice a n cap,x]).events P s.w #[]):=by obtain⟨b,A,v,q⟩:=dT (P:=P) p j;have m:=gH (P:=P) p j (w:=s.w) rfl;have o:=hi.run_underlying (w:=s.w);have c:=k.run_underlying (w:=s.w);rw[y]at o;rw[h]at c;obtain⟨a',r,vs,rfl,_⟩:=j.flat;have l:b=[]:=jg (by simpa using A.len);subst l;intro e u;refine sd (m e ?_);cases a<;>simpa[Builtin.append_,o,c,z.run_sizeOf,Builtin.lenOf,f,v,storeCells]using u
def iJ(hi:dC P t i)(hd:i.desc=.slice E)(G:dC P d i2)(F:i2.desc=.slice E)(V:dC P E ie)(N:aD σ s){a:Option Addr}{cap m:Nat}{td tx:Bool}{es':Nat->List C}{x:ai}(X:Rd s.M (.slice a n cap) (.sl td ie.size n es))(S:Rd s.M x (.sl tx ie.size m es'))(hg:cap<n+m)(Q:(n+m)*ie.bytes<=140737488355328)(J:ie.bytes≠0):
  ey s ((Builtin.append_ #[t,d] ty #[.slice a n cap,x]).events P s.w #[]):=by
 have B:aD σ {s with w:=s.w.drew}:=N.same rfl;obtain⟨p,hF,I,b⟩:=dT (P:=P) B (v:=x) S;obtain⟨q,hFo,j,Z⟩:=dT (P:=P) B (v:=.slice a n cap) X;have LU:=gH (P:=P) N S (w:=s.w.drew) rfl;have U:=gH (P:=P) N X (w:=s.w.drew) rfl;have W:=hi.run_underlying (w:=s.w);have D:=G.run_underlying (w:=s.w);rw[hd]at W;rw[F]at D;obtain⟨k,z,R,z2,z3,z4,z5,z6,z7⟩:=V.info;have Y:n+m<=140737488355328:=dO (ue _ (Nat.pos_of_ne_zero J)) Q;have XW:=rj hg Q;have A:¬Builtin.nextslicecap (n+m) cap*k.bytes>2 ^ 48:=by grind
 have y:¬n+m<=cap:=by omega
 have H:¬((n+m:Nat):Int)>IntKind.i64.max:=by have e:IntKind.i64.max=9223372036854775807:=rfl;grind
 have L:∀u,(typeInfo E).run P u=.ok k u:=λu=>by simp[typeInfo,R]
 have O:∀u,(zeroValue E).run P u=.ok z u:=λu=>by simp[zeroValue,typeInfo,R,z4]
 have f:(Builtin.lenOf x).run P s.w=.ok m s.w:=by rw[b];rfl
 have l:(Builtin.lenOf x).events P s.w #[]=#[]:=by rw[b];rfl
 replace I:(Builtin.firstCells ie.size m x).run P s.w.drew=.ok p.toArray s.w.drew:=I;replace j:(Builtin.firstCells ie.size n (.slice a n cap)).run P s.w.drew=.ok q.toArray s.w.drew:=j
 intro e o;unfold Builtin.append_ at o;simp only[g8,kC,nj,aK,bO,W,D,b9,aP,V.run_sizeOf,cT,gJ,bM,f,l,y,
  H,false_and,L,A,run_choose,Question.forced,run_askRoom,rf,Sem.events_ite,World.drew_eq,j,I,kR,b5,O,events_underlying,events_sizeOf,events_typeInfo,events_choose,events_zeroValue,Sem.events_pure]at o
 have K:∀(x:Nat) (w:aA) (e:Event),e∈(askRoom x).events P w #[]->e=⟨.mark .noRoom,ae,ab⟩:=by intro x w e h;unfold askRoom at h;simp_all
 rw[cV.newRow (P:=P)]at o;generalize(Go.newRow E _).run P s.w.drew=r at o;have c:e∈(Builtin.firstCells ie.size m x).events P s.w.drew ((Builtin.firstCells ie.size n (.slice a n cap)).events P s.w.drew ((askRoom ((Question.appendCap (n+m) cap E).cut (s.w.tape s.w.drawn (Question.appendCap (n+m) cap E))*k.bytes)).events P s.w.drew #[])):=by
  cases r with
  |ok v w'=>simpa using o
  |halt v w'=>simpa using o
 rcases CP c with c|c
 .rcases CP c with c|c
  .rw[K _ _ _ c];exact .inl rfl
  grind[sd]
 grind[sd]
def lu(hi:dC P t i)(R:i.desc=.slice E)(v:dC P d i2)(u:i2.desc=.slice E)(O:dC P E ie)(I:aD σ s){cap m:Nat}{H:aw}{c:List ai}(J:s.w.heap[b]?=aa (.cells c.toArray H (0,0)))(q:c.length=cap*ie.size){tx:Bool}{es':Nat->List C}{x:ai}(B:Rd s.M x (.sl tx ie.size m es'))(D:n+m<=cap){L:Loc}(U:L∈s.β)(K:b∈L.bs)(z:∀o,n*ie.size<=o->s.M b o=af):
  ey s ((Builtin.append_ #[t,d] ty #[.slice (aa ⟨b,0,af⟩) n cap,x]).events P s.w #[]):=by
 obtain⟨a,y,Q,f⟩:=dT (P:=P) I B;have N:=gH (P:=P) I B (w:=s.w) rfl;have F:=hi.run_underlying (w:=s.w);have r:=v.run_underlying (w:=s.w);rw[R]at F;rw[u]at r;have G:n*ie.size+a.length<=c.length:=by rw[y.len,q,<-gM];exact eu _ D
 have p:=run_storeCells_at P b (n*ie.size) H a 0 c.toArray s.w J (by grind) y.cell;simp only[hI]at p;have k:(Builtin.lenOf x).run P s.w=.ok m s.w:=by rw[f];rfl
 have l:(Builtin.lenOf x).events P s.w #[]=#[]:=by rw[f];rfl
 intro e A;unfold Builtin.append_ at A;simp only[g8,kC,nj,aK,bO,F,r,aP,O.run_sizeOf,cT,gJ,bM,k,l,D,b5,kR,Q,dm,br,p,
  rf,Sem.events_ite,events_underlying,events_sizeOf,Sem.events_pure]at A
 rcases eh a 0 c.toArray s.w _ J (by grind) y.cell e A with h|⟨j,S,V,rfl⟩
 .grind [sd]
 grind[kT]
end
structure lr(P:aM)(o:aB)(x y:aC)(E:aw)(ie:TI):Prop where
 op:∃t d i i2,o.op=.call {callee:=.builtin .append,args:=#[x,y],argTypes:=#[t,d]}/\dC P t i/\i.desc=.slice E/\dC P d i2/\i2.desc=.slice E
 elem:dC P E ie
 bytes:ie.bytes≠0
 size:ie.size≠0
def St.grown(s:St)(E:aw)(vs zs:List ai)(β:List Loc):St :=
 {β:=β,M:=λb o=>if b=s.w.heap.size then vs[o]? else s.M b o,w:=s.w.drew.alloc (.cells (vs++zs).toArray E),own:=s.own}
def xJ(h:aD σ s)(E:aw)(vs zs:List ai):∀b o v,(if b=s.w.heap.size then vs[o]? else s.M b o)=aa v->(s.w.drew.alloc (.cells (vs++zs).toArray E)).cell? ⟨b,o,af⟩=aa v:=by
 intro b o v a;by_cases e:b=s.w.heap.size
 .subst e;simp only[b5]at a;unfold aV;have:(s.w.drew.alloc (.cells (vs++zs).toArray E)).heap[s.w.heap.size]?=aa (.cells (vs++zs).toArray E):=dF s.w.drew _;grind
 .simp only[e,bM]at a;have c:=h.block a;rw[<-h.mem b o v a];unfold aV;have:(s.w.drew.alloc (.cells (vs++zs).toArray E)).heap[b]?=s.w.heap[b]?:=cM s.w.drew _ c;grind
def xK(h:aD σ s)(vs:List ai):∀b o v,s.M b o=aa v->(if b=s.w.heap.size then vs[o]? else s.M b o)=aa v:=by intro b o v a;have:=h.block a;grind
theorem ek{m:Sem ai}(h:ey s (m.events P s.w #[])):ey s ((do pure (.value (<-m)):Sem Next).events P s.w #[]):=by simp_all
theorem db{d:aw}(h:o.op=.call {callee:=.builtin .append,args:=#[x,y],argTypes:=#[t,d]})(a:aC->ai):
  ak a o=(do pure (.value (<-Builtin.append_ #[t,d] o.type #[a x,a y]))):=by simp[ak,h,resolve,invoke,builtin]
def Rd.loose{t:Bool}(h:Rd M v (.sl t k n es)):Rd M v (.sl ae k n es):=by
 cases h with
 |sl b off f a hb ht hk ha hm hr=>exact .sl b off f a hb (by simp) hk ha hm hr
def Rd.CN{t:Bool}{es':Nat->List C}(e:∀i,i<n->es i=es' i)(h:Rd M v (.sl t k n es)):Rd M v (.sl t k n es'):=by
 cases h with
 |sl b off f a hb ht hk ha hm hr=>exact .sl b off f a hb ht (λi hi=>by grind) ha (λi hi j c hj=>hm i hi j c (by grind)) (λi hi j c hj=>hr i hi j c (by grind))
def Rd.uo{k':Nat}(b:k=k'∨n=0)(h:Rd M v (.sl ab k n es)):Rd M v (.sl ab k' n es):=by
 rcases b with rfl|rfl
 .exact h
 .obtain⟨a,cap,vs,f,j,c,e,_⟩:=h.flat;grind[Rd.jr]
def pz{L:Loc}(a:σ[l]?=aa (.vec E k n es))(c:s.β[l]?=aa L)(h:eH σ s (.vec E k n es) L):gd σ s L.v (.vec l k n es):=by refine⟨h.1,(b8.1 a).1,λb k' n' es' he=>?_⟩;grind
def bD.oC{ie:TI}(h:lr P o x y E ie){m:Nat}{tx:Bool}{es':Nat->List C}(U:η x=.e (.one (.c (.sl ab k n es))))(W:k=ie.size∨n=0)(R:∀s v,dk σ s v (η y)->Rd s.M v (.sl tx ie.size m es'))(hb:(n+m)*ie.bytes<=140737488355328)(hz:n=0∨0<m):
  bD P o η σ (.e (.one (.vec σ.length ie.size (n+m) (cy n es es')))) (σ++[.vec E ie.size (n+m) (cy n es es')]):=by
 intro s ρ hh hr;obtain⟨t,d,i,i2,ho,hi,I,z,r⟩:=h.op;have h1:=hr x;rw[U]at h1;have f:=Rd.uo W (fH h1);have h2:=R s _ (hr y);obtain⟨a,cap,vs,X,A,Z,S,hF,hm⟩:=f.flat;have O:cap=n:=S rfl;subst O;rw[db ho];rw[X]at f⊢;by_cases V:m=0
 .subst V;have q:=iO (P:=P) (ty:=o.type) hi I z r h.elem hh (a:=a) A h2;simp only[hI];have f:=Rd.CN (es':=cy cap es es') (λi hi=>by grind) f;have H:eH (σ++[.vec E ie.size cap (cy cap es es')]) {s with β:=s.β++[⟨.slice a cap cap,[]⟩]} (.vec E ie.size cap (cy cap es es')) ⟨.slice a cap cap,[]⟩:=⟨f.loose,.inl ⟨⟨rfl,by omega⟩,f⟩⟩
  obtain⟨L,g2⟩:=hh.gx (.refl _ _) rfl hh H (by simp);refine⟨.value (.slice a cap cap),_,?_,?_,L,g2,ek (jq hi I z r h.elem hh A h2)⟩
  .simp[q]
  .exact pz (by simp) (by simp[<-hh.len]) H
 .have Q:cap<cap+m:=by omega
  obtain⟨l,D,j,G,K,J,F,q⟩:=ia (P:=P) (ty:=o.type) hi I z r h.elem hh f h2 Q hb h.bytes;have B:aD σ (s.grown E l D s.β)/\Step σ s σ (s.grown E l D s.β) :=
   hh.grow (by simp) (λb hb=>cM s.w.drew _ hb) (λb hb o=>by grind)
    (λb hb o v hm=>xJ hh E l D b o v hm) rfl rfl rfl
  have N:Rd (s.grown E l D s.β).M (.slice (aa ⟨s.w.heap.size,0,af⟩) (cap+m) j) (.sl ae ie.size (cap+m) (cy cap es es')) :=
   Rd.qm (G.mono B.2.mem) (b:=s.w.heap.size) (off:=0) (λ_=>rfl) K J (by simp) (λp u Y=>by simpa[St.grown]using Y)
  have H:eH (σ++[.vec E ie.size (cap+m) (cy cap es es')]) {(s.grown E l D s.β)with β:=(s.grown E l D s.β).β++[⟨.slice (aa ⟨s.w.heap.size,0,af⟩) (cap+m) j,[s.w.heap.size]⟩]} (.vec E ie.size (cap+m) (cy cap es es')) ⟨.slice (aa ⟨s.w.heap.size,0,af⟩) (cap+m) j,[s.w.heap.size]⟩:=by
   refine⟨N,.inr ⟨s.w.heap.size,j,l++D,rfl,dF s.w.drew _,F,λo ho=>?_⟩⟩;have hl:l.length<=o:=by rw[G.len];exact ho
   simp[St.grown,qP hl]
  obtain⟨L,g2⟩:=B.1.gx B.2 rfl hh H (λb hb=>by simp at hb;subst hb;refine⟨aZ _,?_⟩;simp[St.grown])
  refine⟨.value (.slice (aa ⟨s.w.heap.size,0,af⟩) (cap+m) j),_,?_,?_,L,g2,ek (iJ hi I z r h.elem hh f h2 Q hb h.bytes)⟩
  .simp[q];rfl
  .exact pz (by simp) (by simp[St.grown,<-hh.len]) H
def bD.FY{ie:TI}(h:lr P o x y E ie){m:Nat}{tx:Bool}{es':Nat->List C}(hx:η x=.e (.one (.vec l ie.size n es)))(hl:σ[l]?=aa (.vec E ie.size n es))(hy:∀s v,dk σ s v (η y)->Rd s.M v (.sl tx ie.size m es'))(hb:(n+m)*ie.bytes<=140737488355328):
  bD P o η σ (.e (.one (.vec l ie.size (n+m) (cy n es es')))) (σ.set l (.vec E ie.size (n+m) (cy n es es'))):=by
 intro s ρ hh hr;obtain⟨t,d,i,i2,ho,hi,X,G,F⟩:=h.op;have Pm:l<σ.length:=(b8.1 hl).1;have h1:=hr x;rw[hx]at h1;obtain⟨O,_,ZA⟩:=h1;obtain⟨L,R,hv⟩:=(ZA _ _ _ _ hl).2 rfl;have h2:=hy s _ (hr y);have Pn:l<s.β.length:=(b8.1 R).1;have N:=hh.box l _ L hl R;obtain⟨a,cap,vs,Po,S,LW,ht,hF,hm⟩:=O.flat;rw[db ho,Po];rw[Po]at O;have Q:L.v=.slice a n cap:=by grind
 by_cases h0:m=0
 .subst h0;have z:=iO (P:=P) (ty:=o.type) hi X G F h.elem hh (a:=a) S h2;simp only[hI];have ha:∀i,i<n->es i=cy n es es' i:=λi hi=>by simp[cy,hi]
  have Z:eH (σ.set l (.vec E ie.size n (cy n es es'))) ⟨s.β.set l L,s.M,s.w,s.own⟩ (.vec E ie.size n (cy n es es')) L:=by
   refine⟨N.1.CN ha,?_⟩;rcases N.2 with⟨h3,h4⟩|h3
   .exact .inl ⟨h3,h4.CN ha⟩
   grind
  have f:=hh.hX (M':=s.M) (w':=s.w) (B':=.vec E ie.size n (cy n es es')) (L':=L) hl R ⟨λ_=>rfl,aZ _⟩ (aZ _) (λ_ _ _=>rfl) (λ_ _ _ _=>rfl) (λ_ _ _ h=>h) hh.mem
   (λb hb=>⟨.inl hb,hh.lt L (bH R) b hb⟩) rfl rfl rfl Z
  refine⟨.value (.slice a n cap),_,?_,?_,f.1,f.2,ek (jq hi X G F h.elem hh S h2)⟩
  .simp[z]
  .rw[<-Q];exact pz (E:=E) (by grind) (by grind) Z
 .have J:¬(n+m=n):=by omega
  by_cases k:n+m<=cap
  .rcases N.2 with⟨Sm,D⟩|⟨b,HK,A,rfl,hw,K,U⟩
   .rw[Q]at D;obtain⟨_,_,_,e,_,_,ht2,_⟩:=D.flat;grind
   .simp only at Q;cases Q;obtain⟨c,LG,z⟩:=jT (P:=P) (ty:=o.type) hi X G F h.elem hh hw K h2 k;have RS:c.length=m*ie.size:=LG.len;have VN:b<s.w.heap.size:=(eZ.1 hw).1;let M':Mem:=λB o=>if B=b/\n*ie.size<=o/\o<(n+m)*ie.size then c[o-n*ie.size]? else s.M B o;have CQ:A.length=cap*ie.size:=K;have hnm:(n+m)*ie.size=n*ie.size+m*ie.size:=gM _ _ _;have XY:(n+m)*ie.size<=cap*ie.size:=eu _ k;have Sn:∀B o v,s.M B o=aa v->M' B o=aa v:=by grind
    have Pk:∀p u,c[p]?=aa u->M' b (n*ie.size+p)=aa u:=by grind
    have V:Rd M' (.slice (aa ⟨b,0,af⟩) (n+m) cap) (.sl ae ie.size (n+m) (cy n es es')):=by refine Rd.qm (vs:=vs++c) ((hF.append LG).mono Sn) (b:=b) (off:=0) (λ_=>rfl) k LW (by simp) (λp u hp=>?_);have Oo:vs.length=n*ie.size:=hF.len;grind
    have f:=hh.hX (M':=M') (w':=s.w.setRow b (A.take (n*ie.size)++c++A.drop (n*ie.size+c.length)).toArray) (B':=.vec E ie.size (n+m) (cy n es es')) (L':=⟨.slice (aa ⟨b,0,af⟩) (n+m) cap,[b]⟩) hl R
     ⟨λe=>absurd e J,by omega⟩ (by simp) (λB _ I=>setRow_other _ _ _ _ (by grind)) (λB _ I o=>by
      grind) Sn ?_ (λB I=>by simp at I;subst I;exact⟨.inl (by simp),by simpa using VN⟩) rfl rfl rfl ?_
    .refine⟨.value (.slice (aa ⟨b,0,af⟩) (n+m) cap),_,?_,?_,f.1,f.2,ek (lu hi X G F h.elem hh hw K h2 k (bH R) (by simp) U)⟩
     .simp[z]
     .exact pz (L:=⟨.slice (aa ⟨b,0,af⟩) (n+m) cap,[b]⟩) (E:=E) (by grind) (by grind) (f.1.box l _ _ (by grind) (by grind))
    .intro B o v H;by_cases I:B=b
     .subst I;have W:∀j,(s.w.setRow B (A.take (n*ie.size)++c++A.drop (n*ie.size+c.length)).toArray).cell? ⟨B,j,af⟩=(A.take (n*ie.size)++c++A.drop (n*ie.size+c.length))[j]?:=by grind[cell_setRow_same]
      rw[W];simp only[M']at H;have hkl:(A.take (n*ie.size)).length=n*ie.size:=by rw[List.length_take];omega
      split at H
      .grind
      .rename_i hc;have h3:=hh.mem B o v H;have ho:o<n*ie.size:=by grind
       rw[jP,jh (by omega),fR,bn ho];simp only[aV,hw]at h3;grind
     .simp only[M']at H;rw[a9 (by omega)]at H;rw[<-hh.mem B o v H];simp only[aV];grind[setRow_other]
    .refine⟨V,.inr ⟨b,cap,_,rfl,setRow_heap _ _ _ _ _ _ hw,?_,λo ho=>?_⟩⟩
     .grind
     grind
  .have hg:cap<n+m:=by omega
   obtain⟨r,zs,q,Sk,U3,U4,Y,z⟩:=ia (P:=P) (ty:=o.type) hi X G F h.elem hh O h2 hg hb h.bytes;have hbl:∀b∈L.bs,b<s.w.heap.size:=hh.lt L (bH R);have V:Rd (λb o=>if b=s.w.heap.size then r[o]? else s.M b o) (.slice (aa ⟨s.w.heap.size,0,af⟩) (n+m) q) (.sl ae ie.size (n+m) (cy n es es')) :=
    Rd.qm (Sk.mono (xK hh r)) (b:=s.w.heap.size) (off:=0) (λ_=>rfl) U3 U4 (by simp) (λp u hp=>by grind)
   have f:=hh.hX (M':=λb o=>if b=s.w.heap.size then r[o]? else s.M b o) (w':=s.w.drew.alloc (.cells (r++zs).toArray E)) (B':=.vec E ie.size (n+m) (cy n es es')) (L':=⟨.slice (aa ⟨s.w.heap.size,0,af⟩) (n+m) q,[s.w.heap.size]⟩) hl R
    ⟨λe=>absurd e J,by omega⟩ (by simp) (λb hb _=>cM s.w.drew _ hb) (λb hb _ o=>by grind) (xK hh r) (xJ hh E r zs) (λb hb=>by
     simp at hb;subst hb;exact⟨.inr (aZ _),by simp⟩) rfl rfl rfl ⟨V,.inr ⟨s.w.heap.size,q,r++zs,rfl,dF s.w.drew _,Y,λo ho=>by
      have hl:r.length<=o:=by rw[Sk.len];exact ho
      grind⟩⟩
   refine⟨.value (.slice (aa ⟨s.w.heap.size,0,af⟩) (n+m) q),_,?_,?_,f.1,f.2,ek (iJ hi X G F h.elem hh O h2 hg hb h.bytes)⟩
   .simp[z]
   .exact pz (L:=⟨.slice (aa ⟨s.w.heap.size,0,af⟩) (n+m) q,[s.w.heap.size]⟩) (E:=E) (by grind) (by grind) (f.1.box l _ _ (by grind) (by grind))
def jV{α:Type}:List Nat->List α->Option (List α)
  | [],_=>aa []
  | k::ks,l=>match eB k l with
    | some x=>match jV ks l with
      | some r=>aa (x::r)
      | none=>af
    | none=>af
def eW{α:Type}:∀(n:Nat) (l:List α),eB n l=l[n]?
  | _,[]=>by simp[eB]
  | 0,x::_=>by simp[eB]
  | n+1,_::xs=>by simpa[eB]using eW n xs
def iu{α:Type}:∀{ks:List Nat} {l r:List α},jV ks l=aa r->r.length=ks.length/\∀(j k:Nat),ks[j]?=aa k->∃x,r[j]?=aa x/\l[k]?=aa x
  | [],l,r,h=>by cases h;simp
  | k::ks,l,r,h=>by
    simp only[jV]at h;cases b:eB k l with
    | none=>grind
    | some x =>
      cases a:jV ks l with
      | none=>grind
      | some q =>
        simp[b,a]at h;subst h;obtain⟨c,d⟩:=iu a;grind[cX]
def y9{α f:Type}:∀{ks:List Nat} {l r:List α} {l':List f},jV ks l=aa r->l'.length=l.length->∃r',jV ks l'=aa r'
  | [],l,r,l',_,_=>⟨[],rfl⟩
  | k::ks,l,r,l',h,b=>by
    simp only[jV]at h;cases e:eB k l with
    | none=>grind
    | some x =>
      cases c:jV ks l with
      | none=>grind
      | some q =>
        obtain⟨r',a⟩:=y9 (l':=l') c b;have d:k<l'.length:=by rw[b];exact(b8.1 (cX e)).1
        exact⟨l'[k]::r',by simp[jV,eW,d,a]⟩
def oi(ks:List Nat):A->A
  | .ptr l o=>match eB l ks with|some k=>.ptr k o|none=>.any
  | .vec l k n es=>match eB l ks with|some m=>.vec m k n es|none=>.c (.sl ae k n es)
  | .ref l=>match eB l ks with|some k=>.ref k|none=>.any
  | .bp l w=>match eB l ks with|some k=>.bp k w|none=>.any
  | .c x=>.c x
  | .any=>.any
def AV(ks:List Nat):List A->List A
  | []=>[]
  | a::r=>oi ks a::AV ks r
def za(ks:List Nat):E1->E1
  | .one a=>.one (oi ks a)
  | .agg cs=>.agg (AV ks cs)
def xN(ks:List Nat):List E1->List E1
  | []=>[]
  | a::r=>za ks a::xN ks r
def iE(ks:List Nat):D->D
  | .e x=>.e (za ks x)
  | .fw xs=>.fw (xN ks xs)
  | .any=>.any
def gD(ks:List Nat):List D->List D
  | []=>[]
  | a::r=>iE ks a::gD ks r
def CZ:A->Bool
  | .c _|.any=>ab
  | _=>ae
def zb:List A->Bool
  | []=>ab
  | a::r=>match CZ a with|true=>zb r|false=>ae
def uT:bd->Bool
  | .cells _ cs=>zb cs
  | .loop ..=>ae
  | _=>ab
def cE:List bd->Bool
  | []=>ab
  | a::r=>match uT a with|true=>cE r|false=>ae
def kl:∀{l:List bd},cE l=ab->∀B∈l,uT B=ab
  | [],_,B,a=>by grind
  | b::r,h,B,a=>by
    simp only[cE]at h;cases c:uT b with
    | false=>grind
    | true =>
      simp only[c]at h;rcases dK.1 a with rfl|a
      · exact c
      · exact kl h B a
def dZ.plain{σ σ':List bd}{s s':St}(e:s'.M=s.M):∀{vs:List ai} {cs:List A},zb cs=ab->dZ σ s vs cs->dZ σ' s' vs cs
  | [],[],_,_=>trivial
  | [],_::_,_,h=>h.elim
  | _::_,[],_,h=>h.elim
  | v::vs,a::al,b,h=>by
    simp only[zb]at b;cases d:CZ a with
    | false=>grind
    | true =>
      simp only[d]at b;refine⟨?_,dZ.plain e b h.2⟩;cases a with
      | c x=>have:=h.1;simp only[gd]at this⊢;grind
      | any=>exact h.1
      | _=>simp[CZ]at d
def eH.plain{σ σ':List bd}{s s':St}(a:s'.M=s.M)(c:s'.w=s.w){B:bd}{L:Loc}(d:uT B=ab)(h:eH σ s B L):eH σ' s' B L:=by
  cases B with
  | cells E cs =>
    obtain⟨b,vs,h1,h2,e,f⟩:=h;exact⟨b,vs,h1,by grind,e.plain a d,λo=>by rw[a];grind⟩
  | vec E k n es=>simp only[eH,a,c]at h⊢;exact h
  | cf H=>simp only[eH,a,c]at h⊢;exact h
  | dead=>trivial
  | loop N φ r=>simp[uT]at d
  | qp=>simp only[eH,a,c]at h⊢;exact h
  | buf E k n es=>simp only[eH,a,c]at h⊢;exact h
def gZ:Nat->List Nat->Bool
  | _,[]=>ae
  | k,x::r=>match av k x with|true=>ab|false=>gZ k r
def dX:List Nat->Bool
  | []=>ab
  | k::r=>match gZ k r with|true=>ae|false=>dX r
theorem uw:∀{k:Nat} {l:List Nat},k∈l->gZ k l=ab
  | k,[],h=>by grind
  | k,x::r,h=>by
    simp only[gZ];cases a:av k x with
    | true=>rfl
    | false =>
      rcases dK.1 h with rfl|h
      · grind[Nat.beq_refl]
      · exact uw h
def uU:∀{l:List Nat},dX l=ab->∀(i j k:Nat),l[i]?=aa k->l[j]?=aa k->i=j
  | [],_,i,j,k,hi,_=>by grind
  | x::r,h,i,j,k,hi,a=>by
    simp only[dX]at h;cases c:gZ x r with
    | true=>grind
    | false =>
      simp only[c]at h;have no:∀q,r[q]?=aa x->False:=λq b=>by have:=uw (bH b);grind
      cases i with
      | zero =>
        grind
      | succ i =>
        cases j with
        | zero =>
          grind
        | succ j =>
          simp at hi a;rw[uU h i j k hi a]
def F2(n:Nat):A->Bool
  | .ptr l _|.vec l _ _ _|.ref l|.bp l _=>bu (l+1) n
  | _=>ab
def EG(n:Nat):List A->Bool
  | []=>ab
  | a::r=>match F2 n a with|true=>EG n r|false=>ae
def HW(n:Nat):E1->Bool
  | .one a=>F2 n a
  | .agg cs=>EG n cs
def xf(n:Nat):List E1->Bool
  | []=>ab
  | a::r=>match HW n a with|true=>xf n r|false=>ae
def uV(n:Nat):D->Bool
  | .e x=>HW n x
  | .fw xs=>xf n xs
  | .any=>ab
def lT(n:Nat):List D->Bool
  | []=>ab
  | a::r=>match uV n a with|true=>lT n r|false=>ae
section sub
variable {ks:List Nat}{β':List Loc}
def gd.sub(m:jV ks σ=aa σ')(t:jV ks s.β=aa β'){a:A}(d:gd σ s v (oi ks a))(e:F2 ks.length a=ab):gd σ' {s with β:=β'} v a:=by
  obtain⟨u,j⟩:=iu m;obtain⟨z,g2⟩:=iu t;cases a with
  | c x=>exact d
  | any=>exact d
  | ptr l o =>
    have hl:l<ks.length:=dJ e;simp only[oi,eW,bm hl]at d;obtain⟨h1,L,b,h2,g,q⟩:=d;obtain⟨x,i,r⟩:=j l _ (bm hl);obtain⟨y,h,f⟩:=g2 l _ (bm hl);rw[f]at h2;cases h2;exact⟨λB p=>h1 B (by grind),L,b,h,g,q⟩
  | vec l k n es =>
    have hl:l<ks.length:=dJ e;simp only[oi,eW,bm hl]at d;obtain⟨h1,h2,g⟩:=d;obtain⟨x,i,r⟩:=j l _ (bm hl);obtain⟨y,h,f⟩:=g2 l _ (bm hl);refine⟨h1,by grind,λE k' n' es' p=>?_⟩;grind
  | ref l =>
    have hl:l<ks.length:=dJ e;simp only[oi,eW,bm hl]at d;obtain⟨h1,L,h2,g,q⟩:=d;obtain⟨x,i,r⟩:=j l _ (bm hl);obtain⟨y,h,f⟩:=g2 l _ (bm hl);rw[f]at h2;cases h2;exact⟨λB p=>h1 B (by grind),L,h,g,q⟩
  | bp l w =>
    have hl:l<ks.length:=dJ e;simp only[oi,eW,bm hl]at d;obtain⟨lv,h1,h2,g⟩:=d;obtain⟨x,i,r⟩:=j l _ (bm hl);obtain⟨y,h,f⟩:=g2 l _ (bm hl);refine⟨lv,h1,(b8.1 i).1,λE k n es p=>?_⟩;grind
def gd.mM{σ2:List bd}{s2:St}(u:s2.M=s.M)(e:∀(j:Nat) (B:bd),σ[j]?=aa B->∃k,ks[j]?=aa k/\σ2[k]?=aa B)(h:∀(j:Nat) (L:Loc),s.β[j]?=aa L->∃k,ks[j]?=aa k/\s2.β[k]?=aa L)(t:s.β.length=σ.length){a:A}(f:gd σ s v a):gd σ2 s2 v (oi ks a):=by
  cases a with
  | c x=>simp only[oi,gd,u];exact f
  | any=>exact f
  | ptr l o =>
    obtain⟨h1,L,b,h2,g,q⟩:=f;obtain⟨k,k1,i⟩:=h l L h2;have hl:l<σ.length:=by grind
    obtain⟨k',d,r⟩:=e l _ (bm hl);rw[k1]at d;cases d;simp only[oi,eW,k1];refine⟨λB m=>?_,L,b,i,g,q⟩;grind
  | vec l k n es =>
    obtain⟨h1,h2,g⟩:=f;obtain⟨k1,p,p2⟩:=e l _ (bm h2);simp only[oi,eW,p];refine⟨by grind,(b8.1 p2).1,λE k' n' es' m=>?_⟩;grind
  | ref l =>
    obtain⟨h1,L,h2,g,q⟩:=f;obtain⟨k,k1,i⟩:=h l L h2;have hl:l<σ.length:=by grind
    obtain⟨k',d,r⟩:=e l _ (bm hl);rw[k1]at d;cases d;simp only[oi,eW,k1];refine⟨λB m=>?_,L,i,g,q⟩;grind
  | bp l w =>
    obtain⟨lv,h1,h2,g⟩:=f;obtain⟨k1,p,p2⟩:=e l _ (bm h2);simp only[oi,eW,p];refine⟨lv,h1,(b8.1 p2).1,λE k' n' es' m=>?_⟩;grind
def dZ.sub(b:jV ks σ=aa σ')(c:jV ks s.β=aa β'):∀{vs:List ai} {cs:List A},dZ σ s vs (AV ks cs)->EG ks.length cs=ab->dZ σ' {s with β:=β'} vs cs
  | [],[],_,_=>trivial
  | [],_::_,h,_=>h.elim
  | _::_,[],h,_=>h.elim
  | v::vs,a::al,h,d=>by
    simp only[EG]at d;cases e:F2 ks.length a with
    | false=>grind
    | true=>simp only[e]at d;exact⟨h.1.sub b c e,dZ.sub b c h.2 d⟩
def nh.sub(b:jV ks σ=aa σ')(c:jV ks s.β=aa β'){v:ai}{x:E1}(h:nh σ s v (za ks x))(d:HW ks.length x=ab):nh σ' {s with β:=β'} v x:=by
  cases x with
  | one a=>exact gd.sub b c h d
  | agg cs=>obtain⟨vs,h1,h2⟩:=h;exact⟨vs,h1,h2.sub b c d⟩
def gC.sub(b:jV ks σ=aa σ')(c:jV ks s.β=aa β'):∀{vs:List ai} {xs:List E1},gC σ s vs (xN ks xs)->xf ks.length xs=ab->gC σ' {s with β:=β'} vs xs
  | [],[],_,_=>trivial
  | [],_::_,h,_=>h.elim
  | _::_,[],h,_=>h.elim
  | v::vs,a::al,h,d=>by
    simp only[xf]at d;cases e:HW ks.length a with
    | false=>grind
    | true=>simp only[e]at d;exact⟨h.1.sub b c e,gC.sub b c h.2 d⟩
def dk.sub(a:jV ks σ=aa σ')(b:jV ks s.β=aa β'){v:ai}{d:D}(h:dk σ s v (iE ks d))(c:uV ks.length d=ab):dk σ' {s with β:=β'} v d:=by
  cases d with
  | e x=>exact nh.sub a b h c
  | fw xs=>obtain⟨vs,h1,h2⟩:=h;exact⟨vs,h1,h2.sub a b c⟩
  | any=>trivial
def cg.sub(b:jV ks σ=aa σ')(c:jV ks s.β=aa β'):∀{vs:List ai} {ds:List D},cg σ s vs (gD ks ds)->lT ks.length ds=ab->cg σ' {s with β:=β'} vs ds
  | [],[],_,_=>trivial
  | [],_::_,h,_=>h.elim
  | _::_,[],h,_=>h.elim
  | v::vs,a::al,h,d=>by
    simp only[lT]at d;cases e:uV ks.length a with
    | false=>grind
    | true=>simp only[e]at d;exact⟨h.1.sub b c e,cg.sub b c h.2 d⟩
variable {σ2:List bd}{s2:St}
def dZ.mM(d:s2.M=s.M)(b:∀(j:Nat) (B:bd),σ[j]?=aa B->∃k,ks[j]?=aa k/\σ2[k]?=aa B)(c:∀(j:Nat) (L:Loc),s.β[j]?=aa L->∃k,ks[j]?=aa k/\s2.β[k]?=aa L)(a:s.β.length=σ.length):
    ∀{vs:List ai} {cs:List A},dZ σ s vs cs->dZ σ2 s2 vs (AV ks cs)
  | [],[],_=>trivial
  | [],_::_,h=>h.elim
  | _::_,[],h=>h.elim
  | _::_,_::_,h=>⟨h.1.mM d b c a,dZ.mM d b c a h.2⟩
def nh.mM(e:s2.M=s.M)(c:∀(j:Nat) (B:bd),σ[j]?=aa B->∃k,ks[j]?=aa k/\σ2[k]?=aa B)(d:∀(j:Nat) (L:Loc),s.β[j]?=aa L->∃k,ks[j]?=aa k/\s2.β[k]?=aa L)(b:s.β.length=σ.length){v:ai}{x:E1}(h:nh σ s v x):nh σ2 s2 v (za ks x):=by
  cases x with
  | one a=>exact gd.mM e c d b h
  | agg cs=>obtain⟨vs,h1,h2⟩:=h;exact⟨vs,h1,h2.mM e c d b⟩
def gC.mM(d:s2.M=s.M)(b:∀(j:Nat) (B:bd),σ[j]?=aa B->∃k,ks[j]?=aa k/\σ2[k]?=aa B)(c:∀(j:Nat) (L:Loc),s.β[j]?=aa L->∃k,ks[j]?=aa k/\s2.β[k]?=aa L)(a:s.β.length=σ.length):
    ∀{vs:List ai} {xs:List E1},gC σ s vs xs->gC σ2 s2 vs (xN ks xs)
  | [],[],_=>trivial
  | [],_::_,h=>h.elim
  | _::_,[],h=>h.elim
  | _::_,_::_,h=>⟨h.1.mM d b c a,gC.mM d b c a h.2⟩
def dk.mM(f:s2.M=s.M)(b:∀(j:Nat) (B:bd),σ[j]?=aa B->∃k,ks[j]?=aa k/\σ2[k]?=aa B)(c:∀(j:Nat) (L:Loc),s.β[j]?=aa L->∃k,ks[j]?=aa k/\s2.β[k]?=aa L)(a:s.β.length=σ.length){v:ai}{d:D}(h:dk σ s v d):dk σ2 s2 v (iE ks d):=by
  cases d with
  | e x=>exact nh.mM f b c a h
  | fw xs=>obtain⟨vs,h1,h2⟩:=h;exact⟨vs,h1,h2.mM f b c a⟩
  | any=>trivial
end sub
def eb.si{α:Type}:Nat->α->List α->List α
  | _,_,[]=>[]
  | 0,x,_::r=>x::r
  | k+1,x,y::r=>y::eb.si k x r
def eb{α:Type}:List Nat->List α->List α->List α
  | [],new,old=>old++new
  | k::ks,x::new,old=>eb ks new (eb.si k x old)
  | _::_,[],old=>old
theorem kV{α:Type}:∀(k:Nat) (x:α) (l:List α),eb.si k x l=l.set k x
  | _,_,[]=>by simp[eb.si]
  | 0,x,_::r=>by simp[eb.si]
  | k+1,x,y::r=>by simp[eb.si,kV k x r]
def uW{α:Type}:∀{ks:List Nat} {new old:List α},dX ks=ab->(∀k∈ks,k<old.length)->ks.length<=new.length ->
    (eb ks new old).length=old.length+(new.length-ks.length)/\(∀(j k:Nat),ks[j]?=aa k->(eb ks new old)[k]?=new[j]?) /\
    (∀j,(eb ks new old)[old.length+j]?=new[ks.length+j]?)/\(∀l,l<old.length->l∉ks->(eb ks new old)[l]?=old[l]?)
  | [],new,old,_,_,_=>by
    refine⟨by simp[eb],by simp,λj=>?_,λl c _=>?_⟩
    · simp only[eb,jk,br]
      grind
    · simp[eb,jh c]
  | k::ks,[],old,_,_,h=>by grind
  | k::ks,x::new,old,a,b,e=>by
    have g:=a;simp only[dX]at a;cases f:gZ k ks with
    | true=>grind
    | false =>
      simp only[f]at a;have n:k<old.length:=b k (by simp);have d:k∉ks:=λh=>by grind[uw]
      obtain⟨m,p,i,o⟩:=uW (ks:=ks) (new:=new) (old:=old.set k x) a (λk' X0=>by grind) (by grind);simp only[eb,kV];grind
def Ev(X:Cx P)(f:aJ)(args:List D)(σ:List bd)(res:D)(σ':List bd):Prop :=
  (∃fn,P.funcs[f]?=aa fn/\(fn.name== "runtime.NumGoroutine")=ae/\fn.body.isNone=ae) /\
  ∀s (vs:List ai),cg σ s vs args->aD σ s->∀(S:aq->St->Prop) (cs:List aU),
    (∀a v s',tL P f a v s'->dk σ' s' v res->aD σ' s'->cN σ s σ' s'->fu X S (G a cs) s')->fu X S (G (Frame.enter P f vs.toArray .normal) cs) s
def dL(X:Cx P)(f:aJ)(args:List D)(σ:List bd)(res:ι->D)(σ':ι->List bd):Prop :=
  (∃fn,P.funcs[f]?=aa fn/\(fn.name== "runtime.NumGoroutine")=ae/\fn.body.isNone=ae) /\
  ∀s (vs:List ai),cg σ s vs args->aD σ s->∀(S:aq->St->Prop) (cs:List aU),
    (∀i a v s',tL P f a v s'->dk (σ' i) s' v (res i)->aD (σ' i) s'->cN σ s (σ' i) s'->fu X S (G a cs) s')->fu X S (G (Frame.enter P f vs.toArray .normal) cs) s
def Ev.HX{X:Cx P}{f:aJ}{args:List D}{res:D}(h:Ev X f args σ res σ'):dL (ι:=Unit) X f args σ (λ_=>res) (λ_=>σ') :=
  ⟨h.1,λs vs hr hh S cs hS=>h.2 s vs hr hh S cs (hS ())⟩
def dL.F3{X:Cx P}{f:aJ}{args:List D}{res:D}(h:dL (ι:=Unit) X f args σ (λ_=>res) (λ_=>σ')):Ev X f args σ res σ' :=
  ⟨h.1,λs vs hr hh S cs hS=>h.2 s vs hr hh S cs (λ_=>hS)⟩
def zc(s:St)(a:List Loc):Nat->Prop:=λb=>s.own b∨((∃L∈s.β,b∈L.bs)/\∀L∈a,b∉L.bs)
def lz(n:Nat):Nat->List Nat
  | 0=>[]
  | m+1=>n::lz (n+1) m
def AX:∀(m n j:Nat),(lz n m)[j]?=if j<m then aa (n+j)else af
  | 0,n,j=>by simp[lz]
  | m+1,n,0=>by simp[lz]
  | m+1,n,j+1=>by simp only[lz,nj,AX m (n+1) j,Nat.add_lt_add_iff_right];grind
def frame{ks:List Nat}{σ1:List bd}{a:St}{n:List Loc}(q:aD σ s)(V:jV ks σ=aa σs)(Z:jV ks s.β=aa n)(hn:dX ks=ab)(hp:cE σ1=ab)(t:aD σ1 a)(st:cN σs {s with β:=n,own:=zc s n} σ1 a)(T:ks.length<=σ1.length){res:D}(hr:dk σ1 a v res):
    ∃s2:St,s2.w=a.w/\dk (eb ks σ1 σ) s2 v (iE (ks++lz σ.length (σ1.length-ks.length)) res)/\aD (eb ks σ1 σ) s2/\cN σ s (eb ks σ1 σ) s2/\s2.M=a.M/\s2.own=s.own/\∀L∈s2.β,L∈a.β∨(L∈s.β/\∀b∈L.bs,∀L'∈n,b∉L'.bs):=by
  have H:∀k∈ks,k<σ.length:=by intro k N;obtain⟨j,m,rfl⟩:=dN N;obtain⟨x,_,h2⟩:=(iu V).2 j _ (bm m);grind
  have F:∀k∈ks,k<s.β.length:=by rw[q.len];exact H
  have J:ks.length<=a.β.length:=by rw[t.len];exact T
  obtain⟨a1,a2,a3,a4⟩:=uW (new:=σ1) (old:=σ) hn H T;obtain⟨b1,b2,b3,b4⟩:=uW (new:=a.β) (old:=s.β) hn F J;obtain⟨c1,c2⟩:=iu V;obtain⟨d1,d2⟩:=iu Z;let K:=ks++lz σ.length (σ1.length-ks.length);have O:∀j,j<σ1.length->∃k,K[j]?=aa k/\(eb ks σ1 σ)[k]?=σ1[j]?/\(eb ks a.β s.β)[k]?=a.β[j]?:=by
    intro j m;rcases cA j ks.length with p|A
    · refine⟨ks[j],?_,a2 j _ (bm p),b2 j _ (bm p)⟩
      grind
    · refine⟨σ.length+(j-ks.length),?_,?_,?_⟩
      · simp only[K]
        rw[fx A,AX,bn (by omega)]
      · rw[a3];grind
      · rw[<-q.len,b3];grind
  have g:∀l L,(eb ks a.β s.β)[l]?=aa L->(∃j,j<σ1.length/\a.β[j]?=aa L/\(∀B,(eb ks σ1 σ)[l]?=aa B->σ1[j]?=aa B)/\(∀k,ks[j]?=aa k->k=l)/\(j≥ks.length->l=σ.length+(j-ks.length))) ∨
      (l<σ.length/\l∉ks/\s.β[l]?=aa L/\(eb ks σ1 σ)[l]?=σ[l]?):=by
    intro l L c;have X:l<(eb ks a.β s.β).length:=(b8.1 c).1;rcases cA l σ.length with p|A
    · by_cases r:l∈ks
      · obtain⟨j,m,rfl⟩:=dN r
        have N:=bm m;grind
      · exact .inr ⟨p,r,by rw[<-b4 l (by rw[q.len];exact p) r];exact c,a4 l p r⟩
    · rw[b1,t.len,q.len]at X
      refine .inl ⟨ks.length+(l-σ.length),by omega,?_,λB z=>?_,λk N=>?_,λ_=>by omega⟩
      · rw[<-b3,q.len,yX A];exact c
      · rw[<-a3,yX A];exact z
      grind
  have C:∀L∈n,L∈s.β:=by
    intro L c;obtain⟨j,m,rfl⟩:=dN c;have E:j<ks.length:=by grind
    obtain⟨x,R,U⟩:=d2 j _ (bm E);grind
  have other:∀l L,l∉ks->s.β[l]?=aa L->∀b∈L.bs,b<s.w.heap.size/\∀L'∈n,b∉L'.bs:=by
    intro l L u c b d;refine⟨q.lt L (bH c) b d,λL' gm nZ=>?_⟩;obtain⟨j,m,rfl⟩:=dN gm;have E:j<ks.length:=by grind
    obtain⟨x,R,U⟩:=d2 j _ (bm E);rw[bm m]at R;cases R;have:=q.eU l ks[j] L _ c U b d nZ;grind
  have out:∀b,b<s.w.heap.size->(∀L∈s.β,b∉L.bs)->∀L∈n,b∉L.bs:=λb _ h L c=>h L (C L c);have ex:Ext σ s (eb ks σ1 σ) ⟨eb ks a.β s.β,a.M,a.w,s.own⟩:=by
    refine⟨st.mem,λl B L z c=>?_⟩;have p:l<σ.length:=(b8.1 z).1;by_cases r:l∈ks
    · obtain⟨j,m,rfl⟩:=dN r
      have N:=bm m;obtain⟨x,R,U⟩:=c2 j _ N;obtain⟨y,y1,y2⟩:=d2 j _ N;rw[z]at U;cases U;rw[c]at y2;cases y2;obtain⟨B',L',p1,p2,p3⟩:=st.box j B L R y1;grind
    · exact⟨B,L,by grind,by grind,.refl _ _⟩
  refine⟨⟨eb ks a.β s.β,a.M,a.w,s.own⟩,rfl,?_,⟨t.mem,?_,?_,?_,?_,?_⟩,⟨st.size,?_,st.mem,?_,?_,ex.box,st.os,st.tape,st.output,rfl⟩,rfl,rfl,?_⟩
  · refine dk.mM (s:=a) (s2:=⟨eb ks a.β s.β,a.M,a.w,s.own⟩) (σ2:=eb ks σ1 σ) (ks:=K) rfl (λj B z=>?_) (λj L c=>?_) t.len hr
    · grind
    · obtain⟨k,k1,_,k3⟩:=O j (by rw[<-t.len];grind)
      grind
  · simp only;rw[a1,b1,t.len,q.len]
  · intro l B L z c
    rcases g l L c with⟨j,m,f,P,_⟩|⟨u,r,gm,lQ⟩
    · exact eH.plain (σ:=σ1) (s:=a) (s':=⟨eb ks a.β s.β,a.M,a.w,s.own⟩) rfl rfl (kl hp B (bH (P B z))) (t.box j B L (P B z) f)
    · rw[lQ]at z
      refine(q.box l B L z gm).carry ex q.len λb d=>?_;obtain⟨Y,W⟩:=other l L r gm b d;exact⟨st.keep b (.inr ⟨⟨L,bH gm,d⟩,W⟩),st.iI b Y W⟩
  · intro l l' L L' c gm b d nZ
    rcases g l L c with⟨j,m,f,_,Zu,ZS⟩|⟨u,r,i,_⟩<;>rcases g l' L' gm with⟨j',E,I,_,ZT,ZU⟩|⟨CG,hm',G,_⟩
    · have e:=t.eU j j' L L' f I b d nZ
      grind
    · obtain⟨Y,W⟩:=other l' L' hm' G b nZ
      rcases st.ur L (bH f) b d with h|⟨L0,h0,S⟩
      · grind
      grind
    · obtain⟨Y,W⟩:=other l L r i b d
      rcases st.ur L' (bH I) b nZ with h|⟨L0,h0,S⟩
      · grind
      grind
    · exact q.eU l l' L L' i G b d nZ
  · intro L c b d
    obtain⟨l,u,rfl⟩:=dN c;rcases g l _ (bm u)with⟨j,m,f,_⟩|⟨_,_,i,_⟩
    · exact t.lt _ (bH f) b d
    · have:=q.lt _ (bH i) b d
      have:=st.size;grind
  · intro b d
    refine⟨?_,λL c Q=>?_⟩
    · have:=(q.own b d).1
      have:=st.size;grind
    · obtain⟨l,u,rfl⟩:=dN c
      rcases g l _ (bm u)with⟨j,m,f,_⟩|⟨_,_,i,_⟩
      · have ho:a.own b:=by rw[st.own];exact .inl d
        exact(t.own b ho).2 _ (bH f) Q
      · exact(q.own b d).2 _ (bH i) Q
  · intro b d
    exact st.keep b (.inl d)
  · intro b d VS o
    exact st.iI b d (out b d VS) o
  · intro L c b d
    obtain⟨l,u,rfl⟩:=dN c;rcases g l _ (bm u)with⟨j,m,f,_⟩|⟨_,_,i,_⟩
    · rcases st.ur _ (bH f) b d with h|⟨L0,h0,S⟩
      · grind
      grind
    grind
  · intro L c
    obtain⟨l,u,rfl⟩:=dN c;rcases g l _ (bm u)with⟨j,m,f,_⟩|⟨_,r,i,_⟩
    · grind
    grind
def ei:D->Option (aJ×List C)
 |.e (.one (.c (.fn (.func f) [] cap)))=>aa (f,cap)
 |_=>af
theorem nv{σ:List bd}{s:St}{a:aC->ai}{η:aC->D}(b:∀y,dk σ s (a y) (η y)):∀l:List aC,cg σ s (l.map a) (l.map η)
 |[]=>trivial
 |x::r=>⟨b x,nv b r⟩
def cg.append{σ:List bd}{s:St}:∀{vs VT:List ai}{ds EE:List D},cg σ s vs ds->cg σ s VT EE->cg σ s (vs++VT) (ds++EE)
 |[],_,[],_,_,h=>h
 |[],_,_::_,_,h,_=>h.elim
 |_::_,_,[],_,h,_=>h.elim
 |_::_,_,_::_,_,h,a=>⟨h.1,cg.append h.2 a⟩
def Pw:A->A
 |.vec _ k n es=>.c (.sl ae k n es)
 |.c (.sl _ k n es)=>.c (.sl ae k n es)
 |a=>a
def EH{a:A}(h:gd σ s v a):gd σ s v (Pw a):=by
 cases a with
 |vec l k n es=>exact h.1
 |c x=>cases x<;>first|exact h|exact Rd.loose h
 |_=>exact h
def Px:List A->List A
 |[]=>[]
 |a::r=>Pw a::Px r
def EI{σ:List bd}{s:St}:∀{vs:List ai}{cs:List A},dZ σ s vs cs->dZ σ s vs (Px cs)
 |[],[],_=>trivial
 |[],_::_,h=>h.elim
 |_::_,[],h=>h.elim
 |_::_,_::_,h=>⟨EH h.1,EI h.2⟩
def SD:D->D
 |.e (.one a)=>.e (.one (Pw a))
 |.e (.agg cs)=>.e (.agg (Px cs))
 |d=>d
def Me{d:D}(h:dk σ s v d):dk σ s v (SD d):=by
 cases d with
 |e x=>cases x with
  |one a=>exact EH h
  |agg cs=>obtain⟨vs,c,b⟩:=h;exact⟨vs,c,EI b⟩
 |fw xs=>exact h
 |any=>trivial
def n5:List D->List D
 |[]=>[]
 |a::r=>SD a::n5 r
theorem rq{σ:List bd}{s:St}:∀{vs:List ai}{ds:List D},cg σ s vs ds->cg σ s vs (n5 ds)
 |[],[],_=>trivial
 |[],_::_,h=>h.elim
 |_::_,[],h=>h.elim
 |_::_,_::_,h=>⟨Me h.1,rq h.2⟩
def fC:List C->List D
 |[]=>[]
 |c::r=>.e (.one (.c c))::fC r
theorem lq{σ:List bd}{s:St}:∀{vs:List ai}{cs:List C},(∀(j:Nat)(c:C),cs[j]?=aa c->∃v,vs[j]?=aa v/\Rd s.M v c)->vs.length=cs.length->cg σ s vs (fC cs)
 |[],[],_,_=>trivial
 |[],_::_,_,h=>by grind
 |_::_,[],_,h=>by grind
 |v::vs,c::cs,h,d=>by obtain⟨u,a,b⟩:=h 0 c rfl;simp at a;subst a;exact⟨b,lq (λj c e=>by simpa using h (j+1) c (by grind)) (by grind)⟩
def zd{ks:List Nat}{l r:List α}(h:jV ks l=aa r):∀x∈r,x∈l:=by intro x a;obtain⟨d,b⟩:=iu h;obtain⟨j,f,rfl⟩:=dN a;obtain⟨y,e,c⟩:=b j _ (bm (by omega));grind
def aD.sub{ks:List Nat}{a:List Loc}(hh:aD σ s)(o:jV ks σ=aa σs)(d:jV ks s.β=aa a)(u:cE σs=ab)(t:dX ks=ab):
  aD σs {s with β:=a,own:=zc s a}/\eK s {s with β:=a,own:=zc s a}:=by
 obtain⟨c1,c2⟩:=iu o;obtain⟨d1,d2⟩:=iu d;have g:∀L∈a,L∈s.β:=zd d;refine⟨⟨hh.mem,by grind,?_,?_,?_,?_⟩,⟨rfl,λ_ _ _ h=>h,λ_ _ _=>rfl,hh.mem,?_⟩⟩
 .intro j B L r c;have hj:j<ks.length:=by grind
  obtain⟨x,q,v⟩:=c2 j _ (bm hj);obtain⟨y,e,k⟩:=d2 j _ (bm hj);rw[r]at q;cases q;simp only at c;rw[c]at e;cases e;exact eH.plain (σ:=σ) (s:=s) (s':={s with β:=a,own:=zc s a}) rfl rfl (kl u B (bH r)) (hh.box _ B L v k)
 .intro j p L L' c f b hb nZ;simp only at c f;have hj:j<ks.length:=by grind
  have n:p<ks.length:=by grind
  obtain⟨y,e,k⟩:=d2 j _ (bm hj);obtain⟨w,i,l⟩:=d2 p _ (bm n);rw[c]at e;cases e;rw[f]at i;cases i;have:=hh.eU _ _ L L' k l b hb nZ;exact uU t j p ks[j] (bm hj) (by grind)
 .intro L c b hb;exact hh.lt _ (g L c) b hb
 .rintro b (hb|⟨⟨L,c,hb⟩,m⟩)
  .exact⟨(hh.own b hb).1,λL c=>(hh.own b hb).2 L (g L c)⟩
  .exact⟨hh.lt L c b hb,m⟩
 .rintro b ((hb|⟨⟨L,c,hb⟩,_⟩)|⟨L,c,hb⟩)
  .grind
  .grind
  grind
def eK.back{σ1:List bd}{c s2:St}{a:List Loc}(hh:aD σ s)(h1:aD σ1 c)(st:cN σs {s with β:=a,own:=zc s a} σ1 c)(i:s2.w=c.w)(e:s2.M=c.M)(ho:s2.own=s.own)(d:∀L∈s2.β,L∈c.β∨(L∈s.β/\∀b∈L.bs,∀L'∈a,b∉L'.bs)):eK c s2:=by
 refine⟨i,λb o v h=>by grind,λb _ o=>by rw[e],λb o v h=>by rw[e]at h;exact h1.mem b o v h,?_⟩;rintro b (hb|⟨L,g,hb⟩)
 .left;rw[st.own];exact .inl (by grind)
 .rcases d L g with h|⟨h,f⟩
  .grind
  .left;rw[st.own];exact .inr ⟨⟨L,h,hb⟩,f b hb⟩
def sj{X:Cx P}{b:aU}{k:List Item}{a:Act}{rest:List Nat}{ks:List Nat}{f:aJ}(Z:b.kind≠.early)(ho:ops[i]?=aa o)(hw:aY o (yielded ops a.tmps)=ab)(Y:aD σ s)(y:∀w,(ak a.eval o).run P w=.ok (.enter f vs.toArray) w)(u:∀w,(ak a.eval o).events P w #[]=#[])(I:dL X f cm σs res σ1)(r:cg σ s vs (gD ks cm))(Q:lT ks.length cm=ab)(n:jV ks σ=aa σs)(hp:cE σs=ab)(H:∀j,cE (σ1 j)=ab)(W:dX ks=ab)(R:∀j,ks.length<=(σ1 j).length)(h:∀j v s',dk (eb ks (σ1 j) σ) s' v (iE (ks++lz σ.length ((σ1 j).length-ks.length)) (res j))->aD (eb ks (σ1 j) σ) s'->cN σ s (eb ks (σ1 j) σ) s'->fu X S (G (b.aT (a.put o.dst v) (.inRegion ops rest::k)) cs) s'):
  fu X S (G (b.aT a (.inRegion ops (i::rest)::k)) cs) s:=by
 obtain⟨_,p⟩:=I;refine .next rfl λg T=>?_;have F:=X.hZ T;have d:=Y.rely F;obtain⟨e,q⟩:=y9 (l':=g.β) n d.len;obtain⟨x,O⟩:=d.sub n q hp W;have m:cg σ g vs (gD ks cm):=r.mono F.stepW.ext Y.len;have C:cg σs {g with β:=e,own:=zc g e} vs cm:=(m.sub (s:=g) n q Q).mono (σ:=σs) (s:={g with β:=e}) (σ':=σs) (s':={g with β:=e,own:=zc g e}) ⟨λ_ _ _ h=>h,λl B L hB hL=>⟨B,L,hB,hL,.refl _ _⟩⟩ x.len;refine⟨_,g,_,oB ho hw Z (y g.w),?_,.ghost O (p _ vs C x S _ λj fr v s2 hl lR CF oe=>?_)⟩
 .refine⟨⟨σ,σ,d,d,.refl _ _⟩,ey.seen ?_⟩;rw[u];exact .nil
 refine px (cs:=cs) (c:=b.aT a (.inRegion ops (i::rest)::k)) CF hl λs3 t=>?_;have z:=CF.rely t;have A:=oe.trans t.stepW;obtain⟨s4,E,M,K,J,V,U,D⟩:=frame d n q W (H j) z A (R j) (lR.mono t.stepW.ext CF.len);refine .ghost (eK.back d z A E V U D) ?_;have N:=ja (b:=b) (a:=a) (k:=k) ops i rest v;rw[ho]at N;simp only[mr]at N;rw[N];exact h j v s4 M K (F.stepW.trans J)
def HY{X:Cx P}{b:aU}{k:List Item}{a:Act}{rest:List Nat}{ks:List Nat}{σ1:List bd}{f:aJ}{res:D}(q:b.kind≠.early)(ho:ops[i]?=aa o)(u:aY o (yielded ops a.tmps)=ab)(p:aD σ s)(e:∀w,(ak a.eval o).run P w=.ok (.enter f vs.toArray) w)(d:∀w,(ak a.eval o).events P w #[]=#[])(n:Ev X f cm σs res σ1)(c:cg σ s vs (gD ks cm))(l:lT ks.length cm=ab)(g:jV ks σ=aa σs)(r:cE σs=ab)(j:cE σ1=ab)(t:dX ks=ab)(m:ks.length<=σ1.length)(h:∀v s',dk (eb ks σ1 σ) s' v (iE (ks++lz σ.length (σ1.length-ks.length)) res)->aD (eb ks σ1 σ) s'->cN σ s (eb ks σ1 σ) s'->fu X S (G (b.aT (a.put o.dst v) (.inRegion ops rest::k)) cs) s'):
  fu X S (G (b.aT a (.inRegion ops (i::rest)::k)) cs) s :=
 sj q ho u p e d n.HX c l g r (λ_=>j) t (λ_=>m) (λ_=>h)
theorem gG(ho:o.op=.call {callee:=.value fo,args:=xs,argTypes:=jJ}){f:aJ}{fn:Func}(d:P.funcs[f]?=aa fn)(i:(fn.name== "runtime.NumGoroutine")=ae)(g:fn.body.isNone=ae){a:Act}{cs:List ai}(h:a.eval fo=.func (.func f) #[] cs.toArray)(w:aA):
  (ak a.eval o).run P w=.ok (.enter f (xs.toList.map a.eval++cs).toArray) w/\(ak a.eval o).events P w #[]=#[]:=by
 have e:(xs.map a.eval++cs.toArray)=(xs.toList.map a.eval++cs).toArray:=by grind
 have c:fn.name≠ "runtime.NumGoroutine":=by grind
 have b:fn.body≠af:=by grind
 constructor
 .simp[ak,ho,resolve,h,Deferred.ofValue,invoke,callFunc,d,c,b,e]
 .simp[ak,ho,resolve,h,Deferred.ofValue,invoke,callFunc,d,c,b]
def jd.AY{X:Cx P}{Q:Fr->List bd->Prop}(M:∀σ s a,ck N σ s φ a->aY o (yielded all.toArray a.tmps)=ab)(ho:o.op=.call {callee:=.value fo,args:=xs,argTypes:=jJ}){f:aJ}(y:ei (bJ φ fo)=aa (f,cap))(ks:List Nat)(u:dL X f cm σs res σ1)(m:∀s vs,cg σ s vs (xs.toList.map (bJ φ)++fC cap)->cg σ s vs (gD ks cm))(E:lT ks.length cm=ab)(G:jV ks σ=aa σs)(O:cE σs=ab)(z:∀j,cE (σ1 j)=ab)(L:dX ks=ab)(F:∀j,ks.length<=(σ1 j).length)(d:Option Nat)(T:o.dst=d)(R:∀t,d=aa t->t<N)(k:∀j,jd X N all rest Q (kg d (iE (ks++lz σ.length ((σ1 j).length-ks.length)) (res j)) φ) (eb ks (σ1 j) σ)):jd X N all (o::rest) Q φ σ:=by
 subst T;intro s a e hh b kk cs S idx hb iC hQ;cases idx with
 |nil=>exact iC.elim
 |cons i idx =>
 obtain⟨hi,iC⟩:=iC;have r:=cY e fo;unfold ei at y;split at y
 case h_2=>cases y
 case h_1 f' HK he =>
  cases y;rw[he]at r;have h:=fH r;generalize I:a.eval fo=fv at h;cases h with
  |fn fs lS hl CG f1 f2 h1 h2 r1 r2 =>
   have A:fs=[]:=jg hl;subst A;have n:cg σ s lS (fC cap):=lq (λj c hj=>⟨f2 j,h2 j (by grind),r2 j c hj⟩) CG;have p:cg σ s (xs.toList.map a.eval++lS) (gD ks cm):=by exact m _ _ ((nv (cY e) xs.toList).append n)
   obtain⟨fn,x,l,g⟩:=u.1;refine sj hb hi (M _ _ _ e) hh (λw=>(gG ho x l g I w).1) (λw=>(gG ho x l g I w).2) u p E G O z L F λj v s' hr jf st=>?_;refine k j s' _ ?_ jf b kk cs S idx hb iC λC B K a3 q U J D=>hQ C B K a3 q U J (st.trans D);cases H:o.dst with
   |none=>exact e.mono st hh.len
   |some t=>exact(e.mono st hh.len).put (R t H) hr
def jd.Ou{X:Cx P}{Q:Fr->List bd->Prop}(u:∀σ s a,ck N σ s φ a->aY o (yielded all.toArray a.tmps)=ab)(ho:o.op=.call {callee:=.value fo,args:=xs,argTypes:=jJ}){f:aJ}(m:ei (bJ φ fo)=aa (f,cap))(ks:List Nat)(l:dL X f cm σs res σ1)(e:n5 (xs.toList.map (bJ φ)++fC cap)=gD ks cm)(g:lT ks.length cm=ab)(b:jV ks σ=aa σs)(n:cE σs=ab)(c:∀j,cE (σ1 j)=ab)(q:dX ks=ab)(i:∀j,ks.length<=(σ1 j).length)(d:Option Nat)(r:o.dst=d)(p:∀t,d=aa t->t<N)(k:∀j,jd X N all rest Q (kg d (iE (ks++lz σ.length ((σ1 j).length-ks.length)) (res j)) φ) (eb ks (σ1 j) σ)):jd X N all (o::rest) Q φ σ :=
 jd.AY u ho m ks l (λs vs h=>by grind[rq]) g b n c q i d r p k
theorem jd.call{X:Cx P}{Q:Fr->List bd->Prop}(q:∀σ s a,ck N σ s φ a->aY o (yielded all.toArray a.tmps)=ab)(ho:o.op=.call {callee:=.value fo,args:=xs,argTypes:=jJ}){f:aJ}(j:ei (bJ φ fo)=aa (f,cap))(ks:List Nat){σ1:List bd}{res:D}(i:Ev X f cm σs res σ1)(b:n5 (xs.toList.map (bJ φ)++fC cap)=gD ks cm)(g:lT ks.length cm=ab)(c:jV ks σ=aa σs)(l:cE σs=ab)(e:cE σ1=ab)(n:dX ks=ab)(h:ks.length<=σ1.length)(d:Option Nat)(p:o.dst=d)(m:∀t,d=aa t->t<N)(k:jd X N all rest Q (kg d (iE (ks++lz σ.length (σ1.length-ks.length)) res) φ) (eb ks σ1 σ)):jd X N all (o::rest) Q φ σ :=
 jd.Ou q ho j ks i.HX b g c l (λ_=>e) n (λ_=>h) d p m (λ_=>k)
def Names.range(all:List aB):Names all (bh all.toArray.size) all:=by
 have key:∀(l:List aB) (n:Nat),(∀j o,l[j]?=aa o->all[n+j]?=aa o)->Names all (List.range' n l.length) l:=by
  intro l;induction l with
  |nil=>intro n _;trivial
  |cons o r b =>
   intro n h;rw[gb,List.range'_succ];refine⟨by simpa using h 0 o rfl,b (n+1) λj a hj=>?_⟩;have:=h (j+1) a (by grind);grind
 grind[List.range_eq_range']
theorem AW.region{X:Cx P}{Q:Post}{id:Nat}(h:jd X N ops.toList ops.toList (λφ σ=>Q .normal φ σ) φ σ):AW X N (.region id ops ae) Q φ σ:=by intro s a f hh b k cs S hb hQ;refine .ctl hh rfl (λ_=>pA) λe h1=>?_;have:=h e a (f.rely h1 hh) (hh.rely h1) b k cs S (bh ops.size) hb (by simpa using Names.range ops.toList) λφ' σ' s' a' q c d st=>hQ .normal φ' σ' s' a' q c d (h1.stepW.trans st);simpa using this
def jd.nil{P:aM}{X:Cx P}{N:Nat}{all:List aB}{Q:Fr->List bd->Prop}{φ:Fr}{σ:List bd}(h:Q φ σ):jd X N all [] Q φ σ:=by
 intro s a f hh b k cs S idx _ c d;cases idx with
 |cons i idx=>exact c.elim
 |nil=>exact .ctl hh rfl (λ_=>iK) λe h1=>d φ σ e a h (f.rely h1 hh) (hh.rely h1) h1.stepW
def jd.mono{X:Cx P}{Q c:Fr->List bd->Prop}(h:jd X N all rest Q φ σ)(d:∀φ σ,Q φ σ->c φ σ):jd X N all rest c φ σ :=
 λs a f hh b k cs S idx hb hi hQ=>h s a f hh b k cs S idx hb hi λφ' σ' s' a' q g e st=>hQ φ' σ' s' a' (d _ _ q) g e st
def jb:Nat->List D->Fr
 |_,[]=>[]
 |i,d::r=>(i,d)::jb (i+1) r
def nB:∀(ds:List D)(i t:Nat),look (jb i ds) t=if i<=t then(ds[t-i]?).getD .any else .any
 |[],i,t=>by simp[jb,look]
 |d::r,i,t=>by
  simp only[jb,look];by_cases e:i=t
  .grind [Nat.beq_refl]
  .have:av i t=ae:=by grind[Nat.eq_of_beq_eq_true]
   rw[this];simp only[cond,nB r (i+1) t];grind
theorem cg.get{σ:List bd}{s:St}:∀{vs:List ai}{ds:List D},cg σ s vs ds->vs.length=ds.length/\∀(j:Nat),dk σ s ((vs[j]?).getD ah) ((ds[j]?).getD .any)
 |[],[],_=>⟨rfl,λj=>by simp[dk]⟩
 |[],_::_,h=>h.elim
 |_::_,[],h=>h.elim
 |v::vs,d::ds,h=>by
  obtain⟨h1,h2⟩:=cg.get h.2;refine⟨by grind,λj=>?_⟩;cases j with
  |zero=>simpa using h.1
  |succ j=>grind
def xg(φ:Fr):List ResultVar->Option (List D)
 |[]=>aa []
 |.tmp t::r=>match xg φ r with
  |some q=>aa (look φ t::q)
  |none=>af
 |.cell _ _::_=>af
def tf:List D->Option (List E1)
 |[]=>aa []
 |.e x::r=>match tf r with
  |some q=>aa (x::q)
  |none=>af
 |_::_=>af
def rr:List D->Option D
 |[d]=>aa d
 |ds=>match tf ds with
  |some es=>aa (.fw es)
  |none=>af
def fT(a:Act):ResultVar->Sem ai
 |ResultVar.tmp t=>pure (a.tmps.getD t ah)
 |ResultVar.cell ad t=>do loadVar t (<-asAddr (a.tmps.getD ad ah))
def EJ(P:aM){N:Nat}{σ:List bd}{s:St}{φ:Fr}{a:Act}(f:ck N σ s φ a):∀{rs:List ResultVar}{ds:List D},xg φ rs=aa ds ->
  ∃vs,(∀w,(rs.mapM (fT a)).run P w=Result.ok vs w)/\cg σ s vs ds/\cV P (rs.mapM (fT a))
 |[],ds,h=>by cases h;exact⟨[],by simp,ar,by rw[List.mapM_nil];exact .pure⟩
 |.tmp t::r,ds,h=>by
  simp only[xg]at h;cases b:xg φ r with
  |none=>grind
  |some q =>
   simp[b]at h;subst h;obtain⟨vs,d,c,e⟩:=EJ P f b;refine⟨a.tmps.getD t ah::vs,?_,⟨f.slot t,c⟩,?_⟩
   .intro w;simp only[kQ,bO,fT,cT,b9,d]
   .rw[kQ];exact .bind .pure λ_=>.bind e λ_=>.pure
 |.cell ad t::r,ds,h=>by simp[xg]at h
def AZ{σ:List bd}{s:St}:∀{vs:List ai}{ds:List D}{es:List E1},tf ds=aa es->cg σ s vs ds->gC σ s vs es
 |[],[],es,h,_=>by cases h;trivial
 |[],_::_,_,_,h=>h.elim
 |_::_,[],_,_,h=>h.elim
 |v::vs,.e x::r,es,h,b=>by
  simp only[tf]at h;cases a:tf r with
  |none=>grind
  |some q=>simp[a]at h;subst h;exact⟨b.1,AZ a b.2⟩
 |_::_,.fw _::_,es,h,_=>by simp[tf]at h
 |_::_,.any::_,es,h,_=>by simp[tf]at h
def A0{ds:List D}{d:D}(h:rr ds=aa d)(a:cg σ s vs ds):dk σ s (if h:vs.length=1 then vs[0]else .tuple vs.toArray) d:=by
 unfold rr at h;split at h
 .rename_i g;cases h
  match vs,a with
  |[v],a=>simpa using a.1
 .rename_i f;cases b:tf ds with
  |none=>grind
  |some es =>
   simp[b]at h;subst h;have c:vs.length≠1:=by
    intro e;rw[(cg.get a).1]at e
    match ds,e with
    |[x],_=>grind
   rw[dif_neg c];exact⟨vs,rfl,AZ b a⟩
def A1(P:aM)(fn:Func)(φ:Fr)(d:D):Prop:=∀{N:Nat}{σ:List bd}{s:St}{a:Act},ck N σ s φ a->∃v,dk σ s v d/\∀w,(∀b o u,s.M b o=aa u->w.cell? ⟨b,o,af⟩=aa u)->(results fn a.tmps).run P w=.ok v w/\∀e∈(results fn a.tmps).events P w #[],∃b o u,e=⟨.cell ⟨b,o,af⟩,ae,ae⟩/\s.M b o=aa u
def tg{a:Act}(f:ck N σ s φ a){fn:Func}{ds:List D}{d:D}(h:xg φ fn.results.toList=aa ds)(c:rr ds=aa d):
  ∃v,(∀w,(results fn a.tmps).run P w=.ok v w)/\dk σ s v d/\cV P (results fn a.tmps):=by
 obtain⟨vs,i,b,g⟩:=EJ P f h;refine⟨_,λw=>?_,A0 c b,?_⟩
 .have e:(fn.results.mapM (fT a)).run P w=Result.ok vs.toArray w:=by grind[Array.mapM_eq_mapM_toList,Sem.run_map,Go.Result.andThen_ok]
  unfold results;rw[bO];refine(dA (λr=>Result.andThen r _) (Eq.trans ?_ e)).trans ?_
  .congr 2
  .simp
 .unfold results;have e:cV P (fn.results.mapM (fT a)):=by rw[qk];exact .map g
  exact .bind e λ_=>.pure
theorem A1.of{fn:Func}{ds:List D}{d:D}(h:xg φ fn.results.toList=aa ds)(hj:rr ds=aa d):A1 P fn φ d:=by intro N σ s a f;obtain⟨v,h1,h2,b⟩:=tg (P:=P) f h hj;exact⟨v,h2,λw _=>⟨h1 w,λe c=>by rw[b w #[]]at c;grind⟩⟩
section
def aD.kU(h:aD σ s):aD (σ.map λ_=>.dead) s:=by
 refine⟨h.mem,by simp[h.len],λl B L a c=>?_,h.eU,h.lt,h.own⟩;simp only[nq]at a;cases b:σ[l]? with
 |none=>grind
 |some x=>rw[b]at a;cases a;trivial
structure Ow(ls:List Nat)(s s':St):Prop where
 β:s'.β=s.β
 M:s'.M=s.M
 own:s'.own=s.own
 size:s.w.heap.size<=s'.w.heap.size
 keep:∀b,(s.own b∨∃(l:Nat) (L:Loc),s.β[l]?=aa L/\l∉ls/\b∈L.bs)->s'.w.heap[b]?=s.w.heap[b]?
 mem:∀b o v,s.M b o=aa v->s'.w.cell? ⟨b,o,af⟩=aa v
 os:s'.w.os=s.w.os
 tape:s'.w.tape=s.w.tape
 output:s'.w.output=s.w.output
def bU.ZX(h:bU s s')(ls:List Nat):Ow ls s s' :=
 ⟨h.β,h.M,h.own,h.size,λb hb=>h.keep b (hb.imp id λ⟨l,L,h1,_,a⟩=>⟨L,bH h1,a⟩),h.mem,h.os,h.tape,h.output⟩
theorem Ow.cat{ls:List Nat}{a s2:St}(h:Ow [l] s a)(k:Ow ls a s2):Ow (l::ls) s s2:=by refine⟨k.β.trans h.β,k.M.trans h.M,k.own.trans h.own,dO h.size k.size,λb hb=>?_,λb o v d=>k.mem b o v (by rw[h.M];exact d),k.os.trans h.os,k.tape.trans h.tape,k.output.trans h.output⟩;rw[k.keep b,h.keep b (hb.imp id λ⟨l',L,h1,h2,c⟩=>⟨l',L,h1,λe=>h2 (by grind),c⟩)];rw[h.own,h.β];grind
def H5{r:Nat}(a:w.heap[r]?=aa (.deferred (aa []))):
  (Instr.takeDeferred r).run P w=.ok [] {w with heap:=w.heap.setIfInBounds r (.deferred af)}/\(Instr.takeDeferred r).events P w #[]=#[⟨.obj r,ae,ae⟩,⟨.obj r,ab,ae⟩]:=by
 have b:(getObj r).run P w=.ok (.deferred (aa [])) w:=by simp only[getObj,Sem.run,a]
 have e:(setObj r (.deferred af)).run P w=.ok () {w with heap:=w.heap.setIfInBounds r (.deferred af)}:=by simp only[setObj,Sem.run,a]
 have c:∀es,(getObj r).events P w es=es.push ⟨.obj r,ae,ae⟩:=λes=>by simp only[getObj,Sem.events,Sem.runT,a];rfl
 have d:∀es,(setObj r (.deferred af)).events P w es=es.push ⟨.obj r,ab,ae⟩:=λes=>by simp only[setObj,Sem.events,Sem.runT,a];rfl
 constructor
 .simp[Instr.takeDeferred,b,e]
 .simp[Instr.takeDeferred,b,c,d]
variable {X:Cx P}{main:Bool}
def Mi{a:aU}{r:Nat}{ds:List Deferred}(d:a.mode=.returning)(e:a.defers={target:=.collected r,args:=#[]}::ds)(c:w.heap[r]?=aa (.deferred (aa []))):
  aG P main (G a cs) w=.go (G {a with defers:=ds} cs) {w with heap:=w.heap.setIfInBounds r (.deferred af)} (seen P a.fn #[⟨.obj r,ae,ae⟩,⟨.obj r,ab,ae⟩]):=by obtain⟨b,f⟩:=H5 (P:=P) c;simp[G,aG,unwind,d,e,b,f,GStep.after]
def u5(s:St):List Deferred->List Nat->Prop
 |[],[]=>True
 |d::ds,l::ls=>(∃r:Nat,s.β[l]?=aa ⟨.int .i64 r,[r]⟩/\s.w.heap[r]?=aa (.deferred (aa []))/\(∀o,s.M r o=af)/\d={target:=.collected r,args:=#[]})/\l∉ls/\u5 s ds ls
 |_,_=>False
def om.taken{σ:List bd}{s:St}(hh:aD σ s):∀{ds:List Deferred}{ls:List Nat},om σ s ds ls->u5 s ds ls
 |[],[],_=>trivial
 |[],_::_,r=>r.elim
 |_::_,[],r=>r.elim
 |d::ds,l::ls,⟨⟨h1,L,r,h2,c,f⟩,h,g⟩=>by
  obtain⟨r',k1,a,b⟩:=hh.box l _ L h1 h2;subst k1;simp at c;have e:r'=r:=by omega
  subst e;exact⟨⟨r',h2,a,b,f⟩,h,om.taken hh g⟩
def u5.mono{s s':St}{b:Nat}(h:Ow [b] s s'):∀{ds:List Deferred}{ls:List Nat},b∉ls->u5 s ds ls->u5 s' ds ls
 |[],[],_,_=>trivial
 |[],_::_,_,r=>r.elim
 |_::_,[],_,r=>r.elim
 |d::ds,l::ls,a,⟨⟨r,h1,h2,g,c⟩,f,e⟩=>by simp only[dK,not_or]at a;refine⟨⟨r,by rw[h.β];exact h1,by rw[h.keep r (.inr ⟨l,_,h1,by grind,by simp⟩)];exact h2,λo=>by rw[h.M];grind,c⟩,f,u5.mono h a.2 e⟩
def qy:∀(ls:List Nat)(g:aU)(s:St)(σ:List bd),aD σ s->(∀B∈σ,B=.dead)->g.mode=.returning->u5 s g.defers ls ->
  (∀s',Ow ls s s'->fu X S (G {g with defers:=[]} cs) s')->fu X S (G g cs) s
 |[],g,s,σ,u,n,D,m,k=>by
  have p:g.defers=[]:=by
   cases p:g.defers with
   |nil=>rfl
   |cons d ds=>rw[p]at m;exact m.elim
  have:=k s ((bU.refl u).ZX _);have e:{g with defers:=[]}=g:=by cases g;simp_all
  grind
 |l::ls,g,s,σ,u,n,D,m,k=>by
  cases p:g.defers with
  |nil=>rw[p]at m;exact m.elim
  |cons d ds =>
   rw[p]at m;obtain⟨⟨r,y,N,U,O⟩,R,K⟩:=m;subst O;refine .next rfl λi F=>?_;have c:=X.hZ F;have a:=u.rely c;have A:i.β[l]?=aa ⟨.int .i64 r,[r]⟩:=by rw[c.β];exact y
   have C:i.w.heap[r]?=aa (.deferred (aa [])):=by rw[c.keep r (.inr ⟨_,bH y,by simp⟩)];exact N
   have J:∀o,i.M r o=af:=λo=>by rw[c.M];grind
   let s2:St:={i with w:={i.w with heap:=i.w.heap.setIfInBounds r (.deferred af)}}
   have I:∀b,b≠r->s2.w.heap[b]?=i.w.heap[b]?:=λb f=>by grind
   have j:∀b o v,i.M b o=aa v->s2.w.cell? ⟨b,o,af⟩=aa v:=by
    intro b o v E;have q:b≠r:=by grind
    rw[<-a.mem b o v E];simp only[aV];grind
   have x:aD σ s2:=by
    refine⟨j,a.len,λl' B L T z=>?_,a.eU,λL z b f=>?_,λb f=>⟨?_,(a.own b f).2⟩⟩
    .rw[n B (bH T)];trivial
    .have:=a.lt L z b f;grind
    .have:=(a.own b f).1;grind
   have t:∃L∈i.β,r∈L.bs:=⟨_,bH A,by simp⟩
   have st:Step σ i σ s2:=by refine⟨by grind,λb _ f=>I b ?_,λ_ _ _ h=>h,λ_ _ _ _=>rfl,λL z b f=>.inr ⟨L,z,f⟩,λ_ B L h Q=>⟨B,L,h,Q,.refl _ _⟩,rfl,rfl,rfl,rfl⟩;grind
   have un:Ow [l] s s2:=by
    refine⟨c.β,c.M,c.own,dO c.size (by grind),λb f=>?_,λb o v E=>j b o v (by rw[c.M];exact E),c.os,c.tape,c.output⟩;have q:b≠r:=by
     rintro rfl;rcases f with f|⟨l',L',H,p2,p3⟩
     .exact(u.own b f).2 _ (bH y) (by simp)
     .exact p2 (by simp;exact u.eU l' l L' _ H y b p3 (by simp))
    rw[I b q];exact c.keep b (f.imp id λ⟨l',L',H,_,p3⟩=>⟨L',bH H,p3⟩)
   refine⟨_,s2,_,Mi D p C,⟨⟨σ,σ,a,x,st⟩,ey.seen (.two ?_ ?_)⟩,?_⟩
   .exact⟨rfl,.inr t⟩
   .exact⟨rfl,.inr t⟩
   refine qy ls {g with defers:=ds} s2 σ x n D (K.mono un R) λs' hu=>?_;exact k s' (un.cat hu)
end
def cp(n:Nat)(f g:Nat->List C):Prop:=∀i,i<n->f i=g i
def Flat.CN{es':Nat->List C}(h:Flat M k n es vs)(a:cp n es es'):Flat M k n es' vs :=
 ⟨h.len,λi hi=>by rw[<-a i hi];exact h.width i hi,λi hi j c hj=>h.rd i hi j c (by rw[a i hi];exact hj)⟩
def WQ:C->C->Option (List Prop)
 |.int k n,.int k' n'=>match Gj k k' with|true=>aa [n=n']|false=>af
 |.bool b,.bool b'=>aa [b=b']
 |.str s,.str s'=>aa [s=s']
 |.sl t k n es,.sl t' k' n' es'=>match av k k' with
  |true=>match t,t' with
   |false,ab=>af
   |_,_=>aa [n=n',cp n es es']
  |false=>match t,t' with
   |true,_=>aa [n=0,n'=0]
   |_,_=>af
 |.val x,.val y=>aa [x=y]
 |x,y=>aa [x=y]
def IN{x y:C}(h:WQ x y=aa ps)(c:au ps)(r:Rd M v x):Rd M v y:=by
 unfold WQ at h;split at h
 .rename_i k n k' n';cases d:Gj k k'<;>simp[d]at h
  subst h;cases zF d;cases(show n=n' from c);exact r
 .cases h;rename_i b f;cases(show b=f from c);exact r
 .cases h;rename_i b f;cases(show b=f from c);exact r
 .rename_i t k n es t' k' n' es';cases d:av k k' with
  |true =>
   simp only[d]at h;have e:=bX d;subst e;cases t<;>cases t'<;>simp at h
   all_goals (subst h;obtain⟨rfl,g⟩:=(show n=n'/\cp n es es' from c);first|exact r.CN g|exact r.loose.CN g)
  |false =>
   simp only[d]at h;cases t<;>simp at h
   subst h;obtain⟨rfl,rfl⟩:=(show n=0/\n'=0 from c)
   obtain⟨a,cap,vs,rfl,_,_,i,_⟩:=r.flat;grind[Rd.jr]
 .cases h;rename_i x y;cases(show x=y from c);exact r
 .cases h;cases c;exact r
def Td:A->A->Option (List Prop)
 |.c x,.c y=>WQ x y
 |.vec _ k n es,.c (.sl ae k' n' es')=>match av k k' with|true=>aa [n=n',cp n es es']|false=>af
 |.vec l k n es,.vec l' k' n' es'=>match av l l' with
  |true=>match av k k' with|true=>aa [n=n',cp n es es']|false=>af
  |false=>af
 |.ptr l o,.ptr l' o'=>match av l l' with|true=>(match av o o' with|true=>aa []|false=>af)|false=>af
 |.ref l,.ref l'=>match av l l' with|true=>aa []|false=>af
 |.bp l w,.bp l' w'=>match av l l' with|true=>aa [w=w']|false=>af
 |_,.any=>aa []
 |_,_=>af
def IP{x y:A}(h:Td x y=aa ps)(c:au ps)(r:gd σ s v x):gd σ s v y:=by
 unfold Td at h;split at h
 .exact IN h c r
 .rename_i k n es k' n' es';cases b:av k k'<;>simp[b]at h
  subst h;have e:=bX b;subst e;obtain⟨rfl,d⟩:=(show n=n'/\cp n es es' from c)
  exact r.1.CN d
 .rename_i l k n es l' k' n' es';cases a:av l l'<;>simp[a]at h
  cases b:av k k'<;>simp[b]at h
  subst h;have e:=bX b;have f:=bX a;subst e f;obtain⟨rfl,d⟩:=(show n=n'/\cp n es es' from c)
  exact⟨r.1.CN d,r.2.1,r.2.2⟩
 .grind [Nat.eq_of_beq_eq_true]
 .grind [Nat.eq_of_beq_eq_true]
 .rename_i l w l' w';cases a:av l l'<;>simp[a]at h
  have f:=bX a;subst f;subst h;cases(show w=w' from c);exact r
 .exact gd.cell r
 grind
def iF:List Prop->List Prop->List Prop
 |[],q=>q
 |p::r,q=>p::iF r q
@[simp] theorem au.cat{p q:List Prop}:au (iF p q)↔au p/\au q:=by
 induction p with
 |nil=>simp[iF]
 |cons x r a=>simp only[iF,au.cons,a,and_assoc]
def OL:List A->List A->Option (List Prop)
 |[],[]=>aa []
 |a::al,b::bs=>match Td a b with
  |some p=>match OL al bs with
   |some q=>aa (iF p q)
   |none=>af
  |none=>af
 |_,_=>af
def Df{σ:List bd}{s:St}:∀{vs:List ai}{xs ys:List A}{ps:List Prop},OL xs ys=aa ps->au ps->dZ σ s vs xs->dZ σ s vs ys
 |[],[],[],_,_,_,_=>trivial
 |_::_,[],_,_,_,_,h=>h.elim
 |[],_::_,_,_,_,_,h=>h.elim
 |[],[],_::_,_,h,_,_=>by simp[OL]at h
 |_::_,_::_,[],_,h,_,_=>by simp[OL]at h
 |v::vs,a::al,b::bs,ps,h,c,f=>by
  simp only[OL]at h;cases d:Td a b with
  |none=>grind
  |some p =>
   cases e:OL al bs with
   |none=>grind
   |some q =>
    simp[d,e]at h;subst h;rw[au.cat]at c;exact⟨IP d c.1 f.1,Df e c.2 f.2⟩
def Te:E1->E1->Option (List Prop)
 |.one a,.one b=>Td a b
 |.agg al,.agg bs=>OL al bs
 |_,_=>af
def IQ{x y:E1}(h:Te x y=aa ps)(a:au ps)(r:nh σ s v x):nh σ s v y:=by
 cases x<;>cases y<;>simp only[Te,reduceCtorEq]at h
 .exact IP h a r
 .obtain⟨vs,c,b⟩:=r;exact⟨vs,c,Df h a b⟩
def Dh:List E1->List E1->Option (List Prop)
 |[],[]=>aa []
 |a::al,b::bs=>match Te a b with
  |some p=>match Dh al bs with
   |some q=>aa (iF p q)
   |none=>af
  |none=>af
 |_,_=>af
def E5{σ:List bd}{s:St}:∀{vs:List ai}{xs ys:List E1}{ps:List Prop},Dh xs ys=aa ps->au ps->gC σ s vs xs->gC σ s vs ys
 |[],[],[],_,_,_,_=>trivial
 |_::_,[],_,_,_,_,h=>h.elim
 |[],_::_,_,_,_,_,h=>h.elim
 |[],[],_::_,_,h,_,_=>by simp[Dh]at h
 |_::_,_::_,[],_,h,_,_=>by simp[Dh]at h
 |v::vs,a::al,b::bs,ps,h,c,f=>by
  simp only[Dh]at h;cases d:Te a b with
  |none=>grind
  |some p =>
   cases e:Dh al bs with
   |none=>grind
   |some q =>
    simp[d,e]at h;subst h;rw[au.cat]at c;exact⟨IQ d c.1 f.1,E5 e c.2 f.2⟩
def CH:D->D->Option (List Prop)
 |.e x,.e y=>Te x y
 |.fw xs,.fw ys=>Dh xs ys
 |_,.any=>aa []
 |_,_=>af
theorem qu{x y:D}(h:CH x y=aa ps)(a:au ps)(r:dk σ s v x):dk σ s v y:=by
 cases x<;>cases y<;>simp only[CH,reduceCtorEq]at h
 .exact IQ h a r
 .trivial
 .obtain⟨vs,c,b⟩:=r;exact⟨vs,c,E5 h a b⟩
 .trivial
 .trivial
def pZ(φ:Fr):Fr->Option (List Prop)
 |[]=>aa []
 |(i,d)::r=>match CH (look φ i) d with
  |some p=>match pZ φ r with
   |some q=>aa (iF p q)
   |none=>af
  |none=>af
def dv{φ:Fr}:∀{φ':Fr}{ps:List Prop},pZ φ φ'=aa ps->au ps->rJ φ φ'
 |[],_,_,_=>λ_ _ _ _ _=>trivial
 |(i,d)::r,ps,h,a=>by
  simp only[pZ]at h;cases c:CH (look φ i) d with
  |none=>grind
  |some p =>
   cases b:pZ φ r with
   |none=>grind
   |some q =>
    simp[c,b]at h;subst h;rw[au.cat]at a;intro σ s v t e;simp only[look];cases f:av i t with
    |true =>
     grind[Nat.eq_of_beq_eq_true,qu]
    |false=>exact dv b a.2 σ s v t e
def kJ(σ:List bd):Bool:=match cE σ with|true=>mP σ|false=>ae
def xU(h:kJ σ=ab):cE σ=ab/\mP σ=ab:=by unfold kJ at h;grind
def om.Bj{σ:List bd}{s:St}:∀{ds:List Deferred}{ls:List Nat},om σ s ds ls->∀l∈ls,σ[l]?=aa .qp
 |[],[],_,l,hl=>by grind
 |[],_::_,r,_,_=>r.elim
 |_::_,[],r,_,_=>r.elim
 |d::ds,b::ls,⟨⟨h1,_⟩,_,a⟩,l,hl=>by
  rcases dK.1 hl with rfl|hl
  .exact h1
  .exact om.Bj a l hl
def cd(fn:Func)(a:Nat)(res:D)(σ':List bd):Post:=λe φ σ1 =>
 (e=.ret∨e=.normal)/\∃ks ds d ps,xg φ fn.results.toList=aa ds/\rr ds=aa d/\CH d (iE ks res)=aa ps/\au ps/\uV ks.length res=ab /\
  jV ks σ1=aa σ'/\kJ σ'=ab/\dX ks=ab/\(∀j,j<a->ks[j]?=aa j)
def A2(P:aM)(fn:Func)(a:Nat)(res:D)(σ':List bd):Post:=λe φ σ1 =>
 (e=.ret∨e=.normal)/\∃ks d ps,A1 P fn φ d/\CH d (iE ks res)=aa ps/\au ps/\uV ks.length res=ab /\
  jV ks σ1=aa σ'/\kJ σ'=ab/\dX ks=ab/\(∀j,j<a->ks[j]?=aa j)
def cd.toJ{fn:Func}{a:Nat}{res:D}{e:Exit}{σ1:List bd}(h:cd fn a res σ' e φ σ1):A2 P fn a res σ' e φ σ1:=by obtain⟨c,ks,ds,d,ps,h1,h2,b⟩:=h;exact⟨c,ks,d,ps,A1.of h1 h2,b⟩
def dL.IS{X:Cx P}{f:aJ}{fn:Func}{args:List D}{σ':ι->List bd}(hf:P.funcs[f]?=aa fn)(H:(fn.name== "runtime.NumGoroutine")=ae)(hb:fn.body=aa c)(hlen:args.length<=fn.ntmps)(h:∀s a,ck fn.ntmps σ s (jb 0 args) a->aD σ s->∀(b:aU) (k:List Item) (cs:List aU) (S:aq->St->Prop),b.kind≠.early->b.roundOf=af ->
  (∀e φ' σ1 s' a',(∃j,A2 P fn σ.length (res j) (σ' j) e φ' σ1)->ck fn.ntmps σ1 s' φ' a'->aD σ1 s'->cN σ s σ1 s'->ends X S b k cs e a' s')->fu X S (G (b.aT a (.code c::k)) cs) s):dL X f args σ res σ':=by
 refine⟨⟨fn,hf,H,by grind⟩,λs vs hr hh S cs hS=>?_⟩;obtain⟨hl,hg⟩:=cg.get hr;let b:aU:={fn:=f,tmps:=#[],todo:=[],defers:=[],mode:=.run,kind:=.normal,roundOf:=af}
 have z:Frame.enter P f vs.toArray .normal=b.aT {tmps:=vs.toArray++Array.replicate (fn.ntmps-vs.toArray.size) ah,defers:=[]} [.code c]:=by simp[Frame.enter,Frame.aT,hf,hb,b]
 rw[z];refine h s {tmps:=vs.toArray++Array.replicate (fn.ntmps-vs.toArray.size) ah,defers:=[]} ⟨by grind,⟨[],ar⟩,λt=>?_⟩ hh b [] cs S (by simp[b]) rfl ?_
 .rw[nB];simp only[iN,b5,j3];have:=hg t;rcases cA t vs.length with tM|R3
  .have e:(vs.toArray++Array.replicate (fn.ntmps-vs.toArray.size) ah).getD t ah=(vs[t]?).getD ah:=by simp only[dH];grind
   grind
  .rw[qP (by omega)];trivial
 .rintro e φ' σ1 s1 a1 ⟨Q,V,ks,d,ps,h1,h3,h4,h5,O,U,h8,h9⟩ f' R st;obtain⟨Y,W⟩:=xU U;have fin:∀(fr:aU) s2,bU s1 s2->fr.fn=f->fr.tmps=a1.tmps->fr.defers=a1.defers->fr.mode=.returning->fr.kind=.normal->fu X S (G fr cs) s2:=by
   intro fr s2 r7 e1 e2 e3 e4 e5;have Z:=f'.rely r7 R;have n:=R.rely r7;have g:=st.trans r7.stepW;obtain⟨v,r2,r1⟩:=h1 Z;obtain⟨i,r⟩:=y9 (l':=s2.β) O n.len;have r4:=(qu h3 h4 r2).sub O r h5;obtain⟨c1,c2⟩:=iu O;obtain⟨d1,d2⟩:=iu r;have I:∀L∈i,L∈s2.β:=zd r;have E:aD (σ' Q) {s2 with β:=i}:=by obtain⟨F,_⟩:=n.sub O r Y h8;refine⟨F.mem,F.len,λj B L N q=>?_,F.eU,F.lt,λb hb=>⟨(n.own b hb).1,λL q=>(n.own b hb).2 L (I L q)⟩⟩;exact eH.plain (σ:=σ' Q) (s:={s2 with β:=i,own:=zc s2 i}) (s':={s2 with β:=i}) rfl rfl (kl Y B (bH N)) (F.box j B L N q)
   have T:cN σ s (σ' Q) {s2 with β:=i}:=by refine⟨g.size,g.keep,g.mem,g.iI,λL q b hb=>g.ur _ (I L q) b hb,λl B L N q=>?_,g.os,g.tape,g.output,g.own⟩;have hl:l<σ.length:=(b8.1 N).1;obtain⟨B',L',p1,p2,p3⟩:=g.box l B L N q;grind
   obtain⟨ls,K⟩:=Z.defers;refine qy ls fr s2 _ n.kU (by simp) e4 (by rw[e3];exact K.taken n) λC m=>?_;have p:bU {s2 with β:=i} {C with β:=i}:=by
    refine⟨rfl,m.M,m.own,m.size,λb hb=>m.keep b (hb.imp id ?_),m.mem,m.os,m.tape,m.output⟩;rintro⟨L,q,hb⟩;obtain⟨j,hj,rfl⟩:=dN q;have J:j<ks.length:=by grind
    obtain⟨y,y1,y2⟩:=d2 j _ (bm J);obtain⟨x,x1,x2⟩:=c2 j _ (bm J);rw[bm hj]at y1;cases y1;refine⟨_,_,y2,λhc=>?_,hb⟩;rw[K.Bj _ hc]at x2;cases x2;exact mQ W _ (bH x1) rfl
   have hG:eK C {C with β:=i}:=⟨rfl,λ_ _ _ h=>h,λ_ _ _=>rfl,λb o v hv=>m.mem b o v (by rw[<-m.M];exact hv),λb hb=>hb.imp id λ⟨L,q,hb⟩=>⟨L,by rw[m.β];grind,hb⟩⟩
   refine .ghost hG (hS Q _ v _ ⟨e1,e4,rfl,e5,fn,by grind,λw hw=>?_⟩ (r4.mono p.stepW.ext E.len) (E.rely p) (T.trans p.stepW));show(results fn fr.tmps).run P w=_/\∀e∈(results fn fr.tmps).events P w #[],_;rw[e2];have A:∀b o u,s2.M b o=aa u->w.cell? ⟨b,o,af⟩=aa u:=λb o u h=>hw b o u (by show C.M b o=aa u;rw[m.M];exact h);refine⟨(r1 w A).1,λe V=>?_⟩;obtain⟨b,o,u,q1,q2⟩:=(r1 w A).2 e V;exact⟨b,o,u,q1,by show C.M b o=aa u;rw[m.M];exact q2⟩
  rcases V with rfl|rfl
  .intro pre;exact .ctl R rfl (λ_=>CR rfl) λs2 r7=>fin _ s2 r7 rfl rfl (jR _) rfl rfl
  .exact .ctl R rfl (λ_=>CU rfl) λs2 r7=>fin _ s2 r7 rfl rfl (jR _) rfl rfl
def dL.OK{X:Cx P}{f:aJ}{fn:Func}{args:List D}{σ':ι->List bd}(i:P.funcs[f]?=aa fn)(g:(fn.name== "runtime.NumGoroutine")=ae)(hb:fn.body=aa c)(d:args.length<=fn.ntmps)(h:∀s a,ck fn.ntmps σ s (jb 0 args) a->aD σ s->∀(b:aU) (k:List Item) (cs:List aU) (S:aq->St->Prop),b.kind≠.early->b.roundOf=af ->
  (∀e φ' σ1 s' a',(∃j,cd fn σ.length (res j) (σ' j) e φ' σ1)->ck fn.ntmps σ1 s' φ' a'->aD σ1 s'->cN σ s σ1 s'->ends X S b k cs e a' s')->fu X S (G (b.aT a (.code c::k)) cs) s):dL X f args σ res σ' :=
 dL.IS i g hb d λs a f hh b k cs S h1 h2 hQ=>h s a f hh b k cs S h1 h2 λe φ' σ1 s' a' ⟨j,q⟩=>hQ e φ' σ1 s' a' ⟨j,q.toJ⟩
def dL.HZ{X:Cx P}{f:aJ}{fn:Func}{args:List D}{σ':ι->List bd}(i:P.funcs[f]?=aa fn)(g:(fn.name== "runtime.NumGoroutine")=ae)(hb:fn.body=aa c)(d:args.length<=fn.ntmps)(h:AW X fn.ntmps c (λe φ σ1=>∃j,A2 P fn σ.length (res j) (σ' j) e φ σ1) (jb 0 args) σ):dL X f args σ res σ' :=
 dL.IS i g hb d λs a f hh b k cs S l _ m=>h s a f hh b k cs S l m
def dL.intro{X:Cx P}{f:aJ}{fn:Func}{args:List D}{σ':ι->List bd}(i:P.funcs[f]?=aa fn)(g:(fn.name== "runtime.NumGoroutine")=ae)(hb:fn.body=aa c)(d:args.length<=fn.ntmps)(h:AW X fn.ntmps c (λe φ σ1=>∃j,cd fn σ.length (res j) (σ' j) e φ σ1) (jb 0 args) σ):dL X f args σ res σ' :=
 dL.OK i g hb d λs a f hh b k cs S l _ m=>h s a f hh b k cs S l m
def Ev.intro{P:aM}{X:Cx P}{f:aJ}{fn:Func}{c:Code}{args:List D}{σ σ':List bd}{res:D}(d:P.funcs[f]?=aa fn)(b:(fn.name== "runtime.NumGoroutine")=ae)(hb:fn.body=aa c)(a:args.length<=fn.ntmps)(h:AW X fn.ntmps c (cd fn σ.length res σ') (jb 0 args) σ):Ev X f args σ res σ' :=
 (dL.intro d b hb a (AW.mono h λ_ _ _ q=>⟨(),q⟩)).F3
inductive It where
 |code (c:Code)
 |blk (id:Nat)
 |ops (all rest:List aB)
def AK{P:aM}(X:Cx P)(N:Nat)(Qf:Post):List It->Post
 |[],e,φ,σ=>Qf e φ σ
 |.code c::K,.normal,φ,σ=>AW X N c (AK X N Qf K) φ σ
 |.code _::K,e,φ,σ=>AK X N Qf K e φ σ
 |.blk id::K,.exit HG,φ,σ=>if HG=id then AK X N Qf K .normal φ σ else AK X N Qf K (.exit HG) φ σ
 |.blk _::K,e,φ,σ=>AK X N Qf K e φ σ
 |.ops all rest::K,.normal,φ,σ=>jd X N all rest (AK X N Qf K .normal) φ σ
 |.ops _ _::K,e,φ,σ=>AK X N Qf K e φ σ
section
variable {X:Cx P}{Qf:Post}{K:List It}
def AK.of_code(h:AK X N Qf [.code c] .normal φ σ):AW X N c Qf φ σ:=h
theorem AK.skip(h:AK X N Qf K .normal φ σ):AK X N Qf (.code .skip::K) .normal φ σ:=AW.skip h
theorem AK.seq{x y:Code}(h:AK X N Qf (.code x::.code y::K) .normal φ σ):AK X N Qf (.code (.seq x y)::K) .normal φ σ:=by refine AW.seq (AW.mono h ?_);intro e φ' σ' q;cases e<;>exact q
theorem AK.block{id:Nat}{c:Code}(h:AK X N Qf (.code c::.blk id::K) .normal φ σ):AK X N Qf (.code (.block id c)::K) .normal φ σ:=by refine AW.block (AW.mono h ?_);intro e φ' σ' q;cases e<;>exact q
theorem AK.Qn{id:Nat}(h:AK X N Qf K .normal φ σ):AK X N Qf (.blk id::K) .normal φ σ:=h
theorem AK.region{id:Nat}{ops:Array aB}(h:AK X N Qf (.ops ops.toList ops.toList::K) .normal φ σ):AK X N Qf (.code (.region id ops ae)::K) .normal φ σ:=AW.region h
theorem AK.Qo(h:AK X N Qf K .normal φ σ):AK X N Qf (.ops all []::K) .normal φ σ:=jd.nil h
def AK.rI:∀{K:List It},Qf .ret φ σ->AK X N Qf K .ret φ σ
 |[],h=>h
 |.code _::K,h=>AK.rI (K:=K) h
 |.blk _::K,h=>AK.rI (K:=K) h
 |.ops _ _::K,h=>AK.rI (K:=K) h
def AK.ret(h:Qf .ret φ σ):AK X N Qf (.code .ret::K) .normal φ σ:=AW.ret (AK.rI h)
def ko(id:Nat):List It->Option (List It)
 |[]=>af
 |.blk i::K=>match av id i with|true=>aa K|false=>ko id K
 |_::K=>ko id K
def AK.vr{id:Nat}:∀{K a:List It},ko id K=aa a->AK X N Qf a .normal φ σ->AK X N Qf K (.exit id) φ σ
 |[],_,h,_=>by cases h
 |.blk i::K,a,h,q=>by
  simp only[ko]at h;cases hb:av id i with
  |true =>
   simp[hb]at h;subst h;have e:=bX hb;simp only[AK,e,b5];exact q
  |false =>
   simp[hb]at h;have b:id≠i:=λe=>by grind[Nat.beq_refl]
   simp only[AK,b,bM];exact AK.vr h q
 |.code _::K,a,h,q=>AK.vr (K:=K) h q
 |.ops _ _::K,a,h,q=>AK.vr (K:=K) h q
theorem AK.exit{id:Nat}{a:List It}(b:ko id K=aa a)(h:AK X N Qf a .normal φ σ):AK X N Qf (.code (.exit id)::K) .normal φ σ:=AW.exit (AK.vr b h)
theorem AK.cond{c:aC}{x y:Code}{b:Bool}{t:Nat}(f:c=.tmp t)(hl:look φ t=.e (.one (.c (.bool b))))(d:b=ab->AK X N Qf (.code x::K) .normal φ σ)(a:b=ae->AK X N Qf (.code y::K) .normal φ σ):AK X N Qf (.code (.cond c x y)::K) .normal φ σ:=AW.cond f hl d a
def AK.loop{S:Type}{c:Code}(I:S->Prop)(fr:S->Fr)(st:S->List bd)(d:S->Nat)(x:S)(g:I x)(a:rJ φ (fr x))(b:st x=σ)(round:∀x,I x->AK X N (λe φ' σ'=>match e with
   |.normal=>∃y,I y/\d y<d x/\rJ φ' (fr y)/\σ'=st y
   |e=>AK X N Qf K e φ' σ') [.code c] .normal (fr x) (st x)):AK X N Qf (.code (.loop c)::K) .normal φ σ:=by refine AW.loop I fr st d x g a b λy f=>AW.mono (round y f) ?_;intro e φ' σ' q;cases e<;>exact q
end
def dn{α a:Type}:List α->(List α->Option a)->Option a
 |[],k=>k []
 |x::r,k=>dn r λq=>k (x::q)
theorem cU{a:Type}(l:List α)(k:List α->Option a):dn l k=k l:=by
 induction l generalizing k with
 |nil=>rfl
 |cons x r b=>simp[dn,b]
def zt(φ:Fr)(all:List aB)(j:Nat):Option (Option Bool) :=
 match eB j all with
 |some oj=>match oj.dst with
  |some d=>match look φ d with
   |.e (.one (.c (.bool ab)))=>aa (aa ab)
   |.e (.one (.c (.bool ae)))=>aa (aa ae)
   |.fw []=>aa af
   |_=>af
  |none=>af
 |none=>af
def pJ{r:Option Bool}(h:zt φ all j=aa r){a:Act}(f:ck N σ s φ a):yielded all.toArray a.tmps j=r:=by
 unfold zt at h;rw[eW]at h;unfold yielded;cases ho:all[j]? with
 |none=>grind
 |some oj =>
  simp only[ho]at h;simp only[g8,ho,mr];cases l:oj.dst with
  |none=>grind
  |some d =>
   simp only[l]at h;simp only[mr];have c:=f.slot d;have key:∀v,a.tmps.getD d ah=v->v≠ah->a.tmps[d]?=aa v:=by intro v g m;simp only[dH]at g;grind
   split at h
   .rename_i e;cases h;rw[e]at c;have b:=fH c;generalize g:a.tmps.getD d ah=v at b;cases b;rw[key _ g (by simp[ah])]
   .rename_i e;cases h;rw[e]at c;have b:=fH c;generalize g:a.tmps.getD d ah=v at b;cases b;rw[key _ g (by simp[ah])]
   .rename_i e;cases h;rw[e]at c;obtain⟨vs,k,n⟩:=c;have i:vs=[]:=by cases vs with
     |nil=>rfl
     |cons _ _=>exact n.elim
    subst i;simp only[dH]at k;grind
   grind
def Vg(T:List (Nat×TI))(φ:Fr)(σ:List bd)(o:aB):Option (D×List bd×List Prop) :=
 match o.op with
 |.move x|.assign x=>aa (bJ φ x,σ,[])
 |.pick c a b=>match bJ φ c with
  |.e (.one (.c (.bool ab)))=>aa (bJ φ a,σ,[])
  |.e (.one (.c (.bool ae)))=>aa (bJ φ b,σ,[])
  |_=>af
 |.binOp op _ x y _=>match bJ φ x,bJ φ y with
  |.e (.one (.c a)),.e (.one (.c b))=>match Mn op a b with
   |some (c,obs)=>aa (.e (.one (.c c)),σ,obs)
   |none=>af
  |_,_=>af
 |.unOp op _ x=>match bJ φ x with
  |.e (.one (.c a))=>match Vf op a with
   |some c=>aa (.e (.one (.c c)),σ,[])
   |none=>af
  |_=>af
 |.extract x j=>match bJ φ x with
  |.fw xs=>match eB j xs with
   |some e=>aa (.e e,σ,[])
   |none=>af
  |_=>af
 |.alloc E=>match bE T E with
  |some i=>dn (σ++[.cells E (i.zero.map A.c)]) λσ'=>aa (.e (.one (.ptr σ.length 0)),σ',[])
  |none=>af
 |.box E x=>match kI (bJ φ x)with
  |some cs=>dn (σ++[.cells E cs]) λσ'=>aa (.e (.one (.ptr σ.length 0)),σ',[])
  |none=>af
 |.load t x=>match bE T t with
  |some i=>match bJ φ x with
   |.e (.one (.ptr l off))=>match eB l σ with
    |some (.cells _ cs)=>match mD i (gT off cs)with
     |some e=>aa (.e e,σ,[])
     |none=>af
    |_=>af
   |.e (.one (.c (.rp cs)))=>match mD i (cs.map A.c)with
    |some e=>aa (.e e,σ,[])
    |none=>af
   |_=>af
  |none=>af
 |.store t x y=>match bE T t with
  |some i=>match bJ φ x with
   |.e (.one (.ptr l off))=>match eB l σ with
    |some (.cells E cs)=>match kI (bJ φ y)with
     |some new=>match av new.length i.size with
      |true=>match fe off new cs with
       |some lS=>dn (eb.si l (.cells E lS) σ) λσ'=>aa (.any,σ',[])
       |none=>af
      |false=>af
     |none=>af
    |_=>af
   |_=>af
  |none=>af
 |.fieldAddr t x f=>match jw T t f with
  |some (k,_)=>match bJ φ x with
   |.e (.one (.ptr l off))=>aa (.e (.one (.ptr l (off+k))),σ,[])
   |.e (.one (.c (.rp cs)))=>aa (.e (.one (.c (.rp (gT k cs)))),σ,[])
   |_=>af
  |none=>af
 |.field t x f=>match jw T t f with
  |some (k,j)=>match bJ φ x with
   |.e (.agg cs)=>match mD j (gT k cs)with
    |some e=>aa (.e e,σ,[])
    |none=>af
   |_=>af
  |none=>af
 |.nilCheck x=>match bJ φ x with
  |.e (.one (.ptr l off))=>aa (.e (.one (.ptr l off)),σ,[])
  |.e (.one (.c (.rp cs)))=>aa (.e (.one (.c (.rp cs))),σ,[])
  |_=>af
 |.build t parts=>match zq T (bJ φ) t parts.toList with
  |some cs=>aa (.e (.agg cs),σ,[])
  |none=>af
 |.buildSlice t n parts=>match Mo T (bJ φ) t n parts.toList with
  |some (k,es)=>aa (.e (.one (.c (.sl ab k n λi=>es.getD i []))),σ,[])
  |none=>af
 |_=>af
theorem C8{T:List (Nat×TI)}(m:c8 P T){x:D}(h:Vg T φ σ o=aa (x,σ',obs))(ho:au obs):bD P o (bJ φ) σ x σ':=by
 unfold Vg at h;split at h
 .grind [bD.move]
 .grind [bD.assign]
 .rename_i c a b d;split at h
  .rename_i e;cases h;exact bD.pick d e
  .rename_i e;cases h;exact bD.pick d e
  grind
 .grind [bD.binOp]
 .grind [bD.unOp]
 .grind [bD.extract,cX]
 .grind [cU,bD.alloc]
 .grind [cU,bD.box]
 .rename_i t y d;split at h
  .grind [bD.ES,cX,bD.Ir]
  grind
 .rename_i t y z d;split at h
  .rename_i i hi;split at h
   .rename_i l off hx;split at h
    .grind [cU,kV,bD.store,cX,Nat.eq_of_beq_eq_true]
    grind
   grind
  grind
 .rename_i t y f d;split at h
  .rename_i k j g;split at h
   .rename_i l off hx;cases h;exact bD.rD m d hx g
   .grind [bD.tj]
   grind
  grind
 .grind [bD.field]
 .grind [bD.tk,bD.vj]
 .grind [bD.build]
 .grind [bD.buildSlice]
 grind
def fD(N:Nat):Option Nat->Bool
 |some d=>bu (d+1) N
 |none=>ab
def gB{d:Option Nat}(h:fD N d=ab):∀t,d=aa t->t<N:=by intro t a;subst a;exact dJ h
theorem du(h:o.guard=af){a:Act}:aY o (yielded all.toArray a.tmps)=ab:=by simp[aY,h]
section
variable {T:List (Nat×TI)}
def tT(η:aC->D):Option aC->Option (Option Int)
 |none=>aa af
 |some x=>match η x with
  |.e (.one (.c (.int _ j)))=>aa (aa j)
  |_=>af
def iQ{a:aC->ai}(d:∀y,dk σ s (a y) (η y)){x:Option aC}{b:Option Int}(h:tT η x=aa b):(x.map a=af/\b=af)∨∃k j,x.map a=aa (.int k j)/\b=aa j:=by
 cases x with
 |none=>cases h;grind
 |some y =>
  right;simp only[tT]at h;split at h
  .rename_i k j c;cases h;have:=d y;rw[c]at this;have:=fH this;generalize e:a y=v at this;cases this;grind
  grind
def cq(d:Nat):Option Int->Nat
 |none=>d
 |some j=>j.toNat
def fE(n:Nat):Option Int->Option Int->List Prop
 |none,af=>[]
 |some l,af=>[0<=l,l<=n]
 |none,aa h=>[0<=h,h<=n]
 |some l,aa h=>[0<=l,l<=h,h<=n]
def nz{isS:Bool}{cap:Nat}(m:n<=cap){lo hi:Option ai}{l h:Option Int}(f:(lo=af/\l=af)∨∃k j,lo=aa (.int k j)/\l=aa j)(g:(hi=af/\h=af)∨∃k j,hi=aa (.int k j)/\h=aa j)(ho:au (fE n l h))(w:aA):(bg isS n cap lo hi af).run P w=.ok (cq 0 l,cq n h,cap) w/\cq 0 l<=cq n h/\cq n h<=n:=by
 rcases f with⟨rfl,rfl⟩|⟨d,l,rfl,rfl⟩<;>rcases g with⟨rfl,rfl⟩|⟨c,h,rfl,rfl⟩
 .exact⟨by simp[bg,cq],by simp[cq],by simp[cq]⟩
 .obtain⟨a,b⟩:0<=h/\h<=(n:Int):=ho;refine⟨?_,by simp[cq],by simp only[cq];omega⟩;simp[bg,cq,run_sliceBound (P:=P) w c h cap _ a (by omega)]
 .obtain⟨a,b⟩:0<=l/\l<=(n:Int):=ho;refine⟨?_,by simp only[cq];omega,by simp[cq]⟩;simp[bg,cq,run_sliceBound (P:=P) w d l n _ a b]
 .obtain⟨a,b,i⟩:0<=l/\l<=h/\h<=(n:Int):=ho;have e:((h.toNat:Nat):Int)=h:=yY (by omega);refine⟨?_,by simp only[cq];omega,by simp only[cq];omega⟩;simp[bg,cq,run_sliceBound (P:=P) w c h cap _ (by omega) (by omega),run_sliceBound (P:=P) w d l h.toNat _ a (by omega)]
def dW(w:aA)(k:IntKind)(i:Int)(y:Nat)(code:BoundsCode)(b:0<=i)(a:i<=(y:Int))(es:Array Event):(Instr.sliceBound (.int k i) y code).events P w es=es:=by simp[Instr.sliceBound,asIntOf,b,a]
def pD{isS:Bool}{cap:Nat}{lo hi:Option ai}{l h:Option Int}(p:n<=cap)(g:(lo=af/\l=af)∨∃k j,lo=aa (.int k j)/\l=aa j)(i:(hi=af/\h=af)∨∃k j,hi=aa (.int k j)/\h=aa j)(ho:au (fE n l h))(w:aA)(es:Array Event):(bg isS n cap lo hi af).events P w es=es:=by
 have o:∀(isS:Bool) (v:Option ai) (d:Nat) (w:aA) (es:Array Event),v=af->(bg isS n cap af af af).events P w es=es:=λisS v d w es _=>by simp[bg]
 rcases g with⟨rfl,rfl⟩|⟨f,l,rfl,rfl⟩<;>rcases i with⟨rfl,rfl⟩|⟨b,h,rfl,rfl⟩
 .simp[bg]
 .obtain⟨a,c⟩:0<=h/\h<=(n:Int):=ho;simp[bg,dW (P:=P) w b h cap _ a (by omega)]
 .obtain⟨a,c⟩:0<=l/\l<=(n:Int):=ho;simp[bg,dW (P:=P) w f l n _ a c]
 .obtain⟨a,c,m⟩:0<=l/\l<=h/\h<=(n:Int):=ho;have e:((h.toNat:Nat):Int)=h:=yY (by omega);simp[bg,run_sliceBound (P:=P) w b h cap _ (by omega) (by omega),dW (P:=P) w b h cap _ (by omega) (by omega),dW (P:=P) w f l h.toNat _ a (by omega)]
def rB(s:List UInt8):Option Int->Option Int->List UInt8
 |none,af=>s
 |some l,af=>s.drop l.toNat
 |none,aa h=>s.take h.toNat
 |some l,aa h=>(s.take h.toNat).drop l.toNat
theorem bD.Io(r:c8 P T){lo hi:Option aC}(h:o.op=.slice t x lo hi af){i:TI}(j:bE T t=aa i)(y:i.desc=.string){s:List UInt8}{l u:Option Int}(v:η x=.e (.one (.c (.str s))))(hl:tT η lo=aa l)(m:tT η hi=aa u)(ho:au (fE s.length l u)):bD P o η σ (.e (.one (.c (.str (rB s l u))))) σ:=by
 refine .quiet λst ρ hh hr=>?_;have h1:=hr x;rw[v]at h1;replace h1:=fH h1;generalize g:ρ x=vx at h1;cases h1 with
 |@str sb _ p q =>
 have f:sb.size=s.length:=by rw[<-p];exact iS.symm
 obtain⟨hb,d,b⟩:=nz (P:=P) (isS:=ae) (n:=sb.size) (cap:=sb.size) (aZ _) (iQ hr hl) (iQ hr m) (by grind) st.w;have a:=(r t i j).run_underlying (w:=st.w);rw[y]at a;have k:=pD (P:=P) (isS:=ae) (n:=sb.size) (cap:=sb.size) (aZ _) (iQ hr hl) (iQ hr m) (by grind) st.w;refine⟨.string (sb.extract (cq 0 l) (cq sb.size u)),?_,Rd.str ?_ ?_,by simp[ak,h,g,Instr.sliceAt,a,Instr.slice,k]⟩
 .simp[ak,h,g,Instr.sliceAt,a,Instr.slice,hb]
 .rw[Lib.extract_data,p,f];rw[f]at d b;cases l<;>cases u<;>simp only[rB,cq]at d b⊢
  .simp
  .simp
  .grind [List.take_of_length_le]
  .rw[List.drop_take]
 .cases l<;>cases u<;>simp only[rB,qW,List.length_take]<;>omega
def kX(l:Nat)(f:Nat->List C):Nat->List C:=λi=>f (l+i)
def PL(tt:Bool):Option Int->Bool
 |none=>tt
 |some _=>ae
theorem bD.My(r:c8 P T){lo hi:Option aC}(h:o.op=.slice t x lo hi af){i ie:TI}(p:bE T t=aa i)(F:i.desc=.slice E)(I:bE T E=aa ie){tt:Bool}{l u:Option Int}(B:∀s v,dk σ s v (η x)->Rd s.M v (.sl tt ie.size n es))(hl:tT η lo=aa l)(q:tT η hi=aa u)(ho:au (fE n l u)):
  bD P o η σ (.e (.one (.c (.sl (PL tt u) ie.size (cq n u-cq 0 l) (kX (cq 0 l) es))))) σ:=by
 refine .quiet λst ρ hh hr=>?_;have h1:=B st _ (hr x);obtain⟨a,cap,vs,m,g,A,z,J,hm⟩:=h1.flat;rw[m]at h1;obtain⟨hb,H,G⟩:=nz (P:=P) (isS:=ab) g (iQ hr hl) (iQ hr q) ho st.w;have d:=(r t i p).run_underlying (w:=st.w);rw[F]at d;refine⟨.slice (if cap=cq 0 l then a else a.map (·.add (cq 0 l*ie.size))) (cq n u-cq 0 l) (cap-cq 0 l),?_,?_,by simp[ak,h,m,Instr.sliceAt,d,Instr.slice,hb,pD (P:=P) (isS:=ab) g (iQ hr hl) (iQ hr q) ho st.w]⟩
 .simp[ak,h,m,Instr.sliceAt,d,Instr.slice,hb,(r E ie I).run_sizeOf]
 .cases h1 with
  |sl b off f _ _ _ C D hm' LI =>
   refine Rd.sl b (off+cq 0 l*ie.size) (λi j=>f (cq 0 l+i) j) (by omega) (by omega) ?_ (λi hi=>C _ (by omega)) (λy=>?_) (λi hi j c hj=>?_) (λi hi j c hj=>LI _ (by omega) j c hj)
   .intro k;cases u with
    |none=>simp only[PL]at k;have:=z k;simp only[cq];omega
    |some u=>cases k
   .rw[a9 (by omega),D (by omega)];simp[dm]
   .have:=hm' (cq 0 l+i) (by omega) j c hj;grind
def bD.Mw(l:c8 P T){a dst:aw}(h:o.op=.convert a dst x){i i2:TI}{k k':IntKind}{j:Int}(hi:bE T a=aa i)(g:bE T dst=aa i2)(n:i2.desc=.int k')(m:η x=.e (.one (.c (.int k j))))(ho:bw k' j):
  bD P o η σ (.e (.one (.c (.int k' j)))) σ:=by refine .quiet λst ρ hh hr=>?_;have h1:=hr x;rw[m]at h1;replace h1:=fH h1;generalize f:ρ x=vx at h1;cases h1;have d:=(l a i hi).run_underlying (w:=st.w);have b:=(l dst i2 g).run_underlying (w:=st.w);rw[n]at b;exact⟨.int k' j,by simp[ak,h,f,convert,d,b,Conv.intToInt,l0 ho],Rd.int ho,by simp[ak,h,f,convert,d,b,Conv.intToInt]⟩
theorem bD.Mx(k:c8 P T){a dst:aw}(h:o.op=.convert a dst x){i i2:TI}{s:List UInt8}(hi:bE T a=aa i)(j:bE T dst=aa i2)(m:i2.desc=.string)(l:η x=.e (.one (.c (.str s)))):
  bD P o η σ (.e (.one (.c (.str s)))) σ:=by refine .quiet λst ρ hh hr=>?_;have h1:=hr x;rw[l]at h1;have d:=fH h1;generalize g:ρ x=vx at d;cases d;have f:=(k a i hi).run_underlying (w:=st.w);have b:=(k dst i2 j).run_underlying (w:=st.w);rw[m]at b;exact⟨_,by simp[ak,h,g,convert,f,b];rfl,by grind,by simp[ak,h,g,convert,f,b]⟩
def ve(f:Nat->List C):Nat->Nat->Option (List UInt8)
 |_,0=>aa []
 |i,n+1=>match f i with
  |[.int .u8 v]=>match ve f (i+1) n with
   |some r=>aa (UInt8.ofNat v.toNat::r)
   |none=>af
  |_=>af
def x6{M:Mem}{f:Nat->List C}:∀{n i:Nat}{r:List UInt8}{vs:List ai},ve f i n=aa r->vs.length=n->(∀j,j<n->∀c,(f (i+j))[0]?=aa c->∃v,vs[j]?=aa v/\Rd M v c) ->
  ∃xs:List Int,vs=xs.map (Value.int .u8)/\r=xs.map (λx=>UInt8.ofNat x.toNat)
 |0,i,r,vs,h,a,_=>by cases h;exact⟨[],by grind,rfl⟩
 |n+1,i,r,[],h,a,_=>by grind
 |n+1,i,r,v::vs,h,a,d=>by
  simp only[ve]at h;split at h
  .rename_i x l;split at h
   .rename_i q e;cases h;obtain⟨u,b,g⟩:=d 0 (by omega) (.int .u8 x) (by grind)
    simp at b;subst b;cases g;obtain⟨xs,k,o⟩:=x6 (vs:=vs) e (by grind) (λj p c m=>by
     have:=d (j+1) (by omega) c (by grind)
     simpa using this)
    exact⟨x::xs,by grind,by grind⟩
   grind
  grind
def n9{P:aM}(w:aA){F:ai->ByteArray->Sem (ForInStep ByteArray)}(a:∀x s,F (.int .u8 x) s=pure (.yield (s.push (UInt8.ofNat x.toNat)))):∀(xs:List Int)(s:ByteArray),
  (forIn (m:=Sem) (xs.map (Value.int .u8)) s F).run P w=.ok ⟨s.data++(xs.map λx=>UInt8.ofNat x.toNat).toArray⟩ w
 |[],s=>by simp
 |x::xs,s=>by simp only[jl,List.forIn_cons,a,bO,cT,b9];rw[n9 w a xs];congr 2;apply Array.ext';simp[ByteArray.push]
end
def OA(X:Cx P)(N:Nat)(all:List aB)(o:aB)(φ:Fr)(σ:List bd)(x:D)(σ':List bd):Prop :=
 ∀s a,ck N σ s φ a->aD σ s->∀(b:aU) (k:List Item) (cs:List aU) (S:aq->St->Prop) (i:Nat) (rest:List Nat),b.kind≠.early->all.toArray[i]?=aa o ->
  (∀v s',dk σ' s' v x->aD σ' s'->cN σ s σ' s'->fu X S (G (b.aT (a.put o.dst v) (.inRegion all.toArray rest::k)) cs) s')->fu X S (G (b.aT a (.inRegion all.toArray (i::rest)::k)) cs) s
section
variable {X:Cx P}{φ':Fr}{x:D}
theorem OA.mK(q:∀σ s a,ck N σ s φ a->aY o (yielded all.toArray a.tmps)=ab)(h:bD P o (bJ φ) σ x σ'):OA X N all o φ σ x σ':=by
 intro s a f hh b k cs S i rest hb hi hK;refine zx hb hi (q _ _ _ f) λg d=>?_;have c:=hh.rely d;obtain⟨n,s',h1,h2,e,j,p⟩:=h g a.eval c (cY (f.rely d hh));have m:=d.stepW.trans (j.n3 c);have l:qn g s' ((ak a.eval o).events P g.w #[]):=⟨⟨σ,σ',c,e,j⟩,p⟩;cases n with
 |value v=>exact⟨_,s',v,h1,.inl rfl,l,hK v s' h2 e m⟩
 |skip=>simp only[Qd]at h2;subst h2;exact⟨_,s',ah,h1,.inr ⟨rfl,rfl⟩,l,hK ah s' ar e m⟩
 |_=>exact h2.elim
def OA.pass(e:∀σ s a,ck N σ s φ a->aY o (yielded all.toArray a.tmps)=ae):OA X N all o φ σ (.fw []) σ:=by intro s a f hh b k cs S i rest hb hi hK;exact .ctl hh rfl (λ_=>LX hi (e _ _ _ f)) λd c=>hK ah d ⟨[],rfl,ar⟩ (hh.rely c) c.stepW
def jd.xo{Q:Fr->List bd->Prop}(h:OA X N all o φ σ x σ')(d:∀t,o.dst=aa t->t<N)(k:jd X N all rest Q (kg o.dst x φ) σ'):jd X N all (o::rest) Q φ σ:=by
 intro s a f hh b kk cs S idx hb iC hQ;cases idx with
 |nil=>exact iC.elim
 |cons i idx =>
 refine h s a f hh b kk cs S i idx hb iC.1 λv s' hv jf st=>k s' _ ?_ jf b kk cs S idx hb iC.2 λc σ2 s2 a2 q g h2 oe=>hQ c σ2 s2 a2 q g h2 (st.trans oe);cases e:o.dst with
 |none=>exact f.mono st hh.len
 |some t=>exact(f.mono st hh.len).put (d t e) hv
end
abbrev dy:=List D->List bd->Option (D×List bd×List Prop)
def xX:List (Nat×dy)->Nat->Option dy
 |[],_=>af
 |(i,g)::r,f=>cond (av i f) (aa g) (xX r f)
def dM(X:Cx P)(f:aJ)(g:dy):Prop:=∀args σ res σ' obs,g args σ=aa (res,σ',obs)->au obs->Ev X f args σ res σ'
def bA(X:Cx P)(CT:List (Nat×dy)):Prop:=∀f g,xX CT f=aa g->dM X f g
def bA.nil{X:Cx P}:bA X []:=λ_ _ h=>by cases h
def bA.cons{X:Cx P}{f:aJ}{g:dy}{CT:List (Nat×dy)}(h:dM X f g)(r:bA X CT):bA X ((f,g)::CT):=by
 intro a g2 h2;simp only[xX]at h2;cases hb:av f a with
 |true=>grind[Nat.eq_of_beq_eq_true]
 |false=>rw[hb]at h2;exact r a g2 h2
def Yy:A->List Nat->List Nat
 |.ptr l _,ks=>cond (gZ l ks) ks (ks++[l])
 |.vec l _ _ _,ks=>cond (gZ l ks) ks (ks++[l])
 |.ref l,ks=>cond (gZ l ks) ks (ks++[l])
 |.bp l _,ks=>cond (gZ l ks) ks (ks++[l])
 |_,ks=>ks
def Yz:List A->List Nat->List Nat
 |[],ks=>ks
 |a::r,ks=>Yz r (Yy a ks)
def bxD:D->List Nat->List Nat
 |.e (.one a),ks=>Yy a ks
 |.e (.agg cs),ks=>Yz cs ks
 |_,ks=>ks
def Tg:List D->List Nat->List Nat
 |[],ks=>ks
 |a::r,ks=>Tg r (bxD a ks)
def A8(l:Nat):List Nat->Nat->Option Nat
 |[],_=>af
 |k::r,i=>match av k l with|true=>aa i|false=>A8 l r (i+1)
def rK{l:Nat}:∀{ks:List Nat}{i j:Nat},A8 l ks i=aa j->i<=j/\ks[j-i]?=aa l
 |[],_,_,h=>by cases h
 |k::r,i,j,h=>by
  simp only[A8]at h;cases a:av k l with
  |true=>rw[a]at h;cases h;exact⟨aZ _,by grind[Nat.eq_of_beq_eq_true]⟩
  |false =>
   rw[a]at h;obtain⟨c,b⟩:=rK h;grind
def R7(ks:List Nat):A->Option A
 |.ptr l o=>match A8 l ks 0 with|some i=>aa (.ptr i o)|none=>af
 |.ref l=>match A8 l ks 0 with|some i=>aa (.ref i)|none=>af
 |.bp l w=>match A8 l ks 0 with|some i=>aa (.bp i w)|none=>af
 |.vec _ _ _ _=>af
 |.c x=>aa (.c x)
 |.any=>aa .any
def Vo(ks:List Nat):List A->Option (List A)
 |[]=>aa []
 |a::r=>match R7 ks a with
  |some b=>match Vo ks r with
   |some q=>aa (b::q)
   |none=>af
  |none=>af
def WV(ks:List Nat):D->Option D
 |.e (.one a)=>match R7 ks a with|some b=>aa (.e (.one b))|none=>af
 |.e (.agg cs)=>match Vo ks cs with|some b=>aa (.e (.agg b))|none=>af
 |.fw _=>af
 |.any=>aa .any
def Gk(ks:List Nat):List D->Option (List D)
 |[]=>aa []
 |a::r=>match WV ks a with
  |some b=>match Gk ks r with
   |some q=>aa (b::q)
   |none=>af
  |none=>af
def IY{ks:List Nat}{a b:A}(h:R7 ks a=aa b):oi ks b=a/\F2 ks.length b=ab:=by
 cases a with
 |ptr l o =>
  simp only[R7]at h;split at h
  .rename_i i hi;cases h;obtain⟨_,d⟩:=rK hi;simp only[j3]at d;have e:i<ks.length:=(b8.1 d).1;exact⟨by simp[oi,eW,d],qO e⟩
  grind
 |ref l =>
  simp only[R7]at h;split at h
  .rename_i i hi;cases h;obtain⟨_,d⟩:=rK hi;simp only[j3]at d;have e:i<ks.length:=(b8.1 d).1;exact⟨by simp[oi,eW,d],qO e⟩
  grind
 |bp l w =>
  simp only[R7]at h;split at h
  .rename_i i hi;cases h;obtain⟨_,d⟩:=rK hi;simp only[j3]at d;have e:i<ks.length:=(b8.1 d).1;exact⟨by simp[oi,eW,d],qO e⟩
  grind
 |vec l k n es=>cases h
 |c x=>cases h;exact⟨rfl,rfl⟩
 |any=>cases h;exact⟨rfl,rfl⟩
def IZ{ks:List Nat}:∀{a b:List A},Vo ks a=aa b->AV ks b=a/\EG ks.length b=ab
 |[],b,h=>by cases h;exact⟨rfl,rfl⟩
 |a::r,b,h=>by
  simp only[Vo]at h;split at h
  .rename_i x f;split at h
   .rename_i q e;cases h;obtain⟨d,i⟩:=IY f;obtain⟨c,g⟩:=IZ e;exact⟨by simp[AV,d,c],by simp[EG,i,g]⟩
   grind
  grind
def Qe{ks:List Nat}{a b:D}(h:WV ks a=aa b):iE ks b=a/\uV ks.length b=ab:=by
 unfold WV at h;split at h
 .rename_i a;split at h
  .rename_i x c;cases h;obtain⟨e,d⟩:=IY c;exact⟨by simp[iE,za,e],by simp[uV,HW,d]⟩
  grind
 .rename_i cs;split at h
  .rename_i x c;cases h;obtain⟨e,d⟩:=IZ c;exact⟨by simp[iE,za,e],by simp[uV,HW,d]⟩
  grind
 .cases h
 .cases h;exact⟨rfl,rfl⟩
def E7{ks:List Nat}:∀{a b:List D},Gk ks a=aa b->gD ks b=a/\lT ks.length b=ab
 |[],b,h=>by cases h;exact⟨rfl,rfl⟩
 |a::r,b,h=>by
  simp only[Gk]at h;split at h
  .rename_i x f;split at h
   .rename_i q e;cases h;obtain⟨d,i⟩:=Qe f;obtain⟨c,g⟩:=E7 e;exact⟨by simp[gD,d,c],by simp[lT,i,g]⟩
   grind
  grind
def Il(CT:List (Nat×dy))(φ:Fr)(σ:List bd)(fo:aC)(xs:List aC):Option (D×List bd×List Prop) :=
 match ei (bJ φ fo)with
 |none=>af
 |some (f,cap)=>match xX CT f with
  |none=>af
  |some g =>
   let args:=n5 (xs.map (bJ φ)++fC cap);let ks:=Tg args []
   match Gk ks args with
   |none=>af
   |some cm=>match jV ks σ with
    |none=>af
    |some σs=>match g cm σs with
     |none=>af
     |some (res,σ1,obs)=>match cE σs,cE σ1,dX ks,bu ks.length σ1.length with
      |true,ab,ab,ab=>aa (iE (ks++lz σ.length (σ1.length-ks.length)) res,eb ks σ1 σ,obs)
      |_,_,_,_=>af
theorem OA.OM{X:Cx P}{CT:List (Nat×dy)}(hC:bA X CT)(I:∀σ s a,ck N σ s φ a->aY o (yielded all.toArray a.tmps)=ab)(ho:o.op=.call {callee:=.value fo,args:=xs,argTypes:=jJ}){f:aJ}(v:ei (bJ φ fo)=aa (f,cap)){g:dy}(F:xX CT f=aa g){ks:List Nat}{σ1:List bd}{res:D}(C:Gk ks (n5 (xs.toList.map (bJ φ)++fC cap))=aa cm)(E:jV ks σ=aa σs)(t:g cm σs=aa (res,σ1,obs))(J:cE σs=ab)(y:cE σ1=ab)(H:dX ks=ab)(A:ks.length<=σ1.length)(p:au obs):OA X N all o φ σ (iE (ks++lz σ.length (σ1.length-ks.length)) res) (eb ks σ1 σ):=by
 obtain⟨l,B⟩:=E7 C;intro s a k hh b kk cs S i rest hb hi hK;have r:=hC f g F _ _ _ _ _ t p;have q:=cY k fo;unfold ei at v;split at v
 case h_2=>cases v
 case h_1 f' HK he =>
  cases v;rw[he]at q;have e:=fH q;generalize G:a.eval fo=fv at e;cases e with
  |fn fs lS hl CG f1 f2 h1 h2 r1 r2 =>
   have z:fs=[]:=jg hl;subst z;have m:cg σ s lS (fC cap):=lq (λj c hj=>⟨f2 j,h2 j (by grind),r2 j c hj⟩) CG;have n:cg σ s (xs.toList.map a.eval++lS) (gD ks cm):=by rw[l];exact rq ((nv (cY k) xs.toList).append m)
   obtain⟨fn,u,h,d⟩:=r.1;exact HY hb hi (I _ _ _ k) hh (λw=>(gG ho u h d G w).1) (λw=>(gG ho u h d G w).2) r n B E J y H A hK
theorem OA.call{X:Cx P}{CT:List (Nat×dy)}(hC:bA X CT){x:D}(e:∀σ s a,ck N σ s φ a->aY o (yielded all.toArray a.tmps)=ab)(ho:o.op=.call {callee:=.value fo,args:=xs,argTypes:=jJ})(b:Il CT φ σ fo xs.toList=aa (x,σ',obs))(c:au obs):OA X N all o φ σ x σ':=by
 unfold Il at b;split at b
 .cases b
 rename_i f cap hf;split at b
 .cases b
 rename_i g d;simp only at b;split at b
 .cases b
 grind[OA.OM,Nat.le_of_ble_eq_true]
def Bm{d:D}(h:uV 0 d=ab):iE [] d=d:=by
 have g:∀{a:A},F2 0 a=ab->oi [] a=a:=by intro a b;cases a<;>simp only[F2]at b<;>first|rfl|(simp at b)
 have j:∀{l:List A},EG 0 l=ab->AV [] l=l:=by
  intro l;induction l with
  |nil=>intro _;rfl
  |cons a r c =>
   intro h;simp only[EG]at h;cases b:F2 0 a with
   |false=>grind
   |true=>simp only[b]at h;simp[AV,g b,c h]
 have i:∀{a:E1},HW 0 a=ab->za [] a=a:=by
  intro a b;cases a with
  |one a=>simp[za,g b]
  |agg cs=>simp[za,j b]
 have f:∀{l:List E1},xf 0 l=ab->xN [] l=l:=by
  intro l;induction l with
  |nil=>intro _;rfl
  |cons a r c =>
   intro h;simp only[xf]at h;cases b:HW 0 a with
   |false=>grind
   |true=>simp only[b]at h;simp[xN,i b,c h]
 cases d with
 |e x=>simp[iE,i h]
 |fw xs=>simp[iE,f h]
 |any=>rfl
def A5(CT:List (Nat×dy))(φ:Fr)(fo:aC)(xs:List aC):Option (D×List Prop) :=
 match ei (bJ φ fo)with
 |none=>af
 |some (f,cap)=>match xX CT f with
  |none=>af
  |some g=>match Gk [] (n5 (xs.map (bJ φ)++fC cap))with
   |none=>af
   |some cm=>match g cm []with
    |some (res,[],obs)=>match uV 0 res with
     |true=>aa (res,obs)
     |false=>af
    |_=>af
theorem OA.A5{P:aM}{X:Cx P}{N:Nat}{all:List aB}{φ:Fr}{σ:List bd}{o:aB}{CT:List (Nat×dy)}(hC:bA X CT){fo:aC}{xs:Array aC}{jJ:Array aw}{x:D}{obs:List Prop}(h:∀σ s a,ck N σ s φ a->aY o (yielded all.toArray a.tmps)=ab)(ho:o.op=.call {callee:=.value fo,args:=xs,argTypes:=jJ})(b:AM.A5 CT φ fo xs.toList=aa (x,obs))(c:au obs):OA X N all o φ σ x σ:=by
 unfold AM.A5 at b;split at b
 .cases b
 rename_i f cap hf;split at b
 .cases b
 rename_i g d;split at b
 .cases b
 rename_i cm hun;split at b
 case h_2=>cases b
 rename_i res aa3 WW;split at b
 case h_2=>cases b
 rename_i e;cases b;have:=OA.OM (σ:=σ) hC h ho hf d hun rfl WW rfl rfl rfl (aZ _) c;simpa[lz,Bm e,eb]using this
structure HA(N:Nat)(σ:List bd)(s:St)(V:Nat->D)(a:Act):Prop where
 size:a.tmps.size=N
 defers:∃ls,om σ s a.defers ls
 slot:∀t,dk σ s (a.tmps.getD t ah) (V t)
def HA.H6{V:Nat->D}{a:Act}(f:HA N σ s V a)(h:∀t σ s v,dk σ s v (V t)->dk σ s v (look φ t)):ck N σ s φ a :=
 ⟨f.size,f.defers,λt=>h t _ _ _ (f.slot t)⟩
def de(e:Edge):Bool:=Region.binds .any e
structure u6{P:aM}(X:Cx P)(N:Nat)(ops:Array aB)(φ:Fr)(S:Nat->List bd)(x:Nat->D)(p:Nat->Fr)(free c:Nat->Bool)(m:Nat->Nat->Prop)(idx:Nat->Option Nat)(φ':Fr):Prop where
 di:P.follows Departure.mixedOrders=ab
 back:∀i o,ops[i]?=aa o->∀e∈o.after,de e=ab->e.on<i
 H7:∀i o d,ops[i]?=aa o->o.dst=aa d->idx d=aa i/\d<N
 xh:∀d i,idx d=aa i->∃o,ops[i]?=aa o/\o.dst=aa d
 quiet:∀i,c i=ae->S (i+1)=S i
 one:∀i o,ops[i]?=aa o->free i=ae->OA X N ops.toList o (p i) (S i) (x i) (S (i+1))
 all:∀i o,ops[i]?=aa o->free i=ab->c i=ae/\∀k,OA X N ops.toList o (p i) (S k) (x i) (S k)
 cl:∀L:Nat->Prop,(∀i o,ops[i]?=aa o->L i->∀e∈o.after,de e=ab->L e.on)->∀i j,m i j->(L i->L j)/\∃o,ops[i]?=aa o/\((∀e∈o.after,de e=ab->L e.on)->L j)
 comp:∀i f,i<ops.size->f<ops.size->c f=ab->i≠f->free i=ae->(f<i/\m i f)∨(i<f/\m f i)
 RZ:∀i o,ops[i]?=aa o->∀t σ s v,dk σ s v (match idx t with|some j=>(if ∃e∈o.after,de e=ab/\e.on=j then x j else if ∃oj,ops[j]?=aa oj/\∃e∈oj.after,de e=ab/\e.on=i then look φ t else .any)|none=>look φ t)->dk σ s v (look (p i) t)
 fin:∀t σ s v,dk σ s v (match idx t with|some j=>x j|none=>look φ t)->dk σ s v (look φ' t)
open Classical in
noncomputable def fX(φ:Fr)(x:Nat->D)(idx:Nat->Option Nat)(L:Array Bool)(t:Nat):D :=
 match idx t with
 |some j=>if L.getD j ae=ab then x j else look φ t
 |none=>look φ t
theorem mem_ready:i∈aX .any ops L↔∃o,ops[i]?=aa o/\L.getD i ab=ae/\∀e∈o.after,de e=ab->L.getD e.on ae=ab:=by
 unfold aX;simp only[g9,ra,bS,iU];constructor
 .rintro⟨b,j,a⟩;rw[fO b]at a;simp only[mv,ga,Array.all_eq_true',my,iU]at a;refine⟨ops[i],fO b,j,λe d g=>?_⟩;rcases a e d with h|h
  .unfold de at g;grind
  grind
 .rintro⟨o,b,j,a⟩;have f:i<ops.size:=(eZ.1 b).1;refine⟨f,j,?_⟩;rw[b];simp only[mv,ga,Array.all_eq_true',my,iU];intro e d;cases g:Region.binds .any e with
  |false=>grind
  |true=>exact .inr (a e d g)
section
variable {X:Cx P}{φ':Fr}{S:Nat->List bd}{x:Nat->D}{p:Nat->Fr}{free c:Nat->Bool}{m:Nat->Nat->Prop}{idx:Nat->Option Nat}
def u6.chain(h:u6 X N ops φ S x p free c m idx φ'){i:Nat}:∀{k:Nat},i<=k->(∀g,i<=g->g<k->c g=ae)->S k=S i
 |0,b,_=>by grind
 |k+1,b,a=>by
  rcases cA k i with hl|hl
  .grind
  .rw[h.quiet k (a k hl (by omega)),h.chain (k:=k) hl (λg h1 h2=>a g h1 (by omega))]
def u6.last(h:u6 X N ops φ S x p free c m idx φ')(e:∀i,i<ops.size->L.getD i ae=ab){s0:St}{a:Act}(q:k<=ops.size)(n:∀f,f<ops.size->c f=ab->(L.getD f ae=ab↔f<k))(b:HA N (S k) s (fX φ x idx L) a)(hh:aD (S k) s)(st:cN (S 0) s0 (S k) s):
  ck N (S ops.size) s φ' a/\aD (S ops.size) s/\cN (S 0) s0 (S ops.size) s:=by
 have d:S ops.size=S k:=h.chain q (λg h1 h2=>by grind)
 rw[<-d]at b hh st;refine⟨b.H6 λt σ s v l=>h.fin t σ s v ?_,hh,st⟩;unfold fX at l;cases hi:idx t with
 |none=>grind
 |some j =>
  simp only[hi]at l⊢;obtain⟨o,ho,_⟩:=h.xh _ _ hi;grind
theorem ez(hi:i<L.size):(L.setIfInBounds i ab).getD j ae=ab↔j=i∨L.getD j ae=ab:=by simp only[dH];grind
theorem count_set:∀{l:List Bool}{i:Nat},l[i]?=aa ae->((l.set i ab).filter (λb=>!b)).length+1=(l.filter (λb=>!b)).length
 |[],_,h=>by grind
 |b::r,0,h=>by grind
 |b::r,i+1,h=>by simp at h;have:=count_set (l:=r) h;cases b<;>simp[List.set_cons_succ]<;>omega
theorem u7(t:Nat)(L:Array Bool):Region.linearise.go .any ops 0 t L []=[]:=by simp[Region.linearise.go]
theorem oK(n t:Nat)(L:Array Bool):Region.linearise.go .any ops (n+1) t L []=match(aX .any ops L)[t % (aX .any ops L).length]? with
  |some i=>i::Region.linearise.go .any ops n (t / (aX .any ops L).length) (L.setIfInBounds i ab) []
  |none=>[]:=by
 simp only[Region.linearise.go]
 change (match(aX .any ops L)[t % (aX .any ops L).length]? with
   |some i=>Region.linearise.go .any ops n (t / (aX .any ops L).length) (L.setIfInBounds i ab) [i]
   |none=>[].reverse)=_
 grind[linearise_go_acc]
def u6.arr(h:u6 X N ops φ S x p free c m idx φ'){Z:aq->St->Prop}{b:aU}{kk:List Item}(hb:b.kind≠.early){s0:St}(hQ:∀s a,ck N (S ops.size) s φ' a->aD (S ops.size) s->cN (S 0) s0 (S ops.size) s->fu X Z (G (b.aT a kk) cs) s):
  ∀(l:Nat) (L:Array Bool),L.size=ops.size->(L.toList.filter (λb=>!b)).length<=l ->
   (∀i o,ops[i]?=aa o->L.getD i ae=ab->∀e∈o.after,de e=ab->L.getD e.on ae=ab) ->
   ∀(k:Nat) (s:St) (a:Act),k<=ops.size->(∀f,f<ops.size->c f=ab->(L.getD f ae=ab↔f<k))->HA N (S k) s (fX φ x idx L) a->aD (S k) s->cN (S 0) s0 (S k) s ->
   ∀t,fu X Z (G (b.aT a (.inRegion ops (Region.linearise.go .any ops l t L [])::kk)) cs) s:=by
 have fin:∀(s:St) (a:Act),ck N (S ops.size) s φ' a->aD (S ops.size) s->cN (S 0) s0 (S ops.size) s->fu X Z (G (b.aT a (.inRegion ops []::kk)) cs) s :=
  λs a a1 a2 a3=>.ctl a2 rfl (λ_=>iK) λs1 R=>hQ s1 a (a1.rely R a2) (a2.rely R) (a3.trans R.stepW)
 intro l;induction l with
 |zero =>
  intro L hs hf CQ k s a Y C n hh st;have A:∀i,i<ops.size->L.getD i ae=ab:=by
   intro i hi;have hm:L[i]'(by omega)∈L.toList:=by simp
   cases hb:L[i]'(by omega)with
   |true=>simp[dH,fO (by omega:i<L.size),hb]
   |false =>
    have:L[i]'(by omega)∈L.toList.filter (λb=>!b):=g9.2 ⟨hm,by grind⟩;grind
  intro t;rw[u7];obtain⟨a1,a2,a3⟩:=h.last A Y C n hh st;grind
 |succ l ih =>
  intro L hs hf CQ k s a Y C n hh st;intro t;rw[oK];cases W:(aX .any ops L)[t % (aX .any ops L).length]? with
  |none =>
   have hr:aX .any ops L=[]:=by
    cases hr:aX .any ops L with
    |nil=>rfl
    |cons y ys =>
     grind[Nat.mod_lt]
   have A:∀i,i<ops.size->L.getD i ae=ab:=by
    intro i;induction i using Nat.strongRecOn with
    |_ i ZY =>
     intro hi;cases hb:L.getD i ae with
     |true=>rfl
     |false =>
      have hm:i∈aX .any ops L:=mem_ready.2 ⟨ops[i],fO hi,by
       grind,λe U ZZ=>by
       have:=h.back i _ (fO hi) e U ZZ
       grind⟩
      grind
   obtain⟨a1,a2,a3⟩:=h.last A Y C n hh st;grind
  |some i =>
   have hi:=bH W;obtain⟨o,ho,X3,PE⟩:=mem_ready.1 hi;have Q:i<ops.size:=(eZ.1 ho).1;have H:¬L.getD i ae=ab:=by grind
   have VW:=h.cl (λj=>L.getD j ae=ab) CQ;have X4:∀g,m g i->¬L.getD g ae=ab:=λg hg hL=>H ((VW g i hg).1 hL);have hup:∀g,m i g->L.getD g ae=ab:=λg hg=>by grind
   have E:(L.setIfInBounds i ab).size=ops.size:=by grind
   have F:((L.setIfInBounds i ab).toList.filter (λb=>!b)).length<=l:=by
    have h1:L.toList[i]?=aa ae:=by rw[yV,fO (by omega:i<L.size)];simpa[dH,fO (by omega:i<L.size)]using H
    grind[count_set]
   have VX:∀j o',ops[j]?=aa o'->(L.setIfInBounds i ab).getD j ae=ab->∀e∈o'.after,de e=ab->(L.setIfInBounds i ab).getD e.on ae=ab:=by grind[ez]
   have Z0:ck N (S k) s (p i) a:=n.H6 λt σ s v T=>h.RZ i o ho t σ s v (by
    unfold fX at T;cases u:idx t with
    |none=>grind
    |some j =>
     simp only[u]at T⊢;split
     .grind
     .split
      .grind
      .trivial)
   have O:∀(σ':List bd) (s':St) (v:ai),cN (S k) s σ' s'->dk σ' s' v (x i)->HA N σ' s' (fX φ x idx (L.setIfInBounds i ab)) (a.put o.dst v):=by
    intro σ' s' v r T;cases hd:o.dst with
    |none =>
     refine⟨n.size,n.defers.imp λ_ h1=>h1.mono r.ext,λt=>?_⟩;have z:=(n.slot t).mono r.ext hh.len;simp only[Act.put];unfold fX at z⊢;cases u:idx t with
     |none=>grind
     |some j =>
      simp only[u]at z⊢;obtain⟨oj,VY,VZ⟩:=h.xh _ _ u;grind[ez]
    |some d =>
     obtain⟨Z1,Z2⟩:=h.H7 i o d ho hd;refine⟨by simp[Act.put,n.size],n.defers.imp λ_ h1=>h1.mono r.ext,λt=>?_⟩;simp only[Act.put];by_cases e:d=t
     .subst e;have X5:d<a.tmps.size:=by rw[n.size];exact Z2
      simp only[dH,uM X5,ga];unfold fX;simp only[Z1];rw[bn ((ez (by omega)).2 (.inl rfl))];exact T
     .have z:=(n.slot t).mono r.ext hh.len;simp only[dH]at z⊢;rw[ni e];unfold fX at z⊢;cases u:idx t with
      |none=>grind
      |some j =>
       simp only[u]at z⊢;obtain⟨oj,VY,VZ⟩:=h.xh _ _ u;grind[ez]
   have B:∀(k':Nat),k'<=ops.size->OA X N ops.toList o (p i) (S k) (x i) (S k')->(∀f,f<ops.size->c f=ab->((L.setIfInBounds i ab).getD f ae=ab↔f<k')) ->
     fu X Z (G (b.aT a (.inRegion ops (i::Region.linearise.go .any ops l (t / (aX .any ops L).length) (L.setIfInBounds i ab) [])::kk)) cs) s:=by intro k' X0 Z3 V0;have:=Z3 s a Z0 hh b kk cs Z i (Region.linearise.go .any ops l (t / (aX .any ops L).length) (L.setIfInBounds i ab) []) hb (by grind);simp only[ql]at this;exact this λv s' T jf r=>ih _ E F VX k' s' _ X0 V0 (O _ _ _ r T) jf (st.trans r) _
   have same:c i=ae->∀f,f<ops.size->c f=ab->((L.setIfInBounds i ab).getD f ae=ab↔f<k):=by grind[ez]
   cases q:free i with
   |true =>
    obtain⟨hq,V1⟩:=h.all i o ho q;exact B k Y (V1 k) (same hq)
   |false =>
    have w:=h.one i o ho q;have J:S i=S k:=by
     rcases Nat.le_total k i with M|M
     .refine h.chain M λg h1 h2=>?_;cases U:c g with
      |false=>rfl
      |true =>
       exfalso;rcases h.comp i g Q (by omega) U (by omega) q with⟨_,V⟩|⟨V,_⟩
       .grind
       .omega
     .refine(h.chain M λg h1 h2=>?_).symm;cases U:c g with
      |false=>rfl
      |true =>
       exfalso;have hLg:=(C g (by omega) U).2 h2;by_cases PF:g=i
       .grind
       .rcases h.comp i g Q (by omega) U (λe=>PF e.symm) q with⟨V,_⟩|⟨_,V⟩
        .omega
        grind
    rw[J]at w;cases K:c i with
    |false =>
     rw[h.quiet i K,J]at w;exact B k Y w (same K)
    |true =>
     refine B (i+1) (by omega) w λf R0 Vb=>?_;rw[ez (by omega)];by_cases I:f=i
     .grind
     .simp only[I,false_or];rcases h.comp i f Q R0 Vb (λe=>I e.symm) q with⟨h1,V⟩|⟨h1,V⟩
      .grind
      grind
end
def I7(P:aM):List TypeDesc->List Field->Nat->Prop
 |[],[],_=>True
 |d::ds,f::fs,i=>f.name≠ "_"/\f.offset=i/\P.underlying f.type=aa d/\(match d with|.int _|.string|.bool=>True|_=>False)/\I7 P ds fs (i+1)
 |_,_,_=>False
def Ti(d:Nat)(xs ys:Array ai)(f:Field)(_:Option Bool×Unit):Sem (ForInStep (Option Bool×Unit)) :=
 if f.name= "_" then pure (ForInStep.yield (af,()))
 else do
  let a<-part f.type xs f.offset;let b<-part f.type ys f.offset;let r<-Op.equalIn d f.type a b
  if r=ae then pure (ForInStep.done (aa ae,()))else pure (ForInStep.yield (af,()))
def rL{P:aM}(w:aA)(d:Nat)(xs ys:Array ai):∀{ds:List TypeDesc}{fs:List Field}{i:Nat}{vs ws:List ai}{b:Bool},I7 P ds fs i->jB ds vs ws=aa b->(∀j v,vs[j]?=aa v->xs[i+j]?=aa v)->(∀j v,ws[j]?=aa v->ys[i+j]?=aa v) ->
  (Op.eqFields (d+1) xs ys fs).run P w=.ok b w/\∀es,(forIn fs (af,()) (Ti (d+1) xs ys)).events P w es=es
 |[],[],i,[],[],b,_,h,_,_=>by cases h;simp[Op.eqFields]
 |[],[],i,_::_,_,b,_,h,_,_=>by cases h
 |[],[],i,[],_::_,b,_,h,_,_=>by cases h
 |[],_::_,i,_,_,b,q,_,_,_=>q.elim
 |_::_,[],i,_,_,b,q,_,_,_=>q.elim
 |t::ds,f::fs,i,[],_,b,_,h,_,_=>by cases h
 |t::ds,f::fs,i,_::_,[],b,_,h,_,_=>by cases h
 |t::ds,f::fs,i,v::vs,u::us,b,⟨A,C,o,F,G⟩,h,B,y=>by
  simp only[jB]at h;cases k:qB t v u with
  |none=>grind
  |some a =>
   cases x:jB ds vs us with
   |none=>grind
   |some b' =>
    simp[k,x]at h;subst h;obtain⟨H,r⟩:=rL w d xs ys G x (λj v E=>by have:=B (j+1) v (by grind);grind) (λj v E=>by have:=y (j+1) v (by grind);grind);have e:xs[i]?=aa v:=by simpa using B 0 v rfl
    have c:ys[i]?=aa u:=by simpa using y 0 u rfl
    have m:(isAgg f.type).run P w=.ok ae w:=by unfold isAgg underlying;cases t<;>simp at F<;>simp[o]
    have n:∀(g:Array ai) (z:ai),g[i]?=aa z->(part f.type g f.offset).run P w=.ok z w:=by intro g z s;unfold part;simp[m,C,s]
    have l:∀(g:Array ai) (z:ai),g[i]?=aa z->∀es,(part f.type g f.offset).events P w es=es:=by intro g z s es;unfold part;simp[m,C,s]
    have p:∀es,(Op.equalIn (d+1) f.type v u).events P w es=es:=by
     intro es;unfold qB at k;split at k<;>first
      |(cases k;done)
      |(unfold Op.equalIn;simp[underlying,o];done)
      |(unfold Op.equalIn;simp[underlying,o];split<;>rfl)
    have D:(Op.equalIn (d+1) f.type v u).run P w=.ok a w:=by unfold qB at k;grind[run_equalIn_int,run_equalIn_string,run_equalIn_bool]
    refine⟨?_,λes=>?_⟩
    .rw[Op.eqFields.eq_2,bn A];simp only[bO,n xs v e,n ys u c,D,b9];cases a
     .simp
     grind
    .rw[List.forIn_cons];simp only[Ti,A,bM,aK,bO,n xs v e,n ys u c,D,b9,aP,l xs v e,l ys u c,p];cases a
     .simp
     .simpa using r es
def lG{fs:List Field}{ds:List TypeDesc}(d:P.underlying t=aa (.struct fs.toArray))(c:P.stoodInHeld t=ae)(k:P.eqGuardType P.depth t=ae)(e:I7 P ds fs 0):
  P.eqGuardType P.depth t=ae/\∀(w:aA) (vs ws:List ai) (b:Bool),jB ds vs ws=aa b->(Op.equal t (.agg vs.toArray) (.agg ws.toArray)).run P w=.ok b w/\∀es,(Op.equal t (.agg vs.toArray) (.agg ws.toArray)).events P w es=es:=by
 refine⟨k,λw vs ws b h=>?_⟩;have f:P.fieldsOf t=fs.toArray:=by unfold Program.fieldsOf;rw[d]
 have key:=rL w 9998 vs.toArray ws.toArray e h (λj v g=>by grind) (λj v g=>by grind);refine⟨?_,λes=>?_⟩
 rotate_left
 .show (Op.equalIn (9999+1) t _ _).events P w es=es;have i:=key.2 es;unfold Op.equalIn;simp[underlying,d,c];show Result.evThen ((forIn fs (af,()) (Ti 9999 vs.toArray ws.toArray)).run P w) ((forIn fs (af,()) (Ti (9998+1) vs.toArray ws.toArray)).events P w es) _=es;rw[i];cases(forIn fs (af,()) (Ti 9999 vs.toArray ws.toArray)).run P w with
  |ok a w'=>obtain⟨o,_⟩:=a;cases o<;>rfl
  |halt x w'=>rfl
 show(Op.equalIn (9999+1) t _ _).run P w=_;grind[run_equalIn_agg]
def OC:List TypeDesc->List A->List A->Option Bool
 |[],[],[]=>aa ab
 |.int _::ds,.c (.int k a)::cs,.c (.int k' b)::es=>match Gj k k' with
  |true=>match OC ds cs es with
   |some r=>aa ((a==b)&&r)
   |none=>af
  |false=>af
 |.string::ds,.c (.str a)::cs,.c (.str b)::es=>match OC ds cs es with
  |some r=>aa ((a==b)&&r)
  |none=>af
 |.bool::ds,.c (.bool a)::cs,.c (.bool b)::es=>match OC ds cs es with
  |some r=>aa ((a==b)&&r)
  |none=>af
 |_,_,_=>af
def Dl:∀{ds:List TypeDesc}{cs es:List A}{b:Bool}{vs ws:List ai},OC ds cs es=aa b->dZ σ s vs cs->dZ σ s ws es->jB ds vs ws=aa b:=by
 intro ds;induction ds with
 |nil =>
  intro cs es b vs ws h c e;cases cs<;>cases es<;>simp only[OC,reduceCtorEq]at h
  cases vs<;>cases ws<;>first|exact c.elim|exact e.elim|(simpa[jB]using h)
 |cons d ds ih =>
  intro cs es b vs ws h c e;unfold OC at h;split at h
  .grind
  .rename_i m g k a i k' b' es' heq;cases heq;split at h
   .rename_i l;cases zF l;split at h
    .rename_i r f;cases h;cases vs with
     |nil=>exact c.elim
     |cons v vs=>cases ws with
      |nil=>exact e.elim
      |cons w ws =>
       obtain⟨v1,j⟩:=c;obtain⟨w1,w2⟩:=e;cases(show Rd s.M v (.int k a)from v1);cases(show Rd s.M w (.int k b')from w1);simp[jB,qB,ih f j w2]
    grind
   grind
  .rename_i g a i b' es' heq;cases heq;split at h
   .rename_i r f;cases h;cases vs with
    |nil=>exact c.elim
    |cons v vs=>cases ws with
     |nil=>exact e.elim
     |cons w ws =>
      obtain⟨v1,j⟩:=c;obtain⟨w1,w2⟩:=e;cases(show Rd s.M v (.str a)from v1)with
      |str hx _ =>
      cases(show Rd s.M w (.str b')from w1)with
      |str hy _ =>
      simp only[jB,qB,ih f j w2];grind[ByteArray.toList_eq]
   grind
  .rename_i g a i b' es' heq;cases heq;split at h
   .rename_i r f;cases h;cases vs with
    |nil=>exact c.elim
    |cons v vs=>cases ws with
     |nil=>exact e.elim
     |cons w ws =>
      obtain⟨v1,j⟩:=c;obtain⟨w1,w2⟩:=e;cases(show Rd s.M v (.bool a)from v1);cases(show Rd s.M w (.bool b')from w1);simp[jB,qB,ih f j w2]
   grind
  grind
section
variable {T:List (Nat×TI)}
def lA:BinOp->Bool->Option Bool
 |.eql,b=>aa b
 |.neq,b=>aa (!b)
 |_,_=>af
def tu{x y:ai}{b c:Bool}(a:match x,y with|.agg _,.agg _=>True|.bool _,.bool _=>True|_,_=>False)(d:(Op.equal t x y).run P w=.ok b w)(h:lA op b=aa c):
  (binOp op t x y).run P w=.ok (.bool c) w:=by
 cases op<;>simp only[lA,reduceCtorEq,dx]at h
 .subst h;cases x<;>cases y<;>simp only at a<;>simp[binOp,d]
 .subst h;cases x<;>cases y<;>simp only at a<;>simp[binOp,d]
def oS{x y:ai}{b c:Bool}(d:match x,y with|.agg _,.agg _=>True|.bool _,.bool _=>True|_,_=>False)(e:(Op.equal t x y).run P w=.ok b w)(a:∀es,(Op.equal t x y).events P w es=es)(h:lA op b=aa c)(es:Array Event):
  (binOp op t x y).events P w es=es:=by cases op<;>simp only[lA,reduceCtorEq,dx]at h<;>(cases x<;>cases y<;>simp only at d<;>simp[binOp,a])
def vG(op:BinOp)(t:aw)(x y:aC)(xs ys:Array ai)(w:aA)(a:P.eqGuardType P.depth t=ae)(es:Array Event):(eqGuard op t x y (.agg xs) (.agg ys)).events P w es=es:=by cases op<;>simp[eqGuard,a]
theorem bD.structEq(r:c8 P T)(h:o.op=.binOp op t x y ty){i:TI}(hi:bE T t=aa i)(m:i.eq≠[]){cs es:List A}{b c:Bool}(u:η x=.e (.agg cs))(v:η y=.e (.agg es))(k:OC i.eq cs es=aa b)(p:lA op b=aa c):bD P o η σ (.e (.one (.c (.bool c)))) σ:=by refine .quiet λs z hh hr=>?_;have h1:=hr x;have h2:=hr y;rw[u]at h1;rw[v]at h2;obtain⟨vs,n,f⟩:=h1;obtain⟨j,q,g⟩:=h2;obtain⟨l,heq⟩:=(r t i hi).eqs m;have a:=tu (x:=.agg vs.toArray) (y:=.agg j.toArray) ar (heq s.w vs j b (Dl k f g)).1 p;have d:=oS (x:=.agg vs.toArray) (y:=.agg j.toArray) ar (heq s.w vs j b (Dl k f g)).1 (heq s.w vs j b (Dl k f g)).2 p;refine⟨.bool c,?_,Rd.bool,by simp only[ak,h,n,q,aK,run_eqGuard_agg s.w op t x y _ _ l,vG op t x y _ _ s.w l,aP,bO,b9,a,d,Sem.events_pure]⟩;simp only[ak,h,n,q,bO,run_eqGuard_agg s.w op t x y _ _ l,b9,a,cT]
theorem bD.PT(p:c8 P T)(h:o.op=.binOp op t x y ty){i:TI}(hi:bE T t=aa i)(r:i.desc=.bool){a b c:Bool}(q:η x=.e (.one (.c (.bool a))))(u:η y=.e (.one (.c (.bool b))))(n:lA op (a==b)=aa c):bD P o η σ (.e (.one (.c (.bool c)))) σ:=by
 refine .quiet λs m hh hr=>?_;have h1:=hr x;have h2:=hr y;rw[q]at h1;rw[u]at h2;replace h1:=fH h1;replace h2:=fH h2;generalize j:m x=vx at h1;generalize g:m y=vy at h2;cases h1;cases h2;have k:P.underlying t=aa .bool:=by rw[(p t i hi).RX,r]
 have d:=tu (P:=P) (w:=s.w) (x:=.bool a) (y:=.bool b) ar (run_equal_bool s.w t a b k) n;have l:∀es,(Op.equal t (.bool a) (.bool b)).events P s.w es=es:=λes=>by show(Op.equalIn (9999+1) t _ _).events P s.w es=es;unfold Op.equalIn;simp[underlying,k]
 have f:=oS (P:=P) (w:=s.w) (x:=.bool a) (y:=.bool b) ar (run_equal_bool s.w t a b k) l n;refine⟨.bool c,?_,Rd.bool,by simp only[ak,h,j,g,aK,eqGuard_at_bool,Sem.events_pure,cT,aP,bO,b9,d,f]⟩;simp only[ak,h,j,g,bO,eqGuard_at_bool,cT,b9,d]
def bD.SP(h:o.op=.binOp .xor t x y ty){a b:Int}(n:η x=.e (.one (.c (.int .i64 a))))(p:η y=.e (.one (.c (.int .i64 b))))(q:0<=a)(h1:0<=b):
  bD P o η σ (.e (.one (.c (.int .i64 ((a.toNat ^^^ b.toNat:Nat):Int))))) σ:=by
 refine .quiet λs l hh hr=>?_;have e1:=hr x;have e2:=hr y;rw[n]at e1;rw[p]at e2;replace e1:=fH e1;replace e2:=fH e2;generalize g:l x=vx at e1;generalize f:l y=vy at e2;cases e1 with|int ha =>
 cases e2 with|int hb =>
 have m:a.toNat ^^^ b.toNat<2 ^ 63:=by apply Nat.xor_lt_two_pow<;>simp only[bw]at ha hb<;>omega
 have j:bw .i64 ((a.toNat ^^^ b.toNat:Nat):Int):=by simp only[bw];omega
 refine⟨.int .i64 ((a.toNat ^^^ b.toNat:Nat):Int),?_,.int j,?_⟩
 rotate_left
 .simp only[ak,h,g,f,aK,gn,js,aP,Go.binOp,cR,fa,bM,Op.intBits,bO,b9,cT,Sem.events_pure]
 have d:((BitVec.ofInt 64 a) ^^^ (BitVec.ofInt 64 b)).toNat=a.toNat ^^^ b.toNat:=by rw[BitVec.toNat_xor,BitVec.toNat_ofInt,BitVec.toNat_ofInt];simp only[bw]at ha hb;congr 1<;>omega
 have i:(BitVec.ofInt IntKind.i64.bits a ^^^ BitVec.ofInt IntKind.i64.bits b).toNat=a.toNat ^^^ b.toNat:=d;have k:(Go.binOp .xor t (.int .i64 a) (.int .i64 b)).run P s.w=.ok (.int .i64 ((a.toNat ^^^ b.toNat:Nat):Int)) s.w:=by simp only[Go.binOp,cR,fa,bM,Op.intBits,cT];grind[l0]
 simp only[ak,h,g,f,bO,gn,b9,k,cT]
def bD.F5(A:c8 P T){k dst:aw}(h:o.op=.convert k dst x){i i2 ie:TI}(hi:bE T k=aa i)(z:bE T dst=aa i2)(O:i.desc=.slice E)(y:i2.desc=.string)(N:bE T E=aa ie)(F:ie.desc=.int .u8){tt:Bool}{r:List UInt8}(L:∀s v,dk σ s v (η x)->Rd s.M v (.sl tt 1 n es))(hb:ve es 0 n=aa r):bD P o η σ (.e (.one (.c (.str r)))) σ:=by
 refine .ny λs S hh hr=>?_;have h1:=L s _ (hr x);obtain⟨vs,H,b⟩:=dT (P:=P) hh h1;obtain⟨a,cap,K,p,J,Q,_⟩:=h1.flat;have I:n<=9223372036854775807:=by omega
 have G:vs.length=n:=by rw[H.len];omega
 obtain⟨xs,e1,e2⟩:=x6 (M:=s.M) (vs:=vs) hb G (λj hj c R=>by
  obtain⟨v,U,p2⟩:=H.rd j hj 0 c (by grind)
  grind)
 have D:=(A k i hi).run_underlying (w:=s.w);have l:=(A dst i2 z).run_underlying (w:=s.w);have f:=(A E ie N).run_underlying (w:=s.w);rw[O]at D;rw[y]at l;rw[F]at f;have C:r.length<=9223372036854775807:=by grind
 have g:∃u:ByteArray,(Conv.bytesToString (.slice a n cap)).run P s.w=.ok (.string u) s.w/\u.data.toList=r:=by
  cases a with
  |none =>
   have q:r=[]:=by
    have:vs=[]:=by rw[p]at b;have h2:=b.1;simp[Builtin.firstCells]at h2;grind
    grind
   exact⟨ByteArray.empty,by simp[Conv.bytesToString],by rw[q];rfl⟩
  |some ad =>
   rw[p]at b;have h2:=b.1;simp only[Builtin.firstCells,Nat.mul_one]at h2;refine⟨⟨#[]++(xs.map λx=>UInt8.ofNat x.toNat).toArray⟩,?_,by grind⟩;simp only[Conv.bytesToString,bO,h2,b9,e1];rw[List.forIn_toArray,n9 (P:=P) s.w (λ_ _=>rfl) xs ByteArray.empty];rfl
 obtain⟨u,m,B⟩:=g;refine⟨.string u,?_,Rd.str B C,?_⟩
 rotate_left
 .intro e d;simp only[ak,h,p,aK,convert,D,l,aP,b9,f,m,bO,events_underlying,Sem.events_pure]at d;cases a with
  |none=>simp[Conv.bytesToString]at d
  |some ad =>
   have t:=gH (P:=P) hh (h1.CN (λ_ _=>rfl)) (w:=s.w) rfl;rw[p]at b t;have h2:=b.1;simp only[Builtin.firstCells,Nat.mul_one]at h2 t;unfold Conv.bytesToString at d;simp only at d;rw[aK,h2,aP,cV.bind (P:=P) ?_ λ_=>.pure]at d
   .grind [sd]
   .rw[List.forIn_toArray];refine cV.Ih (λx s=>?_) _ _;split
    .exact .pure
    .exact .bind .stuck λ_=>.pure
 simp only[ak,h,p,bO,convert,D,l,b9,f,m,cT]
end
def vf(η:aC->D):List aC->Option (List C)
 |[]=>aa []
 |x::r=>match η x with
  |.e (.one (.c c))=>match vf η r with
   |some q=>aa (c::q)
   |none=>af
  |_=>af
def vH{σ:List bd}{s:St}{a:aC->ai}{η:aC->D}(b:∀y,dk σ s (a y) (η y)):∀{xs:List aC}{cs:List C},vf η xs=aa cs->xs.length=cs.length/\∀(j:Nat)(c:C),cs[j]?=aa c->∃v,(xs.map a)[j]?=aa v/\Rd s.M v c
 |[],cs,h=>by cases h;grind
 |x::r,cs,h=>by
  simp only[vf]at h;split at h
  .rename_i c f;split at h
   .rename_i q e;cases h;obtain⟨g,k⟩:=vH b e;refine⟨by grind,λj i d=>?_⟩;cases j with
    |zero =>
     simp at d;subst d;have:=b x;rw[f]at this;exact⟨a x,by simp,fH this⟩
    |succ j=>grind
   grind
  grind
section
variable {T:List (Nat×TI)}
theorem bD.makeFunc{fn:Fn}{a b:Array aC}(h:o.op=.makeFunc fn a b){g f:List C}(i:vf η a.toList=aa g)(hb:vf η b.toList=aa f):bD P o η σ (.e (.one (.c (.fn fn g f)))) σ:=by
 refine .quiet λs d hh hr=>?_;obtain⟨a1,a2⟩:=vH hr i;obtain⟨n,m⟩:=vH hr hb;have l:a.map d=(a.toList.map d).toArray:=by grind
 have k:b.map d=(b.toList.map d).toArray:=by grind
 refine⟨.func fn (a.toList.map d).toArray (b.toList.map d).toArray,?_,?_,by simp only[ak,h,Instr.makeFunc];rfl⟩
 .simp only[ak,h,Instr.makeFunc,l,k];rfl
 .refine Rd.fn _ _ (by grind) (by grind) (λj=>((a.toList.map d)[j]?).getD ah) (λj=>((b.toList.map d)[j]?).getD ah) ?_ ?_ ?_ ?_
  .grind
  .grind
  .grind
  grind
def A6:TypeDesc->Bool
 |.interface _=>ab
 |_=>ae
def uA(t:aw):D->Option C
 |.e (.one (.c c))=>aa (.ifs t c)
 |.e (.agg cs)=>match gN cs with
  |some q=>aa (.Mh t q)
  |none=>af
 |_=>af
def Dm{d:D}{c:C}(h:uA t d=aa c)(r:dk σ s v d):Rd s.M (.iface t v) c:=by
 unfold uA at h;split at h
 .cases h;exact Rd.ifs (fH r) (fH r).cell
 .split at h
  .rename_i q g;cases h;obtain⟨vs,rfl,e⟩:=r;have b:=lh g e;refine Rd.Mh (by have:=b.length;grind) (λj=>(vs[j]?).getD ah) (λj k=>by grind) λj c k=>?_;obtain⟨v,f,i⟩:=b.get (j:=j) (a:=.c c) (by grind);rw[f];exact i
  grind
 grind
theorem bD.makeInterface(g:c8 P T){t:aw}{x:aC}(h:o.op=.makeInterface t x){i:TI}(hi:bE T t=aa i)(b:A6 i.desc=ae){c:C}(j:uA t (η x)=aa c):bD P o η σ (.e (.one (.c c))) σ:=by
 refine .quiet λs f hh hr=>?_;have d:=(g t i hi).run_underlying (w:=s.w);refine⟨.iface t (f x),?_,Dm j (hr x),?_⟩
 rotate_left
 .simp only[ak,h,Instr.makeInterface,aK,bO,d,aP,b9,events_underlying];cases a:i.desc<;>rw[a]at b<;>first|(cases b;done)|simp
 simp only[ak,h,Instr.makeInterface,bO,d,b9];cases a:i.desc<;>rw[a]at b<;>first|(cases b;done)|simp
end
def AP(op:BinOp)(k:IntKind)(a:Int)(k':IntKind)(b:Int):Option (Int×List Prop) :=
 match k with
 |.u64=>match op with
  |.shl=>aa (((a.toNat*2 ^ b.toNat % 18446744073709551616:Nat):Int),[0<=b,b<=64])
  |.shr=>aa (((a.toNat / 2 ^ b.toNat:Nat):Int),[0<=b,b<=64])
  |.and=>match k' with|.u64=>aa (((a.toNat &&& b.toNat:Nat):Int),[])|_=>af
  |.xor=>match k' with|.u64=>aa (((a.toNat ^^^ b.toNat:Nat):Int),[])|_=>af
  |_=>af
 |_=>af
section
variable {T:List (Nat×TI)}
theorem bits_nat{a:Int}(h:bw .u64 a):(BitVec.ofInt IntKind.u64.bits a).toNat=a.toNat:=by rw[BitVec.toNat_ofInt];simp only[bw]at h;simp only[IntKind.bits];omega
def FZ{k k':IntKind}{a b c:Int}(t:aw)(f:AP op k a k' b=aa (c,obs))(ho:au obs)(g:bw k a)(l:bw k' b)(w:aA):
  bw k c/\(Go.binOp op t (.int k a) (.int k' b)).run P w=.ok (.int k c) w/\(Go.binOp op t (.int k a) (.int k' b)).events P w #[]=#[]:=by
 unfold AP at f;split at f
 .split at f
  .cases f;obtain⟨o,j⟩:0<=b/\b<=64:=ho;have p:a.toNat*2 ^ b.toNat % 18446744073709551616<18446744073709551616:=jo _ (by decide);simp only[bw]at g;refine⟨by simp only[bw];omega,?_⟩;have h:IntKind.wrap .u64 (a*2 ^ (min b.toNat IntKind.u64.bits))=((a.toNat*2 ^ b.toNat % 18446744073709551616:Nat):Int):=by
    have i:min b.toNat IntKind.u64.bits=b.toNat:=by rw[show IntKind.u64.bits=64 from rfl];omega
    have n:a=(a.toNat:Int):=by omega
    rw[i,n];simp only[IntKind.wrap,IntKind.bits,IntKind.signed,bL];grind
   simp only[Go.binOp,Op.shift,a9 (show¬b<0 by omega),h];exact⟨rfl,rfl⟩
  .cases f;obtain⟨o,j⟩:0<=b/\b<=64:=ho;simp only[bw]at g;have m:a.toNat / 2 ^ b.toNat<=a.toNat:=Nat.div_le_self _ _;refine⟨by simp only[bw];grind,?_⟩;have h:a.fdiv (2 ^ (min b.toNat IntKind.u64.bits))=((a.toNat / 2 ^ b.toNat:Nat):Int):=by
    have i:min b.toNat IntKind.u64.bits=b.toNat:=by rw[show IntKind.u64.bits=64 from rfl];omega
    grind
   simp only[Go.binOp,Op.shift,a9 (show¬b<0 by omega),h];exact⟨rfl,rfl⟩
  .split at f
   .cases f;have j:a.toNat &&& b.toNat<=a.toNat:=Nat.and_le_left;have d:bw .u64 ((a.toNat &&& b.toNat:Nat):Int):=by simp only[bw]at g⊢;omega
    refine⟨d,?_⟩;have e:(BitVec.ofInt IntKind.u64.bits a &&& BitVec.ofInt IntKind.u64.bits b).toNat=a.toNat &&& b.toNat:=by grind[bits_nat]
    simp only[Go.binOp,cR,fa,bM,Op.intBits,e,l0 d];exact⟨rfl,rfl⟩
   grind
  .split at f
   .cases f;have d:bw .u64 ((a.toNat ^^^ b.toNat:Nat):Int):=by simp only[bw]at g l⊢;have:a.toNat ^^^ b.toNat<2 ^ 64:=Nat.xor_lt_two_pow (by omega) (by omega);omega
    refine⟨d,?_⟩;have e:(BitVec.ofInt IntKind.u64.bits a ^^^ BitVec.ofInt IntKind.u64.bits b).toNat=a.toNat ^^^ b.toNat:=by grind[bits_nat]
    simp only[Go.binOp,cR,fa,bM,Op.intBits,e,l0 d];exact⟨rfl,rfl⟩
   grind
  grind
 grind
theorem bD.bits{k k':IntKind}{a b c:Int}(h:o.op=.binOp op t x y ty)(m:η x=.e (.one (.c (.int k a))))(p:η y=.e (.one (.c (.int k' b))))(j:AP op k a k' b=aa (c,obs))(ho:au obs):
  bD P o η σ (.e (.one (.c (.int k c)))) σ:=by
 refine .quiet λs g hh hr=>?_;have h1:=hr x;have h2:=hr y;rw[m]at h1;rw[p]at h2;replace h1:=fH h1;replace h2:=fH h2;generalize f:g x=vx at h1;generalize d:g y=vy at h2;cases h1 with|int ha =>
 cases h2 with|int hb =>
 obtain⟨l,i,n⟩:=FZ (P:=P) t j ho ha hb s.w;exact⟨.int k c,by simp only[ak,h,bO,f,d,gn,b9,i,cT],.int l,by simp[ak,h,f,d,gn,js,i,n]⟩
end
def n8(i:Nat)(ci:List C)(es:Nat->List C):Nat->List C:=λj=>if j=i then ci else es j
def nC(lo hi:Nat)(z:List C)(es:Nat->List C):Nat->List C:=λj=>if lo<=j/\j<hi then z else es j
section
variable {T:List (Nat×TI)}{g:Nat}
def Je(m:aD σ s)(e:σ[l]?=aa (.buf E k n es)){k' f:Nat}(t:gd σ s v (.bp l (.el g k' i f)))(x:g=n):
  ∃b c vs zs,s.β[l]?=aa ⟨.slice (aa ⟨b,0,af⟩) 0 c,[b]⟩/\v=.pointer (aa ⟨b,i*k'+f,af⟩)/\s.w.heap[b]?=aa (.cells (vs++zs).toArray E (0,0))/\(vs++zs).length=c*k/\n<=c/\c<=9223372036854775807/\Flat s.M k n es vs/\∀o,s.M b o=af:=by
 obtain⟨B,⟨b,c,d,z⟩,_,r⟩:=t;obtain⟨L,h,a⟩:=(r _ _ _ _ e).2 x;rw[d]at a;rcases m.box l _ L e h with⟨_,rfl⟩|⟨C,c1,vs,zs,rfl,j,u,A,y,p,q⟩
 .cases a
 .cases a;exact⟨b,c,vs,zs,h,z,j,u,A,y,p,q⟩
def Jf{g:Nat->ai}:∀{ds:List C}{m:Nat},(∀j c,ds[j]?=aa c->Rd s.M (g (m+j)) c)->dZ σ s ((bh ds.length).map λj=>g (m+j)) (ds.map A.c)
 |[],m,_=>trivial
 |d::ds,m,h=>by rw[gb,yS];refine⟨h 0 d rfl,?_⟩;have:=Jf (ds:=ds) (m:=m+1) (λj c a=>by have:=h (j+1) c (by grind);rwa [show m+1+j=m+(j+1) by omega]);grind[Function.comp_def]
theorem bD.Wh(A:c8 P T)(h:o.op=.indexAddr t x y){i ie:TI}(hi:bE T t=aa i)(L:i.desc=.slice E)(I:bE T E=aa ie){q m:Nat}{j:Int}{kk:IntKind}(G:η x=.e (.one (.bp l (.sl g ie.size q m))))(D:η y=.e (.one (.c (.int kk j))))(N:0<=j)(h1:j<m):bD P o η σ (.e (.one (.bp l (.el g ie.size (q+j.toNat) 0)))) σ:=by
 refine .quiet λs C hh hr=>?_;have f:=hr x;rw[G]at f;have h2:=hr y;rw[D]at h2;replace h2:=fH h2;generalize r:C y=vy at h2;cases h2;have d:=f;change gd σ s (C x) (.bp l _)at d;obtain⟨lv,⟨a,a0,cap,J,K,F,H,M,v,u⟩,p,z⟩:=d;obtain⟨b,rfl,rfl⟩:=u (by omega);have B:=(A t i hi).run_underlying (w:=s.w);rw[L]at B;obtain⟨k,rfl⟩:∃k:Nat,j=k:=⟨j.toNat,by omega⟩
 have n:k<m:=by omega
 refine⟨.pointer (aa ⟨b,(q+k)*ie.size,af⟩),?_,⟨lv,⟨b,J,v,by simp⟩,p,z⟩,?_⟩<;>
 simp[ak,h,K,r,Instr.indexAt,asIntOf,B,(A E ie I).run_sizeOf,dm,n,gM]
def bD.PV(p:c8 P T){f:Nat}(h:o.op=.fieldAddr t x f){k q:Nat}{j:TI}(v:η x=.e (.one (.bp l (.el g k i q))))(n:jw T t f=aa (off,j)):bD P o η σ (.e (.one (.bp l (.el g k i (q+off))))) σ:=by refine .quiet λs u hh hr=>?_;have h1:=hr x;rw[v]at h1;have a:=h1;change gd σ s (u x) (.bp l _)at a;obtain⟨lv,⟨b,w,m,r⟩,c,d⟩:=a;exact⟨.pointer (aa ⟨b,i*k+q+off,af⟩),by simp[ak,h,r,l8 p n],⟨lv,⟨b,w,m,by grind⟩,c,d⟩,by simp[ak,h,r,nJ p n]⟩
theorem bD.Wi(h:o.op=.nilCheck x){j q:Nat}(n:η x=.e (.one (.bp l (.el g j i q)))):bD P o η σ (.e (.one (.bp l (.el g j i q)))) σ:=by refine .quiet λs d hh hr=>?_;have h1:=hr x;rw[n]at h1;have c:=h1;have a:=h1;change gd σ s (d x) (.bp l _)at a;obtain⟨lv,⟨b,r,p,f⟩,k,m⟩:=a;exact⟨d x,by simp[ak,h,f],c,by simp[ak,h,f]⟩
theorem bD.Wj(p:c8 P T)(h:o.op=.call {callee:=.builtin .len,args:=#[x],argTypes:=jJ})(j:jJ[0]?=aa t){i:TI}(hi:bE T t=aa i)(y:i.desc=.slice E){v q m:Nat}(r:η x=.e (.one (.bp l (.sl g v q m)))):bD P o η σ (.e (.one (.c (.int .i64 m)))) σ:=by
 refine .quiet λs k hh hr=>?_;have h1:=hr x;rw[r]at h1;have b:=h1;change gd σ s (k x) (.bp l _)at b;obtain⟨lv,⟨a,a0,cap,F,u,C,z,A,D,B⟩,f,n⟩:=b;have d:=(p t i hi).run_underlying (w:=s.w);rw[y]at d;refine⟨.int .i64 m,?_,Rd.int (by simp only[bw];omega),?_⟩<;>
 simp[ak,h,resolve,invoke,builtin,Builtin.len_,u,d,goInt,j]
theorem bD.sliceB(z:c8 P T){lo hi:Option aC}(h:o.op=.slice t x lo hi af){i ie:TI}(k:bE T t=aa i)(I:i.desc=.slice E)(G:bE T E=aa ie){q m:Nat}{d u:Option Int}(C:η x=.e (.one (.bp l (.sl g ie.size q m))))(hl:tT η lo=aa d)(A:tT η hi=aa u)(ho:au (fE m d u)):bD P o η σ (.e (.one (.bp l (.sl g ie.size (q+cq 0 d) (cq m u-cq 0 d))))) σ:=by
 refine .quiet λst ρ hh hr=>?_;have h1:=hr x;rw[C]at h1;have f:=h1;change gd σ st (ρ x) (.bp l _)at f;obtain⟨lv,⟨a,a0,cap,H,B,j,D,p,s,r⟩,n,v⟩:=f;obtain⟨hb,F,J⟩:=nz (P:=P) (isS:=ab) j (iQ hr hl) (iQ hr A) ho st.w;have c:=(z t i k).run_underlying (w:=st.w);rw[I]at c;refine⟨.slice (if cap=cq 0 d then a else a.map (·.add (cq 0 d*ie.size))) (cq m u-cq 0 d) (cap-cq 0 d),?_,⟨lv,⟨_,a0,_,H,rfl,by omega,by omega,p,s,λy=>?_⟩,n,v⟩,by simp[ak,h,B,Instr.sliceAt,c,Instr.slice,hb,pD (P:=P) (isS:=ab) j (iQ hr hl) (iQ hr A) ho st.w]⟩
 .simp[ak,h,B,Instr.sliceAt,c,Instr.slice,hb,(z E ie G).run_sizeOf]
 .obtain⟨b,rfl,rfl⟩:=r (by omega);refine⟨b,rfl,?_⟩;rw[a9 (by omega)];simp[dm,gM]
def bD.SQ(G:c8 P T)(h:o.op=.load t x){f:Nat}{B:TI}{e:E1}(N:η x=.e (.one (.bp l (.el g k i f))))(z:g=n)(hl:σ[l]?=aa (.buf E k n es))(hi:bE T t=aa B)(J:mD B ((gT f (es i)).map A.c)=aa e)(u:i<n):bD P o η σ (.e e) σ:=by
 refine .ny λs R hh hr=>?_;have h1:=hr x;rw[N]at h1;obtain⟨b,S,vs,V,O,H,d,L,Q,K,F,U⟩:=Je hh hl h1 z;have X:=F.width i u;let g:Nat->ai:=λj=>vs.getD (i*k+j) ah;have z:∀j c,(gT f (es i))[j]?=aa c->vs[i*k+(f+j)]?=aa (g (f+j))/\Rd s.M (g (f+j)) c:=by intro j c hj;rw[mW,oy]at hj;obtain⟨v,v1,W⟩:=F.rd i u (f+j) c hj;grind
 have C:=Jf (σ:=σ) (s:=s) (g:=g) (ds:=gT f (es i)) (m:=f) (λj c hj=>(z j c hj).2);have a:∀(j:Nat) (v:ai),((bh (gT f (es i)).length).map λj=>g (f+j))[j]?=aa v->s.w.cell? ⟨b,i*k+f+j,af⟩=aa v:=by
  intro j v hj;simp only[nq]at hj;by_cases r:j<(gT f (es i)).length
  .simp[r]at hj;subst hj;have h2:=(z j _ (bm r)).1;simp only[aV,d];grind
  grind
 obtain⟨v,p,D⟩:=l7 (s:=s) (σ:=σ) (P:=P) (G t B hi) (b:=b) (off:=i*k+f) (e:=e) a C J;refine⟨v,by simp[ak,h,H,Instr.loadAt,Instr.sureAddr,p],D,λI q=>?_⟩;have y:I∈(loadVar t ⟨b,i*k+f,af⟩).events P s.w #[]:=by
  have e:ak R o=(do pure (.value (<-loadVar t ⟨b,i*k+f,af⟩))):=by simp[ak,h,H,Instr.loadAt,Instr.sureAddr]
  rw[e]at q;simpa[p]using q
 obtain⟨j,hj,rfl⟩:=iV (G t B hi) (n:=(gT f (es i)).length) (λj hj=>⟨_,a j (g (f+j)) (by grind)⟩) (by have:=oJ J;grind) I y;exact oF (bH O) (by simp)
def Flat.put{og:List ai}{f:Nat}{cc ci:List C}(h:Flat M k n es vs)(hi:i<n)(s:fe f cc (es i)=aa ci)(hl:og.length=cc.length)(o:∀(j:Nat)(c:C),cc[j]?=aa c->∃v,og[j]?=aa v/\Rd M v c):
  i*k+f+og.length<=vs.length/\Flat M k n (n8 i ci es) (vs.take (i*k+f)++og++vs.drop (i*k+f+og.length)):=by
 obtain⟨h1,h2⟩:=pP s;have x:=h.width i hi;have hb:i*k+k<=n*k:=by have:=eu k (show i+1<=n by omega);grind
 have u:=h.len;have m:i*k+f+og.length<=vs.length:=by omega
 have d:∀p,(vs.take (i*k+f)++og++vs.drop (i*k+f+og.length))[p]?=if p<i*k+f then vs[p]? else if p<i*k+f+og.length then og[p-(i*k+f)]? else vs[p]?:=by
  intro p;have w:(vs.take (i*k+f)).length=i*k+f:=by grind
  by_cases c1:p<i*k+f
  .grind
  .rw[a9 c1];by_cases c2:p<i*k+f+og.length
   .grind
   .rw[a9 c2,fx (by grind),oy];grind
 refine⟨m,⟨by grind,λb a=>?_,λb a j c hj=>?_⟩⟩
 .simp only[n8];split
  .grind
  .exact h.width b a
 .simp only[n8]at hj;rw[d];split at hj
  .rename_i e;subst e;rw[h2]at hj;by_cases c1:j<f
   .rw[jP,jh (by grind),fR,bn c1]at hj;rw[bn (by omega)];exact h.rd b hi j c hj
   .by_cases c2:j<f+cc.length
    .rw[jP,fx (by grind),jh (by grind)]at hj;obtain⟨v,v1,t⟩:=o _ c hj;refine⟨v,?_,t⟩;rw[a9 (by omega),bn (by omega),<-v1];congr 1;grind
    .rw[fx (by grind),oy]at hj;rw[a9 (by omega),a9 (by omega)];refine h.rd b hi j c ?_;grind
  .rename_i e;have r:j<k:=by have:=(b8.1 hj).1;have:=h.width b a;omega
   rcases cA b i with l|q
   .have:(b+1)*k<=i*k:=eu k l;rw[gM,Nat.one_mul]at this;rw[bn (by omega)];exact h.rd b a j c hj
   .have:(i+1)*k<=b*k:=eu k (by omega);rw[gM,Nat.one_mul]at this;rw[a9 (by omega),a9 (by omega)];exact h.rd b a j c hj
def aD.eb(hh:aD σ s)(hl:σ[l]?=aa (.buf E k n es)){e a:List ai}{i:Nat}(y:s.β[l]?=aa ⟨.slice (aa ⟨b,0,af⟩) 0 i,[b]⟩)(x:(vs++e).length=i*k)(q:n<=i)(p:i<=9223372036854775807){es':Nat->List C}(f:s.w.heap[b]?=aa (.cells (vs++e).toArray E (0,0)))(u:Flat s.M k n es' a)(D:a.length=vs.length)(B:∀o,s.M b o=af):
  aD (σ.set l (.buf E k n es')) {s with w:=s.w.setRow b (a++e).toArray}/\Step σ s (σ.set l (.buf E k n es')) {s with w:=s.w.setRow b (a++e).toArray}:=by
 have j:(s.w.setRow b (a++e).toArray).heap[b]?=aa (.cells (a++e).toArray E (0,0)):=setRow_heap s.w b _ _ E _ f;have m:∀c,c≠b->(s.w.setRow b (a++e).toArray).heap[c]?=s.w.heap[c]?:=λc d=>setRow_other s.w b c _ d;have r:s.β.set l ⟨.slice (aa ⟨b,0,af⟩) 0 i,[b]⟩=s.β:=by apply gK;grind
 obtain⟨H,G⟩:=hh.hX (M':=s.M) (w':=s.w.setRow b (a++e).toArray) (B':=.buf E k n es') (L':=⟨.slice (aa ⟨b,0,af⟩) 0 i,[b]⟩) hl y ⟨λ_=>rfl,aZ _⟩ (by simp[World.setRow])
  (λc d F=>m c (by grind)) (λ_ _ _ _=>rfl) (λ_ _ _ h=>h) (λc t v z=>by
   have A:c≠b:=by grind
   have:=hh.mem c t v z;rw[<-this];simp only[aV]
   grind) (λc d=>⟨.inl d,by grind⟩) rfl rfl rfl
  (.inr ⟨b,i,a,e,rfl,j,by grind,q,p,u,B⟩)
 grind
def rE{α:Type}:∀{new l:List α},new.length=l.length->fe 0 new l=aa new
 |[],[],_=>rfl
 |[],_::_,h=>by grind
 |_::_,[],h=>by grind
 |n::ns,c::cs,h=>by simp only[fe,rE (new:=ns) (l:=cs) (by grind)]
def bD.Iq(Q:c8 P T)(h:o.op=.store t x y){f:Nat}{D:TI}{new:List A}{cc ci:List C}(X:η x=.e (.one (.bp l (.el g k i f))))(Z:g=n)(hl:σ[l]?=aa (.buf E k n es))(hi:bE T t=aa D)(W:kI (η y)=aa new)(Y:new.length=D.size)(L:gN new=aa cc)(K:(es i).length=k->fe f cc (es i)=aa ci)(F:i<n):
  bD P o η σ .any (σ.set l (.buf E k n (n8 i ci es))):=by
 intro s c hh hr;have h1:=hr x;rw[X]at h1;obtain⟨b,c0,vs,H,R,S,a,J,M,I,O,V⟩:=Je hh hl h1 Z;have m:=ld W (hr y);have p:=lh L m;have N:=dZ.closed p;have z:(c y).cells.toList.length=cc.length:=by have:=p.length;grind
 replace K:=K (O.width i F);obtain⟨q1,q2⟩:=O.put F K z N;have B:(c y).cells.size=D.size:=by rw[<-Y,<-m.length,iS]
 obtain⟨t1,t2⟩:=hh.eb hl R J M I a q2 (by grind) V;have u:=run_storeCells_at P b (i*k+f) E (c y).cells.toList 0 (vs++H).toArray s.w a (by grind) m.cell;have q:((vs++H).toArray.toList.take (i*k+f+0)++(c y).cells.toList++(vs++H).toArray.toList.drop (i*k+f+0+(c y).cells.toList.length))=vs.take (i*k+f)++(c y).cells.toList++vs.drop (i*k+f+(c y).cells.toList.length)++H:=by grind
 rw[q]at u;refine⟨.skip,_,?_,rfl,t1,t2,?_⟩
 .simp[ak,h,S,Instr.storeAt,Instr.sureAddr,storeVar,(Q t D hi).run_sizeOf,B,u]
 .intro U d;have e:ak c o=(do storeVar t ⟨b,i*k+f,af⟩ (c y);pure .skip):=by simp[ak,h,S,Instr.storeAt,Instr.sureAddr]
  rw[e]at d;have G:U∈(storeCells ⟨b,i*k+f,af⟩ (c y).cells.toList).events P s.w #[]:=by
   simp only[storeVar,aK,(Q t D hi).run_sizeOf,B,aP,events_sizeOf,cR,fa,bM,bO,b9,Sem.events_pure]at d;generalize(storeCells ⟨b,i*k+f,af⟩ (c y).cells.toList).run P s.w=r at d;cases r with
   |ok v w'=>simpa using d
   |halt x w'=>simpa using d
  rcases eh (c y).cells.toList 0 (vs++H).toArray s.w #[] a (by grind) m.cell U G with LH|⟨j,_,_,rfl⟩
  .grind
  .exact kT (bH R) (by simp) (V _)
end
section
def aD.y0(hh:aD σ s)(h:∀o,s.M b o=af)(g:∀o v,vs[o]?=aa v->s.w.cell? ⟨b,o,af⟩=aa v):
  aD (σ.map λ_=>.dead) {s with M:=λa o=>if a=b then vs[o]? else s.M a o}/\∀a o v,s.M a o=aa v->(if a=b then vs[o]? else s.M a o)=aa v:=by
 have c:=hh.kU;refine⟨⟨λa o v d=>?_,c.len,λl B L f i=>?_,c.eU,c.lt,c.own⟩,λa o v d=>?_⟩
 .by_cases e:a=b
  .grind
  .simp only[e,bM]at d;exact c.mem a o v d
 .have:=bH f;simp at this;rw[<-this.2];trivial
 grind
def ey.uN{M':Mem}{es:Array Event}(h:ey {s with M:=M'} es){L:Loc}(i:L∈s.β)(hb:b∈L.bs)(j:∀c o v,s.M c o=aa v->M' c o=aa v)(f:∀c o v,M' c o=aa v->c=b∨s.M c o=aa v):ey s es:=by
 intro e d;have h1:=h e d;unfold oh at h1⊢;split at h1
 .obtain⟨a1,a2,a3⟩:=h1;refine⟨a1,a2,?_⟩;rcases a3 with a3|⟨a3,a4⟩|⟨a3,v,a4⟩
  .grind
  .refine .inr (.inl ⟨a3,λg=>?_⟩);have:=a4 g;rename_i a _;cases hm:s.M a.block a.off with
   |none=>rfl
   |some v=>grind
  grind
 all_goals exact h1
end
def Hz(k:Nat)(f:Nat->Nat->ai):Nat->List C:=λi=>(bh k).map λj=>.val (f i j)
theorem py{f:Nat->Nat->ai}{c:C}(h:(Hz k f i)[j]?=aa c):j<k/\c=.val (f i j):=by
 have a:j<k:=by have:=(b8.1 h).1;simpa[Hz]using this
 simp[Hz,a]at h;grind
def CO{f:Nat->Nat->ai}(h:j<k):(Hz k f i)[j]?=aa (.val (f i j)):=by simp[Hz,h]
def Rd.exact{M:Mem}{v:ai}{t:Bool}{k n:Nat}{es:Nat->List C}(h:Rd M v (.sl t k n es)):
  ∃f:Nat->Nat->ai,Rd M v (.sl t k n (Hz k f))/\(∀i,i<n->(es i).length=k)/\∀i,i<n->∀j c,(es i)[j]?=aa c->Rd M (f i j) c:=by
 cases h with
 |sl b off f a hb ht hk ha hm hr =>
  have d:∀i,i<n->∀j,j<k->∃c,(es i)[j]?=aa c:=λi hi j hj=>⟨_,bm (by grind)⟩
  refine⟨f,.sl b off f a hb ht (λi _=>by simp[Hz]) ha (λi hi j c hj=>?_) (λi hi j c hj=>?_),hk,hr⟩
  .grind [py]
  .obtain⟨h1,rfl⟩:=py hj;obtain⟨e,h2⟩:=d i hi j h1;exact .val (hr i hi j e h2).cell
def zM{L:Loc}{a c:Option Addr}{cap:Nat}(d:σ[l]?=aa (.buf E k n es))(g:s.β[l]?=aa L)(e:L.v=.slice c 0 cap)(i:n<=cap)(f:cap<=9223372036854775807)(j:0<cap->∃b,c=aa ⟨b,0,af⟩/\a=aa ⟨b,0,af⟩):gd σ s (.slice a n cap) (.bp l (.sl n k 0 n)) :=
 ⟨L.v,⟨a,c,cap,cap,rfl,i,by omega,f,e,λh=>by grind⟩,(b8.1 d).1,λm k' n' es' he=>by rw[d]at he;cases he;exact⟨aZ _,λ_=>⟨L,g,rfl⟩⟩⟩
def ri{ie:TI}(h:lr P o x y E ie){m:Nat}{tx:Bool}{es':Nat->List C}{ρ:aC->ai}(p:aD σ s)(h1:gd σ s (ρ x) (.bp l (.sl n ie.size 0 n)))(hl:σ[l]?=aa (.buf E ie.size n es))(U:Rd s.M (ρ y) (.sl tx ie.size m es'))(H:(n+m)*ie.bytes<=140737488355328):
  ∃nx s',(ak ρ o).run P s.w=.ok nx s'.w/\Qd (σ.set l (.buf E ie.size (n+m) (cy n es es'))) s' nx (.e (.one (.bp l (.sl (n+m) ie.size 0 (n+m)))))/\aD (σ.set l (.buf E ie.size (n+m) (cy n es es'))) s'/\Step σ s (σ.set l (.buf E ie.size (n+m) (cy n es es'))) s'/\ey s ((ak ρ o).events P s.w #[]):=by
 obtain⟨t,t2,i,i2,ho,hi,hd,z,r⟩:=h.op;have D:l<σ.length:=(b8.1 hl).1;obtain⟨lv,⟨a,a0,cap,q,hv,I,RR,K,FX,VI⟩,_,U0⟩:=h1;obtain⟨L,hL,Vq⟩:=(U0 _ _ _ _ hl).2 rfl;rw[FX]at Vq;have On:q=cap:=by omega
 subst On;have N:0<q->∃b,a0=aa ⟨b,0,af⟩/\a=aa ⟨b,0,af⟩:=λh=>by grind
 have Q:l<s.β.length:=(b8.1 hL).1;have W:=bH hL;have O:=p.box l _ L hl hL;rw[db ho,hv];have row:0<q->∃b vs zs,a=aa ⟨b,0,af⟩/\L=⟨.slice (aa ⟨b,0,af⟩) 0 q,[b]⟩/\s.w.heap[b]?=aa (.cells (vs++zs).toArray E (0,0))/\(vs++zs).length=q*ie.size/\Flat s.M ie.size n es vs/\∀o,s.M b o=af:=by
  intro G;obtain⟨b,e1,e2⟩:=N G;rcases O with⟨_,rfl⟩|⟨k,c1,vs,zs,rfl,h3,h4,h5,h6,h7,h8⟩
  .grind
  grind
 by_cases h0:m=0
 .subst h0;have g:=iO (P:=P) (ty:=o.type) hi hd z r h.elem p (a:=a) I U;simp only[hI];have ha:cp n es (cy n es es'):=λi hi=>by simp[cy,hi]
  have hLB:eH (σ.set l (.buf E ie.size n (cy n es es'))) ⟨s.β.set l L,s.M,s.w,s.own⟩ (.buf E ie.size n (cy n es es')) L:=by
   rcases O with h3|⟨k,c1,vs,zs,U,h3,h4,h5,h6,h7,h8⟩
   .exact .inl h3
   .exact .inr ⟨k,c1,vs,zs,U,h3,h4,h5,h6,h7.CN ha,h8⟩
  have HE:=p.hX (M':=s.M) (w':=s.w) (B':=.buf E ie.size n (cy n es es')) (L':=L) hl hL ⟨λ_=>rfl,aZ _⟩ (aZ _) (λ_ _ _=>rfl) (λ_ _ _ _=>rfl) (λ_ _ _ h=>h) p.mem
   (λb H=>⟨.inl H,p.lt L W b H⟩) rfl rfl rfl hLB
  refine⟨.value (.slice a n q),_,?_,?_,HE.1,HE.2,ek (jq hi hd z r h.elem p I U)⟩
  .simp[g]
  .exact zM (E:=E) (by rw[fQ D]) (by grind) Vq I K N
 .by_cases f:n+m<=q
  .obtain⟨b,vs,zs,rfl,rfl,hw,F,hF,hM⟩:=row (by omega);obtain⟨d,LG,g⟩:=jT (P:=P) (ty:=o.type) hi hd z r h.elem p hw F U f;have Oo:vs.length=n*ie.size:=hF.len;have RS:d.length=m*ie.size:=LG.len;have XY:n*ie.size+m*ie.size<=q*ie.size:=by rw[<-gM];exact eu _ f
   have V:((vs++zs).take (n*ie.size)++d++(vs++zs).drop (n*ie.size+d.length))=(vs++d)++zs.drop d.length:=by rw[<-Oo];simp[List.drop_append]
   rw[V]at g;have Pu:=setRow_heap s.w b _ ((vs++d)++zs.drop d.length).toArray E _ hw;have CX:∀k,k≠b->(s.w.setRow b ((vs++d)++zs.drop d.length).toArray).heap[k]?=s.w.heap[k]?:=λk J=>setRow_other s.w b k _ J;obtain⟨t1,Y⟩:=p.hX (M':=s.M) (w':=s.w.setRow b ((vs++d)++zs.drop d.length).toArray) (B':=.buf E ie.size (n+m) (cy n es es')) (L':=⟨.slice (aa ⟨b,0,af⟩) 0 q,[b]⟩) hl hL ⟨λ_=>rfl,by omega⟩ (by simp[World.setRow])
    (λk J hn=>CX k (by grind)) (λ_ _ _ _=>rfl) (λ_ _ _ h=>h) (λk o' v hmv=>by
     have AE:k≠b:=by grind
     have:=p.mem k o' v hmv;rw[<-this];simp only[aV]
     grind) (λk J=>⟨.inl J,by grind⟩) rfl rfl rfl
    (.inr ⟨b,q,vs++d,zs.drop d.length,rfl,Pu,by grind,f,K,hF.append LG,hM⟩)
   refine⟨.value (.slice (aa ⟨b,0,af⟩) (n+m) q),_,?_,?_,t1,Y,ek (lu hi hd z r h.elem p hw F U f W (by simp) (λo _=>hM o))⟩
   .simp[g]
   .exact zM (E:=E) (by rw[fQ D]) (by simp only;rw[fQ Q]) rfl f K λ_=>⟨b,rfl,rfl⟩
  .have hg:q<n+m:=by omega
   obtain⟨f2,h2x,WC,r7⟩:=U.exact;have fY:∃(M':Mem) (f0:Nat->Nat->ai),aD (σ.map λ_=>.dead) {s with M:=M'}/\(∀k o v,s.M k o=aa v->M' k o=aa v)/\Rd M' (.slice a n q) (.sl ae ie.size n (Hz ie.size f0))/\(∀{es},ey {s with M:=M'} es->ey s es) /\
     (∀i,i<n->(es i).length=ie.size)/\∀i,i<n->∀j c,(es i)[j]?=aa c->Rd s.M (f0 i j) c:=by
    by_cases G:0<q
    .obtain⟨b,vs,zs,rfl,rfl,hw,F,hF,hM⟩:=row G;obtain⟨c1,c2⟩:=p.y0 (b:=b) (vs:=vs) hM (λo v ho=>by
      simp only[aV,hw]
      grind)
     have R:∀i,i<n->∀j c,(es i)[j]?=aa c->vs[i*ie.size+j]?=aa (vs.getD (i*ie.size+j) ah)/\Rd s.M (vs.getD (i*ie.size+j) ah) c:=by intro i hi j c A;obtain⟨v,v1,v2⟩:=hF.rd i hi j c A;grind
     have RU:∀i,i<n->∀j,j<ie.size->∃c,(es i)[j]?=aa c:=λi hi j A=>⟨_,bm (by rw[hF.width i hi];exact A)⟩
     refine⟨_,λi j=>vs.getD (i*ie.size+j) ah,c1,c2,.sl b 0 (λi j=>vs.getD (i*ie.size+j) ah) I K (by simp) (λi _=>by simp[Hz]) (λ_=>rfl) (λi hi j c A=>?_) (λi hi j c A=>?_),λhe=>?_,hF.width,λi hi j c A=>(R i hi j c A).2⟩
     .obtain⟨e1,_⟩:=py A;grind
     .obtain⟨e1,rfl⟩:=py A;obtain⟨c',e2⟩:=RU i hi j e1;exact .val (R i hi j c' e2).2.cell
     .exact he.uN (b:=b) W (by simp) c2 λk o v hv=>by grind
    .have e1:q=0:=by omega
     have e2:n=0:=by omega
     subst e1 e2;have u:=p.kU;exact⟨s.M,λ_ _=>ah,⟨u.mem,u.len,u.box,u.eU,u.lt,u.own⟩,λ_ _ _ h=>h,Rd.jr,λh=>h,λi hi=>by omega,λi hi=>by omega⟩
   obtain⟨M',f0,c1,c2,hR,U5,ZO,hr0⟩:=fY;have VU:Rd ({s with M:=M'}:St).M (ρ y) (.sl tx ie.size m (Hz ie.size f2)):=h2x.mono c2;obtain⟨S,zs,B,X,U3,U4,hlen,g⟩:=ia (P:=P) (s:={s with M:=M'}) (ty:=o.type) hi hd z r h.elem c1 hR VU hg H h.bytes;have LU:=iJ (P:=P) (s:={s with M:=M'}) (ty:=o.type) hi hd z r h.elem c1 hR VU hg H h.bytes;have hFs:Flat s.M ie.size (n+m) (cy n es es') S:=by
    refine⟨X.len,λi hi=>?_,λi hi j c A=>?_⟩
    .by_cases e:i<n
     .simp only[cy,e,b5];grind
     .simp only[cy,e,bM];grind
    .by_cases e:i<n
     .simp only[cy,e,b5]at A;have Z:j<ie.size:=by grind
      obtain⟨v,v1,v2⟩:=X.rd i hi j (.val (f0 i j)) (by simp only[cy,e,b5];exact CO Z);grind[Rd.fj]
     .simp only[cy,e,bM]at A;have Z:j<ie.size:=by grind
      obtain⟨v,v1,v2⟩:=X.rd i hi j (.val (f2 (i-n) j)) (by simp only[cy,e,bM];exact CO Z);grind[Rd.fj]
   have nM:∀o,s.M s.w.heap.size o=af:=λo=>by
    cases hm:s.M s.w.heap.size o with
    |none=>rfl
    |some v=>have:=p.block hm;omega
   obtain⟨t1,Y⟩:=p.hX (M':=s.M) (w':=s.w.drew.alloc (.cells (S++zs).toArray E)) (B':=.buf E ie.size (n+m) (cy n es es')) (L':=⟨.slice (aa ⟨s.w.heap.size,0,af⟩) 0 B,[s.w.heap.size]⟩) hl hL
    ⟨λe=>absurd e (by omega),by omega⟩ (by simp) (λb H _=>cM s.w.drew _ H) (λ_ _ _ _=>rfl) (λ_ _ _ h=>h) (λb o v hm=>by
     have tM:=p.block hm;rw[<-p.mem b o v hm];simp only[aV];rw[cM s.w.drew _ tM];rfl) (λb H=>by simp at H;subst H;exact⟨.inr (aZ _),by simp⟩) rfl rfl rfl (.inr ⟨s.w.heap.size,B,S,zs,rfl,dF s.w.drew _,hlen,U3,U4,hFs,nM⟩)
   refine⟨.value (.slice (aa ⟨s.w.heap.size,0,af⟩) (n+m) B),_,?_,?_,t1,Y,ek (U5 LU)⟩
   .simp only at g;simp[g]
   .exact zM (E:=E) (by rw[fQ D]) (by simp only;rw[fQ Q]) rfl U3 U4 λ_=>⟨_,rfl,rfl⟩
def bD.Mt{ie:TI}(h:lr P o x y E ie){a:Nat}{tx:Bool}{es':Nat->List C}(b:η x=.e (.one (.bp l (.sl n ie.size 0 n))))(hl:σ[l]?=aa (.buf E ie.size n es))(c:∀s v,dk σ s v (η y)->Rd s.M v (.sl tx ie.size a es'))(hb:(n+a)*ie.bytes<=140737488355328):
  bD P o η σ (.e (.one (.bp l (.sl (n+a) ie.size 0 (n+a))))) (σ.set l (.buf E ie.size (n+a) (cy n es es'))) :=
 λs d hh hr=>ri h hh (by have:=hr x;rw[b]at this;exact this) hl (c s _ (hr y)) hb
section
variable {T:List (Nat×TI)}
def bD.Wk(f:c8 P T)(h:o.op=.call {callee:=.builtin .len,args:=#[x],argTypes:=jJ})(d:jJ[0]?=aa t){i:TI}(hi:bE T t=aa i)(k:i.desc=.slice E){a:Option Addr}{cap:Nat}(g:η x=.e (.one (.c (.val (.slice a n cap)))))(m:n<=9223372036854775807):bD P o η σ (.e (.one (.c (.int .i64 n)))) σ:=by
 refine .quiet λs l hh hr=>?_;have h1:=hr x;rw[g]at h1;have j:=Rd.fj (fH h1);have b:=(f t i hi).run_underlying (w:=s.w);rw[k]at b;refine⟨.int .i64 n,?_,Rd.int (by simp only[bw];omega),?_⟩<;>
 simp[ak,h,resolve,invoke,builtin,Builtin.len_,j,b,goInt,d]
theorem bD.A8(l:c8 P T)(h:o.op=.indexAddr t x y){i ie:TI}(hi:bE T t=aa i)(r:i.desc=.slice E)(v:bE T E=aa ie){cap:Nat}{j:Int}{kk:IntKind}(p:η x=.e (.one (.c (.val (.slice (aa ⟨b,off,af⟩) n cap)))))(u:η y=.e (.one (.c (.int kk j))))(z:0<=j)(h1:j<n):bD P o η σ (.e (.one (.c (.val (.pointer (aa ⟨b,off+j.toNat*ie.size,af⟩)))))) σ:=by
 refine .quiet λs m hh hr=>?_;have a:=hr x;rw[p]at a;have q:=Rd.fj (fH a);have h2:=hr y;rw[u]at h2;replace h2:=fH h2;generalize g:m y=vy at h2;cases h2;have k:=(l t i hi).run_underlying (w:=s.w);rw[r]at k;obtain⟨d,rfl⟩:∃d:Nat,j=d:=⟨j.toNat,by omega⟩
 have f:d<n:=by omega
 refine⟨.pointer (aa ⟨b,off+d*ie.size,af⟩),?_,Rd.val rfl,?_⟩<;>
 simp[ak,h,q,g,Instr.indexAt,asIntOf,k,(l E ie v).run_sizeOf,dm,f]
def bD.PW(d:c8 P T){f:Nat}(h:o.op=.fieldAddr t x f){j:TI}(i:η x=.e (.one (.c (.val (.pointer (aa ⟨b,off,af⟩))))))(a:jw T t f=aa (k,j)):bD P o η σ (.e (.one (.c (.val (.pointer (aa ⟨b,off+k,af⟩)))))) σ:=by refine .quiet λs l hh hr=>?_;have h1:=hr x;rw[i]at h1;have g:=Rd.fj (fH h1);exact⟨.pointer (aa ⟨b,off+k,af⟩),by simp[ak,h,g,l8 d a],Rd.val rfl,by simp[ak,h,g,nJ d a]⟩
def bD.slice3(G:c8 P T){z:aC}(h:o.op=.slice t x af (aa y) (aa z)){i ie:TI}(B:bE T t=aa i)(O:i.desc=.slice E)(L:bE T E=aa ie){tt:Bool}{r q:IntKind}{j m:Int}(J:∀s v,dk σ s v (η x)->Rd s.M v (.sl tt k n es))(I:η y=.e (.one (.c (.int r j))))(S:η z=.e (.one (.c (.int q m))))(C:0<=j)(h1:j<=m)(h2:m<=n):bD P o η σ (.e (.one (.c (.sl ae k j.toNat es)))) σ:=by
 refine .quiet λst ρ hh hr=>?_;have p:=J st _ (hr x);have g:=hr y;rw[I]at g;replace g:=fH g;generalize u:ρ y=vy at g;cases g;have d:=hr z;rw[S]at d;replace d:=fH d;generalize A:ρ z=vz at d;cases d;obtain⟨a,cap,vs,D,H,Q,V,U,hm⟩:=p.flat;rw[D]at p;have l:=(G t i B).run_underlying (w:=st.w);rw[O]at l;have em:((m.toNat:Nat):Int)=m:=yY (by omega);have hb:(bg ab n cap af (aa (.int r j)) (aa (.int q m))).run P st.w=.ok (0,j.toNat,m.toNat) st.w:=by simp[bg,run_sliceBound (P:=P) st.w q m cap _ (by omega) (by omega),run_sliceBound (P:=P) st.w r j m.toNat _ C (by omega)]
 have R:(bg ab n cap af (aa (.int r j)) (aa (.int q m))).events P st.w #[]=#[]:=by simp[bg,run_sliceBound (P:=P) st.w q m cap _ (by omega) (by omega),run_sliceBound (P:=P) st.w r j m.toNat _ C (by omega),dW (P:=P) st.w q m cap _ (by omega) (by omega),dW (P:=P) st.w r j m.toNat _ C (by omega)]
 refine⟨.slice a j.toNat m.toNat,?_,?_,by simp[ak,h,D,u,A,Instr.sliceAt,l,Instr.slice,hb,R]⟩
 .simp[ak,h,D,u,A,Instr.sliceAt,l,Instr.slice,hb,(G E ie L).run_sizeOf];intro _;rcases a with _|⟨b,off,sp⟩<;>simp[Addr.add]
 .cases p with
  |sl b off f _ _ _ N K hm' LI =>
   exact Rd.sl b off f (by omega) (by omega) (by simp) (λi hi=>N i (by omega)) (λF=>K (by omega)) (λi hi j c hj=>hm' i (by omega) j c hj) (λi hi j c hj=>LI i (by omega) j c hj)
end
def Flat.HL{q m:Nat}{yZ:Nat->List C}{og:List ai}(h:Flat M k n es vs)(b:Flat M k m yZ og)(f:q+m<=n):
  Flat M k n (λi=>if q<=i/\i<q+m then yZ (i-q)else es i) (vs.take (q*k)++og++vs.drop (q*k+og.length)):=by
 have hl:=h.len;have g:=b.len;have hb:q*k+m*k<=n*k:=by rw[<-gM];exact eu k f
 have l:(vs.take (q*k)).length=q*k:=by grind
 have a:∀p,(vs.take (q*k)++og++vs.drop (q*k+og.length))[p]?=if p<q*k then vs[p]? else if p<q*k+m*k then og[p-q*k]? else vs[p]?:=by
  intro p;by_cases c1:p<q*k
  .grind
  .rw[a9 c1];by_cases c2:p<q*k+m*k
   .grind
   .rw[a9 c2,fx (by grind),oy];grind
 refine⟨by grind,λi hi=>?_,λi hi j c hj=>?_⟩
 .by_cases e:q<=i/\i<q+m
  .rw[bn e];exact b.width _ (by omega)
  .rw[a9 e];exact h.width i hi
 .rw[a];by_cases e:q<=i/\i<q+m
  .rw[bn e]at hj;have d:j<k:=by have:=(b8.1 hj).1;rw[b.width _ (by omega)]at this;exact this
   have e1:q*k<=i*k:=eu k e.1;have e2:i*k+k<=q*k+m*k:=by rw[<-gM,<-kH];exact eu k e.2
   rw[a9 (by omega),bn (by omega)];obtain⟨v,v1,o⟩:=b.rd (i-q) (by omega) j c hj;grind[Nat.sub_mul]
  .rw[a9 e]at hj;have d:j<k:=by have:=(b8.1 hj).1;rw[h.width i hi]at this;exact this
   have:i*k+j<q*k∨q*k+m*k<=i*k+j:=by
    by_cases c1:i<q
    .left;have:i*k+k<=q*k:=by rw[<-kH];exact eu k c1
     omega
    .right;have:(q+m)*k<=i*k:=eu k (by omega);grind
   rcases this with c1|c1
   .rw[bn c1];exact h.rd i hi j _ hj
   .rw[a9 (by omega),a9 (by omega)];exact h.rd i hi j _ hj
def uq{E k':Nat}{c:Nat->List C}{β:List Loc}(f:Rd s.M v (.sl ab k' 0 c))(e:σ'[l]?=aa (.buf E k 0 es))(d:β[l]?=aa ⟨.slice af 0 0,[]⟩):gd σ' {s with β:=β} v (.bp l (.sl 0 k 0 0)):=by obtain⟨a,cap,vs,g,_,_,b,_,_⟩:=f.flat;have:=b rfl;subst this;refine⟨.slice af 0 0,⟨a,af,0,0,g,by omega,rfl,by omega,rfl,λh=>absurd h (by omega)⟩,(b8.1 e).1,λE2 k2 n2 yZ h=>?_⟩;rw[e]at h;cases h;exact⟨aZ _,λ_=>⟨_,d,rfl⟩⟩
def ey.Sj{β:List Loc}{es:Array Event}(h:ey {s with β:=β++[⟨v,[]⟩]} es)(c:s.β=β):ey s es:=by
 intro e a;have h1:=h e a;have key:∀b,(∃L∈β++[(⟨v,[]⟩:Loc)],b∈L.bs)->∃L∈s.β,b∈L.bs:=λb ⟨L,d,hb⟩=>by grind
 unfold oh at h1⊢;grind
def bD.FW{ie:TI}(h:lr P o x y E ie){m:Nat}{tx:Bool}{es':Nat->List C}(p:η x=.e (.one (.c (.sl ab k 0 es))))(t:∀s v,dk σ s v (η y)->Rd s.M v (.sl tx ie.size m es'))(hb:(0+m)*ie.bytes<=140737488355328):
  bD P o η σ (.e (.one (.bp σ.length (.sl (0+m) ie.size 0 (0+m))))) (σ++[.buf E ie.size (0+m) (cy 0 es es')]):=by
 intro s j hh hr;have h1:=hr x;rw[p]at h1;have h2:=t s _ (hr y);obtain⟨q,g2⟩:=hh.gx (B:=.buf E ie.size 0 es) (L:=⟨.slice af 0 0,[]⟩) (.refl _ _) rfl hh (.inl ⟨rfl,rfl⟩) (by simp);have b:gd (σ++[.buf E ie.size 0 es]) {s with β:=s.β++[⟨.slice af 0 0,[]⟩]} (j x) (.bp σ.length (.sl 0 ie.size 0 0)):=uq (E:=E) (es:=es) (fH h1) (by simp) (by simp[<-hh.len]);obtain⟨n,s',i,g,f,d,r⟩:=ri (P:=P) (σ:=σ++[.buf E ie.size 0 es]) (s:={s with β:=s.β++[⟨.slice af 0 0,[]⟩]}) (l:=σ.length) (es:=es) h q b (by simp) h2 hb;have a:(σ++[bd.buf E ie.size 0 es]).set σ.length (.buf E ie.size (0+m) (cy 0 es es'))=σ++[.buf E ie.size (0+m) (cy 0 es es')]:=by simp
 rw[a]at g f d;exact⟨n,s',i,g,f,g2.trans d,r.Sj rfl⟩
def AJ(i j m:Nat)(es:Nat->List C):Nat->List C:=λq=>if i<=q/\q<i+m then es (j+(q-i))else es q
def bD.HM{ie:TI}(h:lr P o x y E ie){m:Nat}(hx:η x=.e (.one (.bp l (.sl n ie.size 0 i))))(hy:η y=.e (.one (.bp l (.sl n ie.size j m))))(hl:σ[l]?=aa (.buf E ie.size n es))(XV:i+m<=n)(Zl:j+m<=n):
  bD P o η σ (.e (.one (.bp l (.sl n ie.size 0 (i+m))))) (σ.set l (.buf E ie.size n (AJ i j m es))):=by
 intro s ρ hh hr;obtain⟨t,t2,ti,ti2,ho,hi,hd,V,J⟩:=h.op;have h1:=hr x;rw[hx]at h1;change gd σ s (ρ x) (.bp l _)at h1;have h2:=hr y;rw[hy]at h2;change gd σ s (ρ y) (.bp l _)at h2;obtain⟨lv,⟨a,a0,cap,C,hv,S,RR,VH,FX,VI⟩,_,U0⟩:=h1;obtain⟨L,X,N⟩:=(U0 _ _ _ _ hl).2 rfl;rw[FX]at N;obtain⟨lv',⟨a',a0',f,c0',U1,VJ,Zm,Zn,VK,Zo⟩,_,VL⟩:=h2;obtain⟨L',Y,F⟩:=(VL _ _ _ _ hl).2 rfl;rw[X]at Y;cases Y;rw[VK,N]at F;cases F;have Zp:=bH X;have hu:=hi.run_underlying (w:=s.w);have R:=V.run_underlying (w:=s.w);rw[hd]at hu;rw[J]at R;rw[db ho,hv,U1];by_cases Zq:n=0
 .have e1:i=0:=by omega
  have e2:m=0:=by omega
  subst Zq e1 e2;have Z:σ.set l (.buf E ie.size 0 (AJ 0 j 0 es))=σ:=by
   have:AJ 0 j 0 es=es:=by funext q;simp only[AJ];grind
   rw[this];apply gK;grind
  have hz:Rd s.M (.slice a' 0 f) (.sl ae ie.size 0 λ_=>[]):=.sl 0 0 (λ_ _=>ah) (by omega) (by omega) (by simp) (λi hi=>by omega) (λh=>by omega) (λi hi=>by omega) (λi hi=>by omega);have H:=iO (P:=P) (ty:=o.type) hi hd V J h.elem hh (a:=a) S hz;rw[Z];refine⟨.value (.slice a 0 cap),s,?_,?_,hh,.refl _ _,ek (jq hi hd V J h.elem hh S hz)⟩
  .simp[H]
  .exact⟨lv,⟨a,a0,cap,C,rfl,S,RR,VH,FX,VI⟩,(b8.1 hl).1,U0⟩
 rcases hh.box l _ L hl X with⟨e,_⟩|⟨b,c1,vs,W,rfl,g,Zr,Zs,Zt,K,hM⟩
 .grind
 cases N;have U:0<cap:=by omega
 obtain⟨b1,e1,rfl⟩:=VI U;cases e1;have On:C=cap:=by omega
 subst On;rw[show b=b from rfl];have Oo:vs.length=n*ie.size:=K.len;have k:i+m<=C:=by omega
 have hik:i*ie.size+m*ie.size<=n*ie.size:=by rw[<-gM];exact eu _ XV
 have Zu:j*ie.size+m*ie.size<=n*ie.size:=by rw[<-gM];exact eu _ Zl
 obtain⟨c1,c2⟩:=hh.y0 (b:=b) (vs:=vs) hM (λq v I=>by
  simp only[aV,g]
  grind)
 let d:=(vs.drop (j*ie.size)).take (m*ie.size);have RS:d.length=m*ie.size:=by grind
 have Zv:∀p,p<m*ie.size->d[p]?=vs[j*ie.size+p]?:=λp B=>by grind
 have LG:Flat s.M ie.size m (λq=>es (j+q)) d:=by
  refine⟨RS,λq I=>K.width _ (by omega),λq I p c B=>?_⟩;have hpk:p<ie.size:=by have:=(b8.1 B).1;rw[K.width _ (by omega)]at this;exact this
  obtain⟨v,v1,v2⟩:=K.rd (j+q) (by omega) p c B;refine⟨v,?_,v2⟩;have Zw:q*ie.size+ie.size<=m*ie.size:=by rw[<-kH];exact eu _ I
  grind
 have r:∀v∈d,v.oneCell'=ab:=LG.cell;have U2:Rd (λu q=>if u=b then vs[q]? else s.M u q) (.slice a' m f) (.sl ae ie.size m (Hz ie.size λq p=>vs.getD ((j+q)*ie.size+p) ah)):=by
  refine .sl b (j*ie.size) (λq p=>vs.getD ((j+q)*ie.size+p) ah) VJ (by omega) (by simp) (λq _=>by simp[Hz]) (λB=>?_) (λq I p c B=>?_) (λq I p c B=>?_)
  .grind
  .obtain⟨p1,_⟩:=py B;have Zw:q*ie.size+ie.size<=m*ie.size:=by rw[<-kH];exact eu _ I
   grind
  .obtain⟨p1,rfl⟩:=py B;obtain⟨c',VM⟩:∃c',(es (j+q))[p]?=aa c':=⟨_,bm (by rw[K.width _ (by omega)];exact p1)⟩
   obtain⟨v,v1,v2⟩:=K.rd (j+q) (by omega) p c' VM;have e:vs.getD ((j+q)*ie.size+p) ah=v:=by grind
   rw[e];exact .val v2.cell
 obtain⟨z,Sk,hf,G⟩:=dT (P:=P) (s:={s with M:=λu q=>if u=b then vs[q]? else s.M u q}) c1 U2;have Zx:z=d:=by
  apply gK;intro p;have CG:z.length=m*ie.size:=Sk.len;by_cases B:p<m*ie.size
  .have hk:0<ie.size:=by grind
   have I:p / ie.size<m:=pn (by grind);have Sl:p / ie.size*ie.size+p % ie.size=p:=pr p ie.size;obtain⟨v,v1,v2⟩:=Sk.rd _ I (p % ie.size) _ (CO (jo _ hk));rw[Sl]at v1;rw[v1,Zv p B,Rd.fj v2];rw[gM,Nat.add_assoc,Sl,aj,bm (by omega)];rfl
  grind
 subst Zx;have LU:=gH (P:=P) (s:={s with M:=λu q=>if u=b then vs[q]? else s.M u q}) c1 U2 (w:=s.w) rfl;replace hf:(Builtin.firstCells ie.size m (.slice a' m f)).run P s.w=.ok d.toArray s.w:=hf;have Zy:i*ie.size+d.length<=(vs++W).length:=by grind
 have D:=run_storeCells_at P b (i*ie.size) E d 0 (vs++W).toArray s.w g (by grind) r;simp only[hI]at D;have Pk:((vs++W).toArray.toList.take (i*ie.size)++d++(vs++W).toArray.toList.drop (i*ie.size+d.length))=vs.take (i*ie.size)++d++vs.drop (i*ie.size+d.length)++W:=by grind
 rw[Pk]at D;have q2:=K.HL LG XV;have he:(λq=>if i<=q/\q<i+m then(λq=>es (j+q)) (q-i)else es q)=AJ i j m es:=rfl;rw[he]at q2;obtain⟨t1,Zz⟩:=hh.eb hl X Zr Zs Zt g q2 (by grind) hM;have A:(Builtin.lenOf (.slice a' m f)).run P s.w=.ok m s.w:=by rw[G];rfl
 have Q:(Builtin.lenOf (.slice a' m f)).events P s.w #[]=#[]:=by rw[G];rfl
 refine⟨.value (.slice (aa ⟨b,0*ie.size,af⟩) (i+m) C),_,?_,?_,t1,Zz,ek ?_⟩
 .have H:(Builtin.append_ #[t,t2] o.type #[.slice (aa ⟨b,0*ie.size,af⟩) i C,.slice a' m f]).run P s.w=.ok (.slice (aa ⟨b,0*ie.size,af⟩) (i+m) C) (s.w.setRow b (vs.take (i*ie.size)++d++vs.drop (i*ie.size+d.length)++W).toArray):=by unfold Builtin.append_;simp only[g8,kC,nj,bO,hu,R,b9,h.elem.run_sizeOf,cT,gJ,bM,A,k,b5,kR,hf,dm,Nat.zero_mul,br,D]
  grind[Go.Sem.run_bind,Go.Result.andThen_ok,Go.Sem.run_pure]
 .exact⟨.slice (aa ⟨b,0,af⟩) 0 C,⟨_,_,C,C,rfl,k,by omega,VH,rfl,λ_=>⟨b,rfl,rfl⟩⟩,by grind,λE2 k2 n2 yZ Oq=>by rw[fQ (b8.1 hl).1]at Oq;cases Oq;exact⟨aZ _,λ_=>⟨_,X,rfl⟩⟩⟩
 .intro e O;unfold Builtin.append_ at O;simp only[g8,kC,nj,aK,bO,hu,R,aP,h.elem.run_sizeOf,cT,gJ,bM,A,Q,k,b5,kR,hf,dm,Nat.zero_mul,br,D,
   rf,Sem.events_ite,events_underlying,events_sizeOf,Sem.events_pure]at O
  rcases eh d 0 (vs++W).toArray s.w _ g (by grind) r e O with h3|⟨p,_,_,rfl⟩
  .have h4:ey {s with M:=λu q=>if u=b then vs[q]? else s.M u q} #[e]:=ey.one (sd (LU e h3))
   exact h4.uN (b:=b) Zp (by simp) c2 (λu q v hv=>by grind) e (by simp)
  grind[kT]
section
variable {T:List (Nat×TI)}
theorem bD.slice3B(G:c8 P T){w z:aC}(h:o.op=.slice t x (aa w) (aa y) (aa z)){F ie:TI}(D:bE T t=aa F)(N:F.desc=.slice E)(M:bE T E=aa ie){g q:Nat}{v u s:IntKind}{i j m:Int}(K:η x=.e (.one (.bp l (.sl g k q n))))(V:η w=.e (.one (.c (.int v i))))(I:η y=.e (.one (.c (.int u j))))(U:η z=.e (.one (.c (.int s m))))(X:0<=i)(h1:i<=j)(h2:j<=m)(W:m<=n):bD P o η σ (.e (.one .any)) σ:=by
 refine .quiet λst ρ hh hr=>?_;have r:=hr x;rw[K]at r;change gd σ st (ρ x) (.bp l _)at r;obtain⟨lv,⟨a,a0,cap,Y,H,J,L,O,R,Q⟩,_,_⟩:=r;have f:=hr w;rw[V]at f;replace f:=fH f;generalize A:ρ w=vw at f;cases f;have d:=hr y;rw[I]at d;replace d:=fH d;generalize B:ρ y=vy at d;cases d;have b:=hr z;rw[U]at b;replace b:=fH b;generalize C:ρ z=vz at b;cases b;have p:=(G t F D).run_underlying (w:=st.w);rw[N]at p;have hb:(bg ab n cap (aa (.int v i)) (aa (.int u j)) (aa (.int s m))).run P st.w=.ok (i.toNat,j.toNat,m.toNat) st.w:=by simp[bg,run_sliceBound (P:=P) st.w s m cap _ (by omega) (by omega),run_sliceBound (P:=P) st.w u j m.toNat _ (by omega) (by omega),run_sliceBound (P:=P) st.w v i j.toNat _ (by omega) (by omega)]
 have S:(bg ab n cap (aa (.int v i)) (aa (.int u j)) (aa (.int s m))).events P st.w #[]=#[]:=by
  simp[bg,run_sliceBound (P:=P) st.w s m cap _ (by omega) (by omega),run_sliceBound (P:=P) st.w u j m.toNat _ (by omega) (by omega),run_sliceBound (P:=P) st.w v i j.toNat _ (by omega) (by omega),
   dW (P:=P) st.w s m cap _ (by omega) (by omega),dW (P:=P) st.w u j m.toNat _ (by omega) (by omega),dW (P:=P) st.w v i j.toNat _ (by omega) (by omega)]
 refine⟨.slice (if m.toNat=i.toNat then a else a.map (·.add (i.toNat*ie.size))) (j.toNat-i.toNat) (m.toNat-i.toNat),?_,rfl,by simp[ak,h,H,A,B,C,Instr.sliceAt,p,Instr.slice,hb,S]⟩;simp[ak,h,H,A,B,C,Instr.sliceAt,p,Instr.slice,hb,(G E ie M).run_sizeOf]
end
section drop
variable {σ1 rest:List bd}
def St.cut(s:St)(n:Nat):St:={s with β:=s.β.take n}
def gd.drop{a:A}(r:gd (σ1++rest) s v a)(d:F2 σ1.length a=ab):gd σ1 (s.cut σ1.length) v a:=by
 have lt:∀{l:Nat},bu (l+1) σ1.length=ab->l<σ1.length:=λh=>dJ h;cases a with
 |c x=>exact r
 |any=>exact r
 |ptr l o =>
  have hl:=lt d;obtain⟨g,L,b,p,f⟩:=r;refine⟨λB j=>g B (by grind),L,b,?_,f⟩;simp only[St.cut,fR,hl,b5];exact p
 |ref l =>
  have hl:=lt d;obtain⟨g,L,p,f⟩:=r;refine⟨λB j=>g B (by grind),L,?_,f⟩;simp only[St.cut,fR,hl,b5];exact p
 |bp l w =>
  have hl:=lt d;obtain⟨lv,g,_,f⟩:=r;refine⟨lv,g,hl,λE k' n' es' j=>?_⟩;obtain⟨h1,h2⟩:=f E k' n' es' (by grind);refine⟨h1,λe=>?_⟩;obtain⟨L,i,m⟩:=h2 e;refine⟨L,?_,m⟩;simp only[St.cut,fR,hl,b5];exact i
 |vec l k n es =>
  have hl:=lt d;obtain⟨g,_,f⟩:=r;refine⟨g,hl,λE k' n' es' j=>?_⟩;obtain⟨h1,h2⟩:=f E k' n' es' (by grind);refine⟨h1,λe=>?_⟩;obtain⟨L,i,m⟩:=h2 e;refine⟨L,?_,m⟩;simp only[St.cut,fR,hl,b5];exact i
def dZ.xk:∀{vs:List ai}{cs:List A},dZ (σ1++rest) s vs cs->EG σ1.length cs=ab->dZ σ1 (s.cut σ1.length) vs cs
 |[],[],_,_=>trivial
 |[],_::_,r,_=>r.elim
 |_::_,[],r,_=>r.elim
 |v::vs,c::cs,r,h=>by
  simp only[EG]at h;cases a:F2 σ1.length c with
  |false=>grind
  |true=>simp only[a]at h;exact⟨r.1.drop a,dZ.xk r.2 h⟩
def nh.xk{v:ai}{e:E1}(r:nh (σ1++rest) s v e)(h:HW σ1.length e=ab):nh σ1 (s.cut σ1.length) v e:=by
 cases e with
 |one a=>exact gd.drop r h
 |agg cs=>obtain⟨vs,h1,h2⟩:=r;exact⟨vs,h1,dZ.xk h2 h⟩
def gC.xk:∀{vs:List ai}{cs:List E1},gC (σ1++rest) s vs cs->xf σ1.length cs=ab->gC σ1 (s.cut σ1.length) vs cs
 |[],[],_,_=>trivial
 |[],_::_,r,_=>r.elim
 |_::_,[],r,_=>r.elim
 |v::vs,c::cs,r,h=>by
  simp only[xf]at h;cases a:HW σ1.length c with
  |false=>grind
  |true=>simp only[a]at h;exact⟨nh.xk r.1 a,gC.xk r.2 h⟩
def dk.drop{d:D}(r:dk (σ1++rest) s v d)(h:uV σ1.length d=ab):dk σ1 (s.cut σ1.length) v d:=by
 cases d with
 |e x=>exact nh.xk r h
 |fw xs=>obtain⟨vs,h1,h2⟩:=r;exact⟨vs,h1,gC.xk h2 h⟩
 |any=>trivial
def cN.drop{σ0:List bd}{s0:St}(st:cN σ0 s0 (σ1++rest) s)(a:σ0.length<=σ1.length):cN σ0 s0 σ1 (s.cut σ1.length):=by refine⟨st.size,st.keep,st.mem,st.iI,λL c b hb=>st.ur L (ji c) b hb,?_,st.os,st.tape,st.output,st.own⟩;intro l B L d c;obtain⟨B',L',h1,h2,e⟩:=st.box l B L d c;have hl:l<σ1.length:=cx (b8.1 d).1 a;rw[jh hl]at h1;exact⟨B',L',h1,by simp only[St.cut,fR,hl,b5];exact h2,e⟩
def gd.rA{a:A}(hl:s.β.length=σ.length)(r:gd σ s v a):F2 σ.length a=ab:=by
 have ok:∀{l:Nat},l<σ.length->bu (l+1) σ.length=ab:=λh=>qO h;have lt:∀{l:Nat} {L:Loc},s.β[l]?=aa L->l<σ.length:=λh=>by grind
 cases a with
 |c x=>rfl
 |any=>rfl
 |ptr l o=>obtain⟨_,L,b,d,_⟩:=r;exact ok (lt d)
 |ref l=>obtain⟨_,L,d,_⟩:=r;exact ok (lt d)
 |bp l w=>obtain⟨lv,_,h,_⟩:=r;exact ok h
 |vec l k n es=>exact ok r.2.1
def dZ.rA{σ:List bd}(hl:s.β.length=σ.length):∀{vs:List ai}{cs:List A},dZ σ s vs cs->EG σ.length cs=ab
 |[],[],_=>rfl
 |[],_::_,r=>r.elim
 |_::_,[],r=>r.elim
 |v::vs,c::cs,r=>by simp only[EG,r.1.rA hl];exact dZ.rA hl r.2
def nh.rA{σ:List bd}(hl:s.β.length=σ.length){v:ai}{e:E1}(r:nh σ s v e):HW σ.length e=ab:=by
 cases e with
 |one a=>exact gd.rA hl r
 |agg cs=>obtain⟨vs,_,h⟩:=r;exact dZ.rA hl h
def gC.rA{σ:List bd}(hl:s.β.length=σ.length):∀{vs:List ai}{cs:List E1},gC σ s vs cs->xf σ.length cs=ab
 |[],[],_=>rfl
 |[],_::_,r=>r.elim
 |_::_,[],r=>r.elim
 |v::vs,c::cs,r=>by simp only[xf,nh.rA hl r.1];exact gC.rA hl r.2
def dk.rA{σ:List bd}(hl:s.β.length=σ.length){v:ai}{d:D}(r:dk σ s v d):uV σ.length d=ab:=by
 cases d with
 |e x=>exact nh.rA hl r
 |fw xs=>obtain⟨vs,_,h⟩:=r;exact gC.rA hl h
 |any=>rfl
def PI(n:Nat)(σ0:List bd)(l:Nat)(B:bd):Prop:=(∃E cs,B=.cells E cs/\EG n cs=ab)∨σ0[l]?=aa B∨(∃N φ r r',B=.loop N φ r/\σ0[l]?=aa (.loop N φ r'))∨((∀E cs,B≠.cells E cs)/\∀N φ r,B≠.loop N φ r)
def aD.SI{s0:St}{σ0:List bd}(i:aD σ0 s0)(a:σ0.length=σ1.length)(v:∀(l:Nat)(B:bd),σ1[l]?=aa B->PI σ1.length σ0 l B)(h:aD (σ1++rest) s):aD σ1 (s.cut σ1.length):=by
 have hl:σ1.length<=s.β.length:=by rw[h.len];simp
 refine⟨h.mem,by simp[St.cut,hl],?_,?_,?_,λb hb=>⟨(h.own b hb).1,λL d=>(h.own b hb).2 L (ji d)⟩⟩
 .intro l B L u d;have j:l<σ1.length:=(b8.1 u).1;simp only[St.cut,fR,j,b5]at d;have c:=h.box l B L (by grind) d;have f:∃m,s0.β[l]?=aa m:=⟨_,bm (by rw[i.len,a];exact j)⟩
  obtain⟨m,f⟩:=f;have w:=i.len.trans a;cases B with
  |cells E cs =>
   obtain⟨b,vs,h1,h2,o,p⟩:=c;refine⟨b,vs,h1,h2,dZ.xk o ?_,p⟩;rcases v l _ u with⟨_,_,e,q⟩|q|⟨_,_,_,_,e,_⟩|q
   .grind
   .obtain⟨_,_,_,_,y,_⟩:=i.box l _ m q f;exact a▸y.rA i.len
   .cases e
   grind
  |vec E k n es=>exact c
  |cf H=>exact c
  |dead=>trivial
  |loop N φ r =>
   obtain⟨l',tmps,fn,A,h1,h2,o,p,z⟩:=c;have key:∃r',σ0[l]?=aa (.loop N φ r'):=by
    rcases v l _ u with⟨_,_,e,_⟩|q|⟨_,_,_,r',e,q⟩|q
    .cases e
    .grind
    .grind
    grind
   obtain⟨r',q⟩:=key;obtain⟨_,_,_,_,_,_,_,x,_⟩:=i.box l _ m q f;exact⟨l',tmps,fn,A,h1,h2,o,λt=>(p t).drop (a▸(x t).rA i.len),z⟩
  |qp=>exact c
  |buf E k n es=>exact c
 .intro l l' L L' d g b hb nZ;simp only[St.cut,fR]at d g;split at d<;>split at g<;>first|exact h.eU l l' L L' d g b hb nZ|grind|grind
 .intro L d b hb;exact h.lt L (ji d) b hb
def aD.SJ{s0:St}(a:aD σ1 s0)(h:aD (σ1++rest) s):aD σ1 (s.cut σ1.length):=a.SI rfl (λ_ _ h=>.inr (.inl h)) h
def OA.SK{X:Cx P}(h:OA X N all o φ σ (.e (.one (.vec σ.length k n es))) (σ++[.vec E k n es])):OA X N all o φ σ (.e (.one (.c (.sl ae k n es)))) σ:=by
 intro s a f hh b kk cs S i rest hb hi hK;refine h s a f hh b kk cs S i rest hb hi λv s' hv jf st=>?_;have g:eK s' (s'.cut σ.length):=⟨rfl,λ_ _ _ h=>h,λ_ _ _=>rfl,jf.mem,λb hb=>hb.imp id λ⟨L,d,hb⟩=>⟨L,ji d,hb⟩⟩
 exact .ghost g (hK v (s'.cut σ.length) hv.1 (hh.SJ jf) (st.drop (aZ _)))
end drop
end Go.AM
