/- Part 1. No condition. -/
import Derived.Tactics2
import Derived.LaidSub
import Derived.LaidLaws
import Derived.LaidHandle
import Derived.Conc.Own
import Derived.Conc.Events
import Derived.Conc.Listed
import Derived.Laws.CopyRow
import Derived.Laws.AppendOwn
import Derived.Laws.Rows
import Derived.Laws.Strings
import Derived.Laws.Cells
import Derived.Lib.Strings
import Derived.Laws.Slices
import Derived.Laws.StructEq
import Derived.Orders
set_option linter.all false
set_option maxHeartbeats 8000000
open Go.Conc (G)
open Go renaming Value → ah, Program → ar, TypeId → aj, Oper → au, Operand → aq, undef → ai, execOp → aw, World → aA, Goroutine → av, stepG → aH, Frame → aU, FuncId → aJ
open Option renaming some → aa, none → af
open Bool renaming true → ab, false → ae
open Go.World renaming cell? → aV
open List renaming getD_eq_getElem?_getD → ak, range → bh
open Go.Sem renaming events_bind → aM
open Go.Result renaming evThen_ok → aP
open Go.Instr renaming sliceBounds → bd, sureAddr → bq
open Go.Region renaming wanted → bg, ready → ba
open Nat renaming beq → aB, ble → bA
open Go.Op renaming equalIn → aZ, bytesLess → bm
namespace Go
section
set_option linter.defProp false
set_option linter.deprecated false
def ay:=@_root_.trivial
def br:=@_root_.List.getElem?_eq_getElem
def a9:=@_root_.decide_eq_true_eq
def aE:=@_root_.and_true
def bS:=@_root_.decide_eq_false_iff_not
def aG:=@_root_.true_and
def bP:=@_root_.List.mem_of_getElem?
def b6:=@_root_.List.getElem?_eq_some_iff
def bX:=@_root_.Nat.eq_of_beq_eq_true
def cf:=@_root_.Int.toNat_natCast
def bc:=@_root_.Nat.le_refl
def bR:=@_root_.Bool.and_eq_true
def b5:=@_root_.Go.Result.andThen_ok
def bF:=@_root_.Nat.zero_add
def db:=@_root_.Nat.le_of_ble_eq_true
def dZ:=@_root_.Array.getD_eq_getD_getElem?
def cX:=@_root_.List.length_append
def bT:=@_root_.Go.Sem.run_bind
def c7:=@_root_.Nat.lt_of_lt_of_le
def dG:=@_root_.List.getElem_of_mem
def aY:=@_root_.if_neg
def dw:=@_root_.Option.some.injEq
def dq:=@_root_.List.take_length
def dc:=@_root_.decide_eq_true
def bl:=@_root_.if_pos
def eP:=@_root_.Nat.mul_le_mul_right
def cM:=@_root_.Nat.lt_or_ge
def gk:=@_root_.List.getElem?_append_right
def eD:=@_root_.beq_eq_false_iff_ne
def gm:=@_root_.Array.getElem?_eq_getElem
def gn:=@_root_.List.getElem?_set_self
def fM:=@_root_.List.mem_of_mem_take
def iA:=@_root_.Array.getElem?_eq_some_iff
def jv:=@_root_.List.eq_nil_of_length_eq_zero
def dx:=@_root_.Go.Sem.run_pure
def ft:=@_root_.not_true_eq_false
def ck:=@_root_.if_false
def fN:=@_root_.List.mem_singleton
def fb:=@_root_.List.length_cons
def ig:=@_root_.List.length_singleton
def jw:=@_root_.List.pairwise_iff_getElem
def jy:=@_root_.List.getElem?_append_left
def eB:=@_root_.List.mem_cons
def fx:=@_root_.List.mem_append
def iB:=@_root_.List.getElem?_toArray
def cq:=@_root_.if_true
def fX:=@_root_.Nat.not_lt_zero
def jz:=@_root_.List.take_append_drop
def kB:=@_root_.List.getElem?_cons_zero
def gG:=@_root_.List.length_nil
def fO:=@_root_.Bool.true_and
def iX:=@_root_.List.getElem?_take
def ij:=@_root_.Option.getD_some
def jA:=@_root_.Array.length_toList
def iY:=@_root_.List.ext_getElem?
def jB:=@_root_.List.pairwise_cons
def kC:=@_root_.List.getElem?_set_ne
def iC:=@_root_.decide_eq_false
def iD:=@_root_.List.append_nil
def jP:=@_root_.Bool.false_eq_true
def dJ:=@_root_.congrArg
def ni:=@_root_.Array.getElem?_replicate
def jQ:=@_root_.Bool.not_eq_true'
def gH:=@_root_.List.mem_map
def ru:=@_root_.List.findIdx?_eq_some_iff_getElem
def jR:=@_root_.beq_self_eq_true
def jC:=@_root_.List.foldl_cons
def lB:=@_root_.List.mem_cons_self
def jS:=@_root_.List.mem_filter
def jT:=@_root_.List.length_map
def jU:=@_root_.Bool.or_eq_true
def oh:=@_root_.List.getElem?_cons_succ
def lC:=@_root_.List.take_add_one
def gp:=@_root_.beq_iff_eq
def iE:=@_root_.Nat.add_zero
def jD:=@_root_.Bool.not_true
def iZ:=@_root_.Nat.le_trans
def ja:=@_root_.Nat.beq_refl
def l8:=@_root_.List.append_assoc
def wo:=@_root_.Array.getElem?_setIfInBounds_self_of_lt
def nj:=@_root_.Nat.eq_zero_or_pos
def iF:=@_root_.Nat.add_mul
def oi:=@_root_.List.mem_iff_getElem
def rv:=@_root_.Array.mapM_eq_mapM_toList
def nk:=@_root_.List.getElem?_map
def ry:=@_root_.Option.isSome_iff_exists
def pq:=@_root_.List.mem_cons_of_mem
def pr:=@_root_.Array.toArray_toList
def om:=@_root_.not_false_eq_true
def oo:=@_root_.bne_self_eq_false
def rz:=@_root_.Option.map_eq_some_iff
def wq:=@_root_.Array.getElem?_setIfInBounds_ne
def dy:=@_root_.ne_eq
def oq:=@_root_.Option.bind_some
def pt:=@_root_.List.getElem?_drop
def l9:=@_root_.Prod.mk.injEq
def lD:=@_root_.Nat.succ_mul
def kD:=@_root_.Nat.zero_le
def rA:=@_root_.List.mem_of_mem_drop
def pv:=@_root_.of_decide_eq_true
def lS:=@_root_.Option.map_some
def iS:=@_root_.Nat.mod_lt
def lT:=@_root_.List.mapM_cons
def qc:=@_root_.Bool.and_eq_false_iff
def r8:=@_root_.List.mem_of_find?_eq_some
def mL:=@_root_.List.nil_append
def jV:=@_root_.decide_true
def kS:=@_root_.decide_false
def qd:=@_root_.Nat.div_lt_of_lt_mul
def qf:=@_root_.List.pairwise_append
def qg:=@_root_.Bool.or_eq_false_iff
def qh:=@_root_.List.map_congr_left
def ot:=@_root_.List.not_mem_nil
def mM:=@_root_.List.mem_range
def ou:=@_root_.Bool.not_eq_true
def lU:=@_root_.Nat.sub_zero
def qi:=@_root_.Nat.add_sub_cancel
def qj:=@_root_.List.find?_eq_none
def qk:=@_root_.Int.emod_lt_of_pos
def ql:=@_root_.Bool.not_eq_false'
def ov:=@_root_.UInt8.toNat_inj
def r9:=@_root_.Nat.ble_eq_true_of_le
def sd:=@_root_.List.getElem?_eq_none
def ow:=@_root_.Bool.not_false
def qm:=@_root_.Nat.div_add_mod'
def qn:=@_root_.List.mem_flatMap
def qp:=@_root_.List.drop_length
def vB:=@_root_.List.drop_eq_getElem_cons
def se:=@_root_.Int.toNat_of_nonneg
def vC:=@_root_.Nat.lt_succ_iff_lt_or_eq
def qq:=@_root_.Int.emod_nonneg
def qt:=@_root_.Bool.eq_iff_iff
def lV:=@_root_.bne_iff_ne
def vD:=@_root_.Nat.le_mul_of_pos_right
def vE:=@_root_.List.range_succ_eq_map
def sh:=@_root_.List.flatMap_cons
def vF:=@_root_.List.drop_eq_nil_of_le
def vG:=@_root_.Array.mem_of_getElem?
def mN:=@_root_.Nat.not_lt
def si:=@_root_.List.length_drop
def sj:=@_root_.List.getElem_mem
def zV:=@_root_.List.find?_eq_some_iff_getElem
def sk:=@_root_.List.ext_getElem
def sq:=@_root_.List.cons_append
def qu:=@_root_.List.map_cons
def sr:=@_root_.Option.some.inj
def vH:=@_root_.Nat.mul_le_mul_left
def ss:=@_root_.Bool.false_and
def zW:=@_root_.List.findIdx?_eq_none_iff
def mO:=@_root_.or_false
def zX:=@_root_.Nat.add_sub_cancel_left
def zY:=@_root_.Array.getElem?_eq_none
def zZ:=@_root_.Array.getElem?_toList
def z0:=@_root_.List.getElem?_of_mem
def z8:=@_root_.Nat.add_sub_cancel'
def z9:=@_root_.List.filter_eq_self
def su:=@_root_.Go.Sem.run_ite
end
end Go
namespace Go.AM
inductive C where
  | int (k:IntKind) (n:Int)
  | bool (b:Bool)
  | str (s:List UInt8)
  | sl (tight:Bool) (k n:Nat) (es:Nat->List C)
  | rp (cs:List C)
  | fz
  | ifs (t:aj) (c:C)
  | Gw (t:aj) (cs:List C)
  | iI
  | fn (f:Fn) (first cap:List C)
  | yw
  | val (x:ah)
inductive BP where
  | sl (g k o n:Nat)
  | el (g k i f:Nat)
def BP.g:BP->Nat
  | .sl g _ _ _=>g
  | .el g _ _ _=>g
def BP.K:BP->ah->ah->Prop
  | .sl _ k o n,lv,v=>∃a a0 cap c0,v=.slice a n cap/\n<=cap/\o+cap=c0/\c0<=9223372036854775807/\lv=.slice a0 0 c0/\(0<cap->∃b,a0=aa ⟨b,0,af⟩/\a=aa ⟨b,o*k,af⟩)
  | .el _ k i f,lv,v=>∃b c0,lv=.slice (aa ⟨b,0,af⟩) 0 c0/\v=.pointer (aa ⟨b,i*k+f,af⟩)
inductive A where
  | c (x:C)
  | ptr (l off:Nat)
  | vec (l k n:Nat) (es:Nat->List C)
  | ref (l:Nat)
  | bp (l:Nat) (w:BP)
  | any
abbrev A.v(x:ah):A:=.c (.val x)
inductive E1 where
  | one (a:A)
  | agg (cs:List A)
inductive D where
  | e (x:E1)
  | fa (xs:List E1)
  | any
abbrev Fr:=List (Nat×D)
def look:Fr->Nat->D
  | [],_=>.any
  | (i,d)::r,t=>cond (aB i t) d (look r t)
inductive aR where
  | cells (E:aj) (cs:List A)
  | vec (E:aj) (k n:Nat) (es:Nat->List C)
  | cm (H:ah->(Nat->Option Obj)->Prop)
  | dead
  | loop (N:Nat) (φ:Fr) (r:Loop)
  | qY
  | buf (E:aj) (k n:Nat) (es:Nat->List C)
@[simp] def aR.gr:aR->Bool
  | .vec _ _ _ _=>ab
  | .buf _ _ _ _=>ab
  | _=>ae
structure Loc where
  v:ah
  bs:List Nat
abbrev Mem:=Nat->Nat->Option ah
structure St where
  β:List Loc
  M:Mem
  w:aA
  own:Nat->Prop
def bD:IntKind->Int->Prop
  | .i8,n=>-128<=n/\n<=127
  | .i16,n=>-32768<=n/\n<=32767
  | .i32,n=>-2147483648<=n/\n<=2147483647
  | .i64,n=>-9223372036854775808<=n/\n<=9223372036854775807
  | .u8,n=>0<=n/\n<=255
  | .u16,n=>0<=n/\n<=65535
  | .u32,n=>0<=n/\n<=4294967295
  | .u64,n=>0<=n/\n<=18446744073709551615
def cN:ah->Bool
  | .agg _|.tuple _=>ae
  | _=>ab
def BP.K.cell{w:BP}{lv v:ah}(h:w.K lv v):cN v=ab:=by
  cases w with
  | sl=>obtain⟨_,_,_,_,rfl,_⟩:=h;rfl
  | el=>obtain⟨_,_,_,rfl⟩:=h;rfl
inductive Rd (M:Mem):ah->C->Prop
  | int {k:IntKind} {n:Int} (h:bD k n):Rd M (.int k n) (.int k n)
  | bool {b:Bool}:Rd M (.bool b) (.bool b)
  | str {s:ByteArray} {l:List UInt8} (h:s.data.toList=l) (hl:l.length<=9223372036854775807):Rd M (.string s) (.str l)
  | sl {a:Option Addr} {n cap:Nat} {tight:Bool} {k:Nat} {es:Nat->List C} (b off:Nat) (f:Nat->Nat->ah)
      (HQ:n<=cap) (hb:cap<=9223372036854775807) (ht:tight=ab->cap=n) (hk:∀i,i<n->(es i).length=k)
      (ha:0<n->a=aa ⟨b,off,af⟩)
      (hm:∀i,i<n->∀j c,(es i)[j]?=aa c->M b (off+i*k+j)=aa (f i j))
      (hr:∀i,i<n->∀j c,(es i)[j]?=aa c->Rd M (f i j) c):Rd M (.slice a n cap) (.sl tight k n es)
  | rp {cs:List C} (b off:Nat) (f:Nat->ah)
      (hm:∀j c,cs[j]?=aa c->M b (off+j)=aa (f j))
      (hr:∀j c,cs[j]?=aa c->Rd M (f j) c):Rd M (.pointer (aa ⟨b,off,af⟩)) (.rp cs)
  | fz:Rd M (.pointer af) .fz
  | ifs {t:aj} {v:ah} {c:C} (h:Rd M v c) (hc:cN v=ab):Rd M (.iface t v) (.ifs t c)
  | Gw {t:aj} {vs:List ah} {cs:List C} (hl:vs.length=cs.length)
      (f:Nat->ah) (hf:∀j,j<vs.length->vs[j]?=aa (f j)) (hr:∀j c,cs[j]?=aa c->Rd M (f j) c):Rd M (.iface t (.agg vs.toArray)) (.Gw t cs)
  | iI:Rd M .nilIface .iI
  | fn {g:Fn} {first cap:List C} (fs cs:List ah) (hl:fs.length=first.length) (Ed:cs.length=cap.length) (f1 f2:Nat->ah)
      (h1:∀j,j<fs.length->fs[j]?=aa (f1 j)) (h2:∀j,j<cs.length->cs[j]?=aa (f2 j))
      (r1:∀j c,first[j]?=aa c->Rd M (f1 j) c) (r2:∀j c,cap[j]?=aa c->Rd M (f2 j) c):Rd M (.func g fs.toArray cs.toArray) (.fn g first cap)
  | yw:Rd M .nilFunc .yw
  | val {x:ah} (h:cN x=ab):Rd M x (.val x)
theorem Rd.en{M:Mem}{v x:ah}(h:Rd M v (.val x)):v=x:=by cases h;rfl
def Rd.cell{M:Mem}{v:ah}{c:C}(h:Rd M v c):cN v=ab:=by cases h<;>first|rfl|assumption
def Rd.mono{M M':Mem}(d:∀b o v,M b o=aa v->M' b o=aa v){v:ah}{c:C}(h:Rd M v c):Rd M' v c:=by
  induction h with
  | int h=>exact .int h
  | bool=>exact .bool
  | str h hl=>exact .str h hl
  | sl b off f a k e hk ha hm hr ih =>
    exact .sl b off f a k e hk ha (λi hi j c hj=>d _ _ _ (hm i hi j c hj)) (λi hi j c hj=>ih i hi j c hj)
  | rp b off f hm hr ih=>exact .rp b off f (λj c hj=>d _ _ _ (hm j c hj)) (λj c hj=>ih j c hj)
  | fz=>exact .fz
  | ifs h l ih=>exact .ifs ih l
  | Gw hl f g hr ih=>exact .Gw hl f g (λj c hj=>ih j c hj)
  | iI=>exact .iI
  | fn fs cs hl Ed f1 f2 h1 h2 r1 r2 ih1 ih2=>exact .fn fs cs hl Ed f1 f2 h1 h2 (λj c hj=>ih1 j c hj) (λj c hj=>ih2 j c hj)
  | yw=>exact .yw
  | val h=>exact .val h
def gB(σ:List aR)(s:St)(v:ah):A->Prop
  | .c x=>Rd s.M v x
  | .ptr l off=>(∀B,σ[l]?=aa B->B.gr=ae)/\∃L b,s.β[l]?=aa L/\L.v=.pointer (aa ⟨b,0,af⟩)/\v=.pointer (aa ⟨b,off,af⟩)
  | .vec l k n es=>Rd s.M v (.sl ae k n es)/\l<σ.length/\∀E k' n' es',σ[l]?=aa (aR.vec E k' n' es')->n<=n'/\(n'=n->∃L,s.β[l]?=aa L/\v=L.v)
  | .ref l=>(∀B,σ[l]?=aa B->B.gr=ae)/\∃L,s.β[l]?=aa L/\v=L.v/\cN v=ab
  | .bp l w=>∃a,w.K a v/\l<σ.length/\∀E k n es,σ[l]?=aa (aR.buf E k n es)->w.g<=n/\(w.g=n->∃L,s.β[l]?=aa L/\L.v=a)
  | .any=>cN v=ab
def ei(σ:List aR)(s:St):List ah->List A->Prop
  | [],[]=>True
  | v::vs,a::al=>gB σ s v a/\ei σ s vs al
  | _,_=>False
def nC(σ:List aR)(s:St)(v:ah):E1->Prop
  | .one a=>gB σ s v a
  | .agg cs=>∃vs:List ah,v=.agg vs.toArray/\ei σ s vs cs
def hY(σ:List aR)(s:St):List ah->List E1->Prop
  | [],[]=>True
  | v::vs,a::al=>nC σ s v a/\hY σ s vs al
  | _,_=>False
def dt(σ:List aR)(s:St)(v:ah):D->Prop
  | .e x=>nC σ s v x
  | .fa xs=>∃vs:List ah,v=.tuple vs.toArray/\hY σ s vs xs
  | .any=>True
def cp(σ:List aR)(s:St):List ah->List D->Prop
  | [],[]=>True
  | v::vs,a::al=>dt σ s v a/\cp σ s vs al
  | _,_=>False
structure Flat(M:Mem)(k n:Nat)(es:Nat->List C)(vs:List ah):Prop where
  len:vs.length=n*k
  width:∀i,i<n->(es i).length=k
  rd:∀i,i<n->∀(j:Nat) (c:C),(es i)[j]?=aa c->∃v,vs[i*k+j]?=aa v/\Rd M v c
def Flat.mono{M M':Mem}(a:∀b o v,M b o=aa v->M' b o=aa v){k n:Nat}{es:Nat->List C}{vs:List ah}(h:Flat M k n es vs):Flat M' k n es vs :=
  ⟨h.len,h.width,λi hi j c hj=>let ⟨v,h1,h2⟩:=h.rd i hi j c hj;⟨v,h1,h2.mono a⟩⟩
def eE(σ:List aR)(s:St):aR->Loc->Prop
  | .cells E cs,L=>∃b vs,L=⟨.pointer (aa ⟨b,0,af⟩),[b]⟩/\s.w.heap[b]?=aa (.cells (List.toArray vs) E (0,0))/\ei σ s vs cs/\∀o,s.M b o=af
  | .vec E k n es,L=>Rd s.M L.v (.sl ae k n es) /\
      (((L.bs=[]/\n=0)/\Rd s.M L.v (.sl ab k n es)) ∨
       ∃b cap vs,L=⟨.slice (aa ⟨b,0,af⟩) n cap,[b]⟩/\s.w.heap[b]?=aa (.cells (List.toArray vs) E (0,0))/\vs.length=cap*k/\∀o,n*k<=o->s.M b o=af)
  | .cm H,L=>∃c,H L.v c/\(∀(b:Nat) (o:Obj),c b=aa o->s.w.heap[b]?=aa o)/\(∀b,b∈L.bs↔(c b).isSome=ab)/\∀b∈L.bs,∀o,s.M b o=af
  | .dead,_=>True
  | .loop N φ r,L=>∃l tmps fn df,L=⟨.func (.yield l) #[] #[],[l]⟩/\s.w.heap[l]?=aa (.loop {r with tmps:=tmps,fn:=fn,defers:=df})/\tmps.size=N/\(∀t,dt σ s (tmps.getD t ai) (look φ t))/\∀o,s.M l o=af
  | .qY,L=>∃r:Nat,L=⟨.int .i64 r,[r]⟩/\s.w.heap[r]?=aa (.deferred (aa []))/\∀o,s.M r o=af
  | .buf E k n es,L=>(n=0/\L=⟨.slice af 0 0,[]⟩)∨∃b a vs zs,L=⟨.slice (aa ⟨b,0,af⟩) 0 a,[b]⟩/\s.w.heap[b]?=aa (.cells (List.toArray (vs++zs)) E (0,0))/\(vs++zs).length=a*k/\n<=a/\a<=9223372036854775807/\Flat s.M k n es vs/\∀o,s.M b o=af
structure aF(σ:List aR)(s:St):Prop where
  mem:∀b o v,s.M b o=aa v->s.w.cell? ⟨b,o,af⟩=aa v
  len:s.β.length=σ.length
  box:∀(l:Nat) (B:aR) (L:Loc),σ[l]?=aa B->s.β[l]?=aa L->eE σ s B L
  eO:∀(l l':Nat) (L L':Loc),s.β[l]?=aa L->s.β[l']?=aa L'->∀b∈L.bs,b∈L'.bs->l=l'
  lt:∀L∈s.β,∀b∈L.bs,b<s.w.heap.size
  own:∀b,s.own b->b<s.w.heap.size/\∀L∈s.β,b∉L.bs
def gI:aR->Loc->aR->Loc->Prop
  | .vec _ _ n _,L,.vec _ _ a _,L'=>(a=n->L'.v=L.v)/\n<=a
  | .vec _ _ _ _,_,.dead,_=>True
  | .vec _ _ _ _,_,_,_=>False
  | .buf _ _ n _,L,.buf _ _ a _,L'=>(a=n->L'.v=L.v)/\n<=a
  | .buf _ _ _ _,_,.dead,_=>True
  | .buf _ _ _ _,_,_,_=>False
  | _,_,.vec _ _ _ _,_=>False
  | _,_,.buf _ _ _ _,_=>False
  | .dead,L,.dead,L'=>L'.v=L.v
  | .dead,_,_,_=>False
  | .qY,L,.qY,L'=>L'.v=L.v
  | .qY,_,_,_=>False
  | _,_,.qY,_=>False
  | _,L,_,L'=>L'.v=L.v
structure Ext(σ:List aR)(s:St)(σ':List aR)(s':St):Prop where
  mem:∀b o v,s.M b o=aa v->s'.M b o=aa v
  box:∀(l:Nat) (B:aR) (L:Loc),σ[l]?=aa B->s.β[l]?=aa L->∃B' L',σ'[l]?=aa B'/\s'.β[l]?=aa L'/\gI B L B' L'
structure Step(σ:List aR)(s:St)(σ':List aR)(s':St):Prop where
  size:s.w.heap.size<=s'.w.heap.size
  fy:∀b,b<s.w.heap.size->(∀L∈s.β,b∉L.bs)->s'.w.heap[b]?=s.w.heap[b]?
  mem:∀b o v,s.M b o=aa v->s'.M b o=aa v
  je:∀b,b<s.w.heap.size->(∀L∈s.β,b∉L.bs)->∀o,s'.M b o=s.M b o
  vK:∀L'∈s'.β,∀b∈L'.bs,s.w.heap.size<=b∨∃L∈s.β,b∈L.bs
  box:∀(l:Nat) (B:aR) (L:Loc),σ[l]?=aa B->s.β[l]?=aa L->∃B' L',σ'[l]?=aa B'/\s'.β[l]?=aa L'/\gI B L B' L'
  os:s'.w.os=s.w.os
  tape:s'.w.tape=s.w.tape
  output:s'.w.output=s.w.output
  own:s'.own=s.own
structure cY(σ:List aR)(s:St)(σ':List aR)(s':St):Prop where
  size:s.w.heap.size<=s'.w.heap.size
  fy:∀b,s.own b->s'.w.heap[b]?=s.w.heap[b]?
  mem:∀b o v,s.M b o=aa v->s'.M b o=aa v
  je:∀b,b<s.w.heap.size->(∀L∈s.β,b∉L.bs)->∀o,s'.M b o=s.M b o
  vK:∀L'∈s'.β,∀b∈L'.bs,s.w.heap.size<=b∨∃L∈s.β,b∈L.bs
  box:∀(l:Nat) (B:aR) (L:Loc),σ[l]?=aa B->s.β[l]?=aa L->∃B' L',σ'[l]?=aa B'/\s'.β[l]?=aa L'/\gI B L B' L'
  os:s'.w.os=s.w.os
  tape:s'.w.tape=s.w.tape
  output:s'.w.output=s.w.output
  own:s'.own=s.own
structure cv(s s':St):Prop where
  β:s'.β=s.β
  M:s'.M=s.M
  own:s'.own=s.own
  size:s.w.heap.size<=s'.w.heap.size
  fy:∀b,(s.own b∨∃L∈s.β,b∈L.bs)->s'.w.heap[b]?=s.w.heap[b]?
  mem:∀b o v,s.M b o=aa v->s'.w.cell? ⟨b,o,af⟩=aa v
  os:s'.w.os=s.w.os
  tape:s'.w.tape=s.w.tape
  output:s'.w.output=s.w.output
def ox(s:St)(e:Event):Prop :=
  match e.loc with
  | .cell a=>e.sync=ae/\a.spot=af/\(False∨((∃L∈s.β,a.block∈L.bs)/\(e.write=ab->s.M a.block a.off=af))∨(e.write=ae/\∃v,s.M a.block a.off=aa v))
  | .obj r=>e.sync=ae/\(False∨∃L∈s.β,r∈L.bs)
  | .mark m=>m=.noRoom∨∃f,m=.extern f
  | _=>False
def fg(s:St)(es:Array Event):Prop:=∀e∈es,ox s e
def fg.nil{s:St}:fg s #[]:=by intro e h;grind
def gI.refl(B:aR)(L:Loc):gI B L B L:=by cases B<;>simp[gI]
def gI.trans{B B' Yi:aR}{L L' L'':Loc}(h:gI B L B' L')(a:gI B' L' Yi L''):gI B L Yi L'':=by
  cases B<;>cases B'<;>cases Yi<;>simp_all[gI]
  all_goals
    grind
def Step.refl(σ:List aR)(s:St):Step σ s σ s :=
  ⟨bc _,λ_ _ _=>rfl,λ_ _ _ h=>h,λ_ _ _ _=>rfl,λL h b a=>.inr ⟨L,h,a⟩,λ_ B L h c=>⟨B,L,h,c,.refl _ _⟩,rfl,rfl,rfl,rfl⟩
def Step.trans{σ σ1 σ2:List aR}{s f s2:St}(h:Step σ s σ1 f)(k:Step σ1 f σ2 s2):Step σ s σ2 s2:=by
  have out:∀b,b<s.w.heap.size->(∀L∈s.β,b∉L.bs)->∀L∈f.β,b∉L.bs:=by
    intro b a c L d e;rcases h.vK L d b e with h1|⟨x,i,p⟩
    · omega
    grind
  refine⟨iZ h.size k.size,?_,λb o v g=>k.mem _ _ _ (h.mem _ _ _ g),?_,?_,?_,k.os.trans h.os,k.tape.trans h.tape,k.output.trans h.output,k.own.trans h.own⟩
  · intro b a c
    rw[k.fy b (c7 a h.size) (out b a c),h.fy b a c]
  · intro b a c o
    rw[k.je b (c7 a h.size) (out b a c),h.je b a c]
  · intro L d b a
    rcases k.vK L d b a with h1|⟨L1,q,m⟩
    · exact .inl (iZ h.size h1)
    grind
  · intro l B L hB d
    obtain⟨B1,L1,h1,h2,r⟩:=h.box l B L hB d;obtain⟨t,n,k1,u,j⟩:=k.box l B1 L1 h1 h2;exact⟨t,n,k1,u,r.trans j⟩
def cY.refl(σ:List aR)(s:St):cY σ s σ s :=
  ⟨bc _,λ_ _=>rfl,λ_ _ _ h=>h,λ_ _ _ _=>rfl,λL h b a=>.inr ⟨L,h,a⟩,λ_ B L h c=>⟨B,L,h,c,.refl _ _⟩,rfl,rfl,rfl,rfl⟩
def cY.trans{σ σ1 σ2:List aR}{s e s2:St}(h:cY σ s σ1 e)(k:cY σ1 e σ2 s2):cY σ s σ2 s2:=by
  have out:∀b,b<s.w.heap.size->(∀L∈s.β,b∉L.bs)->∀L∈e.β,b∉L.bs:=by
    intro b a f L c d;rcases h.vK L c b d with h1|⟨x,i,p⟩
    · omega
    grind
  refine⟨iZ h.size k.size,?_,λb o v g=>k.mem _ _ _ (h.mem _ _ _ g),?_,?_,?_,k.os.trans h.os,k.tape.trans h.tape,k.output.trans h.output,k.own.trans h.own⟩
  · intro b a
    rw[k.fy b (by rw[h.own];exact a),h.fy b a]
  · intro b a f o
    rw[k.je b (c7 a h.size) (out b a f),h.je b a f]
  · intro L c b a
    rcases k.vK L c b a with h1|⟨L1,q,m⟩
    · exact .inl (iZ h.size h1)
    grind
  · intro l B L hB c
    obtain⟨B1,L1,h1,h2,r⟩:=h.box l B L hB c;obtain⟨t,n,k1,u,j⟩:=k.box l B1 L1 h1 h2;exact⟨t,n,k1,u,r.trans j⟩
def Step.nF{σ σ':List aR}{s s':St}(hh:aF σ s)(h:Step σ s σ' s'):cY σ s σ' s' :=
  ⟨h.size,λb a=>h.fy b (hh.own b a).1 (hh.own b a).2,h.mem,h.je,h.vK,h.box,h.os,h.tape,h.output,h.own⟩
def cY.ext{σ σ':List aR}{s s':St}(h:cY σ s σ' s'):Ext σ s σ' s':=⟨h.mem,h.box⟩
def cv.refl{σ:List aR}{s:St}(hh:aF σ s):cv s s:=⟨rfl,rfl,rfl,bc _,λ_ _=>rfl,hh.mem,rfl,rfl,rfl⟩
def cv.stepW{σ:List aR}{s s':St}(h:cv s s'):cY σ s σ s' :=
  ⟨h.size,λb c=>h.fy b (.inl c),λb o v d=>by rw[h.M];exact d,λ_ _ _ _=>by rw[h.M],λL a b c=>.inr ⟨L,by rw[<-h.β];exact a,c⟩,
    λl B L hB a=>⟨B,L,hB,by rw[h.β];exact a,.refl _ _⟩,h.os,h.tape,h.output,h.own⟩
def Step.ext{σ σ':List aR}{s s':St}(h:Step σ s σ' s'):Ext σ s σ' s':=⟨h.mem,h.box⟩
section mono
variable {σ σ':List aR}{s s':St}
def Ext.NZ(h:Ext σ s σ' s'){l:Nat}{L:Loc}(c:s.β[l]?=aa L)(hl:s.β.length=σ.length)(d:∀B,σ[l]?=aa B->B.gr=ae):
    (∀B,σ'[l]?=aa B->B.gr=ae)/\∃L',s'.β[l]?=aa L'/\L'.v=L.v:=by
  have a:l<σ.length:=by grind
  obtain⟨B',L',k1,e,f⟩:=h.box l (σ[l]) L (br a) c;have b:=d _ (br a);generalize σ[l]=B at *;rw[k1];cases B<;>cases B'<;>simp_all[gI,aR.gr]
def gB.mono(h:Ext σ s σ' s')(hl:s.β.length=σ.length){v:ah}{a:A}(r:gB σ s v a):gB σ' s' v a:=by
  cases a with
  | c x=>exact Rd.mono h.mem r
  | any=>exact r
  | ptr l off =>
    obtain⟨o,L,b,h1,h2,m⟩:=r;obtain⟨g,L',k1,j⟩:=h.NZ h1 hl o;exact⟨g,L',b,k1,by grind,m⟩
  | vec l k n es =>
    obtain⟨i,e,q⟩:=r;obtain⟨B',L',k1,j,f⟩:=h.box l (σ[l]) (s.β[l]'(by omega)) (br e) (br (by omega));have d:l<σ'.length:=(b6.1 k1).1;refine⟨Rd.mono h.mem i,d,λE k' g es' he=>?_⟩;rw[he]at k1;cases k1;have hB:=br e;generalize σ[l]=B at *;cases B with
    | vec E0 k0 n0 Xr =>
      obtain⟨p,q2⟩:=f;grind
    | _=>simp[gI]at f
  | ref l =>
    obtain⟨o,L,h1,h2,m⟩:=r;obtain⟨g,L',k1,j⟩:=h.NZ h1 hl o;exact⟨g,L',k1,by grind,m⟩
  | bp l w =>
    obtain⟨lv,i,e,q⟩:=r;obtain⟨B',L',k1,j,f⟩:=h.box l (σ[l]) (s.β[l]'(by omega)) (br e) (br (by omega));have d:l<σ'.length:=(b6.1 k1).1;refine⟨lv,i,d,λE k' g es' he=>?_⟩;rw[he]at k1;cases k1;have hB:=br e;generalize σ[l]=B at *;cases B with
    | buf E0 k0 n0 Xr =>
      obtain⟨p,q2⟩:=f;grind
    | _=>simp[gI]at f
def ei.mono(h:Ext σ s σ' s')(hl:s.β.length=σ.length){vs:List ah}{cs:List A}(r:ei σ s vs cs):ei σ' s' vs cs:=by
  induction vs generalizing cs with
  | nil=>cases cs<;>simp_all[ei]
  | cons v vs ih =>
    cases cs with
    | nil=>simp[ei]at r
    | cons a cs=>exact⟨r.1.mono h hl,ih r.2⟩
def nC.mono(h:Ext σ s σ' s')(hl:s.β.length=σ.length){v:ah}{x:E1}(r:nC σ s v x):nC σ' s' v x:=by
  cases x with
  | one a=>exact gB.mono h hl r
  | agg cs=>obtain⟨vs,h1,h2⟩:=r;exact⟨vs,h1,h2.mono h hl⟩
def hY.mono(h:Ext σ s σ' s')(hl:s.β.length=σ.length){vs:List ah}{xs:List E1}(r:hY σ s vs xs):hY σ' s' vs xs:=by
  induction vs generalizing xs with
  | nil=>cases xs<;>simp_all[hY]
  | cons v vs ih =>
    cases xs with
    | nil=>simp[hY]at r
    | cons a cs=>exact⟨r.1.mono h hl,ih r.2⟩
def dt.mono(h:Ext σ s σ' s')(hl:s.β.length=σ.length){v:ah}{d:D}(r:dt σ s v d):dt σ' s' v d:=by
  cases d with
  | e x=>exact nC.mono h hl r
  | fa xs=>obtain⟨vs,h1,h2⟩:=r;exact⟨vs,h1,h2.mono h hl⟩
  | any=>trivial
def cp.mono(h:Ext σ s σ' s')(hl:s.β.length=σ.length){vs:List ah}{xs:List D}(r:cp σ s vs xs):cp σ' s' vs xs:=by
  induction vs generalizing xs with
  | nil=>cases xs<;>simp_all[cp]
  | cons v vs ih =>
    cases xs with
    | nil=>simp[cp]at r
    | cons a cs=>exact⟨r.1.mono h hl,ih r.2⟩
end mono
def pe(σ:List aR)(s:St):List Deferred->List Nat->Prop
  | [],[]=>True
  | d::ds,l::ls=>(σ[l]?=aa .qY/\∃(L:Loc) (r:Nat),s.β[l]?=aa L/\L.v=.int .i64 r/\d={target:=.collected r,args:=#[]})/\l∉ls/\pe σ s ds ls
  | _,_=>False
def pe.mono{σ σ':List aR}{s s':St}(h:Ext σ s σ' s'):∀{ds:List Deferred} {ls:List Nat},pe σ s ds ls->pe σ' s' ds ls
  | [],[],_=>trivial
  | [],_::_,r=>r.elim
  | _::_,[],r=>r.elim
  | d::ds,l::ls,⟨⟨h1,L,r,h2,g,c⟩,b,a⟩=>by
    obtain⟨B',L',k1,e,f⟩:=h.box l _ L h1 h2;cases B'<;>simp[gI]at f
    exact⟨⟨k1,L',r,e,by grind,c⟩,b,pe.mono h a⟩
def lM:List aR->Bool
  | []=>ab
  | .qY::_=>ae
  | _::r=>lM r
def nQ:∀{l:List aR},lM l=ab->∀B∈l,B≠.qY
  | [],_,B,hB=>by grind
  | b::r,h,B,hB=>by
    have a:b≠.qY/\lM r=ab:=by cases b<;>simp_all[lM]
    rcases eB.1 hB with rfl|hB
    · exact a.1
    · exact nQ a.2 B hB
def pC{s:St}{r:Nat}{wr:Bool}{L:Loc}(a:L∈s.β)(b:r∈L.bs):ox s ⟨.obj r,wr,ae⟩:=⟨rfl,.inr ⟨L,a,b⟩⟩
def fg.one{s:St}{e:Event}(h:ox s e):fg s #[e]:=by intro x a;grind
def fg.two{s:St}{e a:Event}(h:ox s e)(c:ox s a):fg s #[e,a]:=by intro x b;grind
def tc{P:ar}{w:aA}:∀{l:List (String×DataW Unit)}{ps:List MemPlace},DataW.LaidVars P w l ps->∀{n:String}{d:DataW Unit},(n,d)∈l ->
  ∃g t cs fuel p,P.globalNamed n=aa g/\(P.globals[g]?).map (·.type)=aa t/\w.var? P n=aa cs/\DataW.trod (λ_=>()) P w 0 (λ_=>ab) ae fuel t cs.toList=aa (d,p)
 |[],_,_,_,_,a=>by cases a
 |(c,k)::r,ps,h,n,d,a=>by
  obtain⟨g,t,cs,fuel,p,q,f,m,j,i,b,_⟩:=h;rcases eB.1 a with e|e
  .grind
  .exact tc b e
theorem xu{P:ar}{W:aA}(a:W.ShapedOpen P){g:Nat}{zero:Array ah}{t:aj}(c:g<P.globals.size)(b:(((begin P (λ_ _=>0) default).world.heap[g]?).bind Obj.row?)=aa (zero,t)){n:String}(f:P.globalNamed n=aa g){cs:Array ah}(d:W.var? P n=aa cs):
  W.heap[g]?=aa (.cells cs t (0,0)):=by obtain⟨c2,e,_⟩:=a.1 g zero t c b;unfold World.var? at d;grind
def xw{P:ar}{W:aA}{l:List (String×DataW Unit)}(h:laidMetH P l W)(a:W.ShapedOpen P){n y:String}{d:DataW Unit}(i:(n,.iface y d)∈l.filter λx=>x.2.handleName?.isNone){g t c:Nat}{r:Array (String×aj)}{zero:Array ah}(f:P.globalNamed n=aa g)(j:(P.globals[g]?).map (·.type)=aa t)(z:P.underlying t=aa (.interface r))(s:g<P.globals.size)(k:(((begin P (λ_ _=>0) default).world.heap[g]?).bind Obj.row?)=aa (zero,c)):∃e:aj×ah,W.heap[g]?=aa (.cells #[.iface e.1 e.2] c (0,0)):=by obtain⟨ps,m,_⟩:=(laidMetH_iff.1 h).1;obtain⟨C,B,cs,b,p,o,A,w,q⟩:=tc m i;cases f.symm.trans o;cases j.symm.trans A;obtain⟨_,u,v,e,_⟩:=iface_of_trod z q;have:=xu a s k f w;rw[Array.eq_one_of_toList e]at this;exact⟨(u,v),this⟩
def CR{P:ar}{W:aA}{l:List (String×DataW Unit)}(h:laidMetH P l W)(o:W.ShapedOpen P){n:String}{d:DataW Unit}{s:List UInt8}(e:(n,d)∈l.filter λx=>x.2.handleName?.isSome)(i:d.funcsIn?=af)(c:d.handleName?=aa s){g b u ty:Nat}{zero:Array ah}(A:P.globalNamed n=aa g)(f:(P.cutTypes.find? (·.1== "internal/reflectlite.rtype")).map (·.2)=aa u)(y:((bh P.types.size).filter λt=>P.rowNamed t s)=[ty])(z:g<P.globals.size)(r:(((begin P (λ_ _=>0) default).world.heap[g]?).bind Obj.row?)=aa (zero,b)):W.heap[g]?=aa (.cells #[.iface u (.agg #[typeHandle P ty])] b (0,0)):=by have:=(laidMetH_iff.1 h).2 _ e;rw[i]at this;obtain⟨name,v,a,k,j,p,m,q⟩:=this;cases c.symm.trans k;cases f.symm.trans j;have w:a∈(bh P.types.size).filter λt=>P.rowNamed t s:=jS.2 ⟨mM.2 p,m⟩;grind[xu]
section
open Go.Conc (G listed)
def rC(s s':St)(es:Array Event):Prop:=(∃σ σ',aF σ s/\aF σ' s'/\Step σ s σ' s')/\fg s es
structure Cx(P:ar) where
 main:Bool
 rely:St->St->Prop
 yv:av->St->(av->St->Prop)->Prop
 iH:∀{s s'},rely s s'->cv s s'
 B4:Prop
class Cx.hU {P:ar} (X:Cx P):Prop where
 ok:X.B4
structure eF(s s':St):Prop where
 w:s'.w=s.w
 mem:∀b o v,s.M b o=aa v->s'.M b o=aa v
 je:∀b,(∀L∈s.β,b∉L.bs)->∀o,s'.M b o=s.M b o
 cell:∀b o v,s'.M b o=aa v->s.w.cell? ⟨b,o,af⟩=aa v
 blk:∀b,(s'.own b∨∃L∈s'.β,b∈L.bs)->s.own b∨∃L∈s.β,b∈L.bs
structure nn(s s':St):Prop where
 w:s'.w=s.w
 β:s'.β=s.β
 own:s'.own=s.own
 less:∀b o v,s'.M b o=aa v->s.M b o=aa v
 mem:∀b o v,s.M b o=aa v->s'.M b o=aa v∨s.own b
inductive fL {P:ar} (X:Cx P) (S:av->St->Prop):av->St->Prop
 |stop {g:av} {s:St}:S g s->fL X S g s
 |step {g:av} {s:St} (ng:St->av) (ns:St->St) (ne:St->Array Event):g.status=.running ->
   (∀s1,X.rely s s1->aH P X.main g s1.w=.go (ng s1) (ns s1).w (ne s1))->(∀s1,X.rely s s1->rC s1 (ns s1) (ne s1))->(∀s1,X.rely s s1->fL X S (ng s1) (ns s1))->fL X S g s
 |ghost {g:av} {s s':St}:eF s s'->fL X S g s'->fL X S g s
 |forget {g:av} {s s':St}:X.B4->nn s s'->fL X S g s'->fL X S g s
 |yv {g:av} {s:St} {T:av->St->Prop}:X.yv g s T->(∀g' s',T g' s'->fL X S g' s')->fL X S g s
section
variable {P:ar}{X:Cx P}{S:av->St->Prop}
def fL.next{g:av}{s:St}(f:g.status=.running)(h:∀c,X.rely s c->∃g' s' es,aH P X.main g c.w=.go g' s'.w es/\rC c s' es/\fL X S g' s'):fL X S g s:=by
 classical
 have hh:∀c,∃r:av×St×Array Event,X.rely s c->aH P X.main g c.w=.go r.1 r.2.1.w r.2.2/\rC c r.2.1 r.2.2/\fL X S r.1 r.2.1:=by
  intro c;by_cases e:X.rely s c
  .obtain⟨g',s',es,h1⟩:=h c e;exact⟨(g',s',es),λ_=>h1⟩
  .exact⟨(g,c,#[]),λd=>absurd d e⟩
 refine .step (λc=>(Classical.choose (hh c)).1) (λc=>(Classical.choose (hh c)).2.1) (λc=>(Classical.choose (hh c)).2.2) f ?_ ?_ ?_
 .grind
 .grind
 grind
theorem eF.of{σ σ':List aR}{s s':St}(hh:aF σ s)(d:aF σ' s')(g:s'.w=s.w)(st:cY σ s σ' s'):eF s s':=by
 have j:∀b o v,s'.M b o=aa v->s.w.cell? ⟨b,o,af⟩=aa v:=λb o v h=>by rw[<-g];exact d.mem b o v h
 have e:∀b o v,s.w.cell? ⟨b,o,af⟩=aa v->b<s.w.heap.size:=by
  intro b o v h;rcases cM b s.w.heap.size with h1|h1
  .exact h1
  .simp[aV,zY h1]at h
 refine⟨g,st.mem,λb c o=>?_,j,λb c=>?_⟩
 .rcases cM b s.w.heap.size with h1|h1
  .exact st.je b h1 c o
  .cases h2:s'.M b o with
   |some v=>grind
   |none=>cases i:s.M b o with
    |none=>rfl
    |some v=>have:=e _ _ _ (hh.mem _ _ _ i);omega
 .rcases c with c|⟨L,f,c⟩
  .exact .inl (by rw[<-st.own];exact c)
  .rcases st.vK L f b c with h1|h1
   .have:=d.lt L f b c;grind
   grind
def aF.rely{σ:List aR}{s s':St}(hh:aF σ s)(h:cv s s'):aF σ s':=by
 have ex:Ext σ s σ s':=h.stepW.ext;have z:∀v a,gB σ s v a->gB σ s' v a:=λv a r=>r.mono ex hh.len;refine⟨λb o v q=>h.mem b o v (by rw[<-h.M];exact q),by rw[h.β];exact hh.len,?_,by rw[h.β];exact hh.eO,?_,?_⟩
 .intro l B L hB hL;rw[h.β]at hL;have c:=hh.box l B L hB hL;have hk:∀b∈L.bs,s'.w.heap[b]?=s.w.heap[b]?:=λb c=>h.fy b (.inr ⟨L,bP hL,c⟩);cases B with
  |cells E cs =>
   obtain⟨b,vs,h1,h2,d,e⟩:=c;subst h1;exact⟨b,vs,rfl,by grind,d.mono ex hh.len,λo=>by rw[h.M,e]⟩
  |vec E k n es =>
   obtain⟨h1,h2⟩:=c;refine⟨by rw[h.M];exact h1,?_⟩;rcases h2 with⟨h2,d⟩|⟨b,cap,vs,h2,d,e,f⟩
   .exact .inl ⟨h2,by rw[h.M];exact d⟩
   .subst h2;exact .inr ⟨b,cap,vs,rfl,by grind,e,λo p=>by rw[h.M,f o p]⟩
  |cm H =>
   obtain⟨ch,h1,h2,d,e⟩:=c;refine⟨ch,h1,λb o m=>?_,d,λb g o=>by rw[h.M,e b g]⟩;grind
  |dead=>trivial
  |loop N φ r =>
   obtain⟨l,tmps,fn,y,h1,h2,d,e,f⟩:=c;subst h1;exact⟨l,tmps,fn,y,rfl,by grind,d,λt=>(e t).mono ex hh.len,λo=>by rw[h.M,f]⟩
  |qY =>
   obtain⟨r,h1,h2,d⟩:=c;subst h1;exact⟨r,rfl,by grind,λo=>by rw[h.M,d]⟩
  |buf E k n es =>
   rcases c with c|⟨b,u,vs,i,h1,h2,d,e,f,j,x⟩
   .exact .inl c
   .subst h1;exact .inr ⟨b,u,vs,i,rfl,by grind,d,e,f,by rw[h.M];exact j,λo=>by rw[h.M,x]⟩
 .intro L hL b c;rw[h.β]at hL;exact c7 (hh.lt L hL b c) h.size
 .intro b c;rw[h.own]at c;rw[h.β];exact⟨c7 (hh.own b c).1 h.size,(hh.own b c).2⟩
def rC.quiet{σ:List aR}{s:St}(hh:aF σ s):rC s s #[]:=⟨⟨σ,σ,hh,hh,.refl _ _⟩,.nil⟩
def _root_.Go.Frame.aT(b:aU)(a:Act)(todo:List Item):aU:={b with tmps:=a.tmps,todo:=todo,defers:=a.defers++b.defers,mode:=.run}
variable {b:aU}{a:Act}{k:List Item}{cs:List aU}{w:aA}{main:Bool}
def Gi(b:aU)(a:Act)(c:List Item):(b.aT a c).eval=a.eval:=by funext x;cases x<;>rfl
def Gj:aH P main (G (b.aT a (.code .skip::k)) cs) w=.go (G (b.aT a k) cs) w:=by simp[G,aH,stepG.exec,Frame.aT]
def rD{id:Nat}:aH P main (G (b.aT a (.inBlock id::k)) cs) w=.go (G (b.aT a k) cs) w:=by simp[G,aH,stepG.exec,Frame.aT]
theorem oy{x y:Code}:aH P main (G (b.aT a (.code (.seq x y)::k)) cs) w=.go (G (b.aT a (.code x::.code y::k)) cs) w:=by simp[G,aH,stepG.exec,Frame.aT]
def vL{c:aq}{x y:Code}{t:Bool}(h:a.eval c=.bool t):
  aH P main (G (b.aT a (.code (.cond c x y)::k)) cs) w=.go (G (b.aT a (.code (if t then x else y)::k)) cs) w:=by
 have d:(b.aT a (.code (.cond c x y)::k)).eval c=.bool t:=by rw[Gi];exact h
 simp only[Frame.aT]at d;simp[G,aH,stepG.exec,Frame.aT,d]
def sD{id:Nat}{c:Code}:aH P main (G (b.aT a (.code (.block id c)::k)) cs) w=.go (G (b.aT a (.code c::.inBlock id::k)) cs) w:=by simp[G,aH,stepG.exec,Frame.aT]
def Gk{c:Code}:aH P main (G (b.aT a (.code (.loop c)::k)) cs) w=.go (G (b.aT a (.code c::.inLoop c::k)) cs) w:=by simp[G,aH,stepG.exec,Frame.aT]
def yU{c:Code}:aH P main (G (b.aT a (.inLoop c::k)) cs) w=.go (G (b.aT a (.code c::.inLoop c::k)) cs) w:=by simp[G,aH,stepG.exec,Frame.aT]
def Ad{id:Nat}{k':List Item}(h:exitTo id k=aa k'):aH P main (G (b.aT a (.code (.exit id)::k)) cs) w=.go (G (b.aT a k') cs) w:=by simp[G,aH,stepG.exec,Frame.aT,h]
def qx{id:Nat}{ops:Array au}:aH P main (G (b.aT a (.code (.region id ops ae)::k)) cs) w=.go (G (b.aT a (.inRegion ops (bh ops.size)::k)) cs) w:=by simp[G,aH,stepG.exec,Frame.aT]
def mb{id:Nat}{ops:Array au}:aH P main (G (b.aT a (.code (.region id ops ab)::k)) cs) w =
  .go (G (b.aT a (.inRegion ops (Region.schedule (P.follows .mixedOrders) ops (w.tape w.drawn (.order b.fn id)))::k)) cs) {w with drawn:=w.drawn+1}:=by simp[G,aH,stepG.exec,Frame.aT,choose,Sem.run,Question.forced,Question.cut]
def jg{ops:Array au}:aH P main (G (b.aT a (.inRegion ops []::k)) cs) w=.go (G (b.aT a k) cs) w:=by simp[G,aH,stepG.exec,Frame.aT]
def El(h:b.roundOf=af):aH P main (G (b.aT a (.code .ret::k)) cs) w=.go (G {b.aT a (.code .ret::k)with mode:=.returning} cs) w:=by simp[G,aH,stepG.exec,Frame.aT,h]
def Em(h:b.roundOf=af):aH P main (G (b.aT a []) cs) w=.go (G {b.aT a []with mode:=.returning} cs) w:=by simp[G,aH,stepG.exec,Frame.aT,h]
def kF(ops:Array au)(i:Nat)(rest:List Nat)(v:ah):
  (b.aT a (.inRegion ops (i::rest)::k)).finish v=b.aT (a.put ((ops[i]?).bind (·.dst)) v) (.inRegion ops rest::k):=by cases h:(ops[i]?).bind (·.dst)<;>simp[Frame.finish,Frame.aT,Act.put,h]
def NX{ops:Array au}{i:Nat}{rest:List Nat}{o:au}(d:ops[i]?=aa o)(e:bg o (yielded ops a.tmps)=ae):
  aH P main (G (b.aT a (.inRegion ops (i::rest)::k)) cs) w=.go (G (b.aT (a.put o.dst ai) (.inRegion ops rest::k)) cs) w:=by have c:=kF (b:=b) (a:=a) (k:=k) ops i rest ai;rw[d]at c;simp only[oq]at c;rw[<-c];simp[G,aH,stepG.exec,Frame.aT,d,e]
theorem sE{f:aq->ah}{o:au}{c:Call}(h:o.op=.defer c){i:Next}{w':aA}(e:(aw f o).run P w=.ok i w'):∃d,i=.defer d:=by
 simp only[aw,h,bT]at e;cases g:(resolve f c o.type).run P w with
 |ok d w2=>rw[g]at e;simp at e;grind
 |halt x w2=>rw[g]at e;simp at e
def vM{ops:Array au}{i:Nat}{rest:List Nat}{o:au}(e:ops[i]?=aa o)(f:bg o (yielded ops a.tmps)=ab)(g:∀c,o.op≠.defer c):
  aH P main (G (b.aT a (.inRegion ops (i::rest)::k)) cs) w=stepG.apply P ab (b.aT a (.inRegion ops (i::rest)::k)) cs af (aw a.eval o) w:=by have d:=Gi b a (.inRegion ops (i::rest)::k);simp only[Frame.aT]at d;simp[G,aH,stepG.exec,stepG.oper,Frame.oper?,Frame.aT,e,f,d];grind
theorem JF{ops:Array au}{i:Nat}{rest:List Nat}{o:au}{v:ah}{w':aA}(f:ops[i]?=aa o)(h:bg o (yielded ops a.tmps)=ab)(hk:b.kind≠.early)(g:(aw a.eval o).run P w=.ok (.value v) w'):
  aH P main (G (b.aT a (.inRegion ops (i::rest)::k)) cs) w=.go (G (b.aT (a.put o.dst v) (.inRegion ops rest::k)) cs) w' (listed P b.fn a o w):=by
 have d:=kF (b:=b) (a:=a) (k:=k) ops i rest v;rw[f]at d;simp only[oq]at d;have e:(b.kind==CallKind.early)=ae:=by grind
 rw[vM f h (λc j=>by grind[sE]),<-d];simp[stepG.apply,g,G,Frame.aT,e,GStep.after,listed]
theorem Gm{ops:Array au}{i:Nat}{rest:List Nat}{o:au}{w':aA}(f:ops[i]?=aa o)(h:bg o (yielded ops a.tmps)=ab)(hk:b.kind≠.early)(g:(aw a.eval o).run P w=.ok .skip w'):
  aH P main (G (b.aT a (.inRegion ops (i::rest)::k)) cs) w=.go (G (b.aT (a.put o.dst ai) (.inRegion ops rest::k)) cs) w' (listed P b.fn a o w):=by
 have d:=kF (b:=b) (a:=a) (k:=k) ops i rest ai;rw[f]at d;simp only[oq]at d;have e:(b.kind==CallKind.early)=ae:=by grind
 rw[vM f h (λc j=>by grind[sE]),<-d];simp[stepG.apply,g,G,Frame.aT,e,GStep.after,listed]
def px{ops:Array au}{i:Nat}{rest:List Nat}{o:au}{f:aJ}{args:Array ah}{w':aA}(g:ops[i]?=aa o)(h:bg o (yielded ops a.tmps)=ab)(hk:b.kind≠.early)(e:(aw a.eval o).run P w=.ok (.enter f args) w'):
  aH P main (G (b.aT a (.inRegion ops (i::rest)::k)) cs) w=.go (G (Frame.enter P f args .normal) (b.aT a (.inRegion ops (i::rest)::k)::cs)) w' (listed P b.fn a o w):=by
 have d:(b.kind==CallKind.early)=ae:=by grind
 rw[vM g h (λc j=>by grind[sE])];simp[stepG.apply,e,G,Frame.aT,d,GStep.after,listed]
structure vh(P:ar)(f:aJ)(fr:aU)(v:ah)(s:St):Prop where
 isF:fr.fn=f
 mode:fr.mode=.returning
 defers:fr.defers=[]
 kind:fr.kind=.normal
 fn:∃fn,P.funcs[fr.fn]?=aa fn/\∀w,(∀b o u,s.M b o=aa u->w.cell? ⟨b,o,af⟩=aa u)->(results fn fr.tmps).run P w=.ok v w/\∀e∈(results fn fr.tmps).events P w #[],∃b o u,e=⟨.cell ⟨b,o,af⟩,ae,ae⟩/\s.M b o=aa u
def vh.mono{f:aJ}{fr:aU}{v:ah}{s s':St}(h:vh P f fr v s)(i:∀b o u,s.M b o=aa u->s'.M b o=aa u):vh P f fr v s':=by obtain⟨h1,h2,e,d,fn,c,g⟩:=h;refine⟨h1,h2,e,d,fn,c,λw j=>?_⟩;grind
def fg.seen{s:St}{es:Array Event}{fn:aJ}(h:fg s es):fg s (seen P fn es):=λe c=>h e (Go.Conc.mem_seen c)
def JG{f:aJ}{g c:aU}{v:ah}{s:St}(h:vh P f g v s)(w:aA)(l:∀b o u,s.M b o=aa u->w.cell? ⟨b,o,af⟩=aa u):∃es,aH P main (G g (c::cs)) w=.go (G (c.finish v) cs) w es/\∀e∈es,∃b o u,e=⟨.cell ⟨b,o,af⟩,ae,ae⟩/\s.M b o=aa u:=by obtain⟨fn,i,d⟩:=h.fn;obtain⟨j,m⟩:=d w l;refine⟨seen P g.fn ((results fn g.tmps).events P w #[]),?_,λe n=>m e (Go.Conc.mem_seen n)⟩;simp[G,aH,unwind,doReturn,h.mode,h.defers,h.kind,i,j,GStep.after]
end
end
structure cu(N:Nat)(σ:List aR)(s:St)(φ:Fr)(a:Act):Prop where
 size:a.tmps.size=N
 defers:∃ls,pe σ s a.defers ls
 slot:∀t,dt σ s (a.tmps.getD t ai) (look φ t)
def cu.mono{N:Nat}{σ σ':List aR}{s s':St}{φ:Fr}{a:Act}(h:cY σ s σ' s')(hl:s.β.length=σ.length)(f:cu N σ s φ a):cu N σ' s' φ a :=
 ⟨f.size,f.defers.imp λ_ h1=>h1.mono h.ext,λt=>(f.slot t).mono h.ext hl⟩
def cu.rely{N:Nat}{σ:List aR}{s s':St}{φ:Fr}{a:Act}(h:cv s s')(hh:aF σ s)(f:cu N σ s φ a):cu N σ s' φ a:=f.mono h.stepW hh.len
def cu.put{N:Nat}{σ:List aR}{s:St}{φ:Fr}{a:Act}(f:cu N σ s φ a){d:Nat}(c:d<N){v:ah}{x:D}(r:dt σ s v x):cu N σ s ((d,x)::φ) (a.put (aa d) v):=by
 refine⟨by simp[Act.put,f.size],f.defers,λt=>?_⟩;simp only[Act.put,look];by_cases e:d=t
 .subst e;rw[show aB d d=ab from ja d];have g:d<a.tmps.size:=by rw[f.size];exact c
  simp only[dZ,wo g,ij,cond];exact r
 .have:aB d t=ae:=by grind[Nat.eq_of_beq_eq_true]
  rw[this];have h:=f.slot t;simp only[dZ]at h⊢;grind
def oB(φ φ':Fr):Prop:=∀σ s v t,dt σ s v (look φ t)->dt σ s v (look φ' t)
def cu.le{N:Nat}{σ:List aR}{s:St}{φ φ':Fr}{a:Act}(h:oB φ φ')(f:cu N σ s φ a):cu N σ s φ' a :=
 ⟨f.size,f.defers,λt=>h _ _ _ _ (f.slot t)⟩
abbrev Post:=Exit->Fr->List aR->Prop
def ends{P:ar}(X:Cx P)(S:av->St->Prop)(b:aU)(k:List Item)(cs:List aU):Exit->Act->St->Prop
 |.normal,a,s=>fL X S (G (b.aT a k) cs) s
 |.exit id,a,s=>∀pre,(∀k',exitTo id (pre++k')=exitTo id k')->fL X S (G (b.aT a (.code (.exit id)::(pre++k))) cs) s
 |.ret,a,s=>∀pre,fL X S (G (b.aT a (.code .ret::pre)) cs) s
 |.panic ch,a,s=>∀c,fL X S (G {b.aT a c with mode:=.panicking ch} cs) s
 |_,_,_=>False
section
variable {P:ar}{X:Cx P}{S:av->St->Prop}{b:aU}{k:List Item}{cs:List aU}{a:Act}{s:St}
def ends.cons{x:Item}(c:∀id k',exitTo id (x::k')=exitTo id k'){e:Exit}(d:e≠.normal)(h:ends X S b k cs e a s):ends X S b (x::k) cs e a s:=by
 cases e with
 |normal=>grind
 |exit id =>
  intro pre hp;have:=h (pre++[x]) (λk'=>by grind);grind
 |ret=>exact h
 |panic ch=>exact h
 |goto l=>exact h
 |outgrown=>exact h
def fL.ctl{σ:List aR}{g g':av}(hh:aF σ s)(e:g.status=.running)(d:∀w,aH P X.main g w=.go g' w #[])(h:∀c,cv s c->fL X S g' c):fL X S g s :=
 .next e λc h1=>⟨g',c,#[],d c.w,.quiet (hh.rely (X.iH h1)),h c (X.iH h1)⟩
def qz{σ:List aR}{f:aJ}{j c:aU}{cs:List aU}{v:ah}{s:St}(l:aF σ s)(h:vh P f j v s)(k:∀d,cv s d->fL X S (G (c.finish v) cs) d):fL X S (G j (c::cs)) s:=by refine .next rfl λd m=>?_;have i:=X.iH m;have g:=l.rely i;obtain⟨es,n,p⟩:=JG (main:=X.main) (c:=c) (cs:=cs) h d.w i.mem;refine⟨_,d,es,n,⟨⟨σ,σ,g,g,.refl _ _⟩,λe r=>?_⟩,k d i⟩;obtain⟨b,o,u,rfl,q⟩:=p e r;exact⟨rfl,rfl,.inr (.inr ⟨rfl,u,by rw[i.M];exact q⟩)⟩
def s8{c:Code}(I:Nat->Act->St->Prop)(i:∀n a s,I n a s->∃σ,aF σ s/\∀d,cv s d->I n a d)(round:∀n a s,I n a s->(∀a' s' m,m<n->I m a' s'->fL X S (G (b.aT a' (.inLoop c::k)) cs) s')->fL X S (G (b.aT a (.code c::.inLoop c::k)) cs) s){n:Nat}(o:I n a s):
  fL X S (G (b.aT a (.code (.loop c)::k)) cs) s:=by
 have key:∀n a s,I n a s->fL X S (G (b.aT a (.inLoop c::k)) cs) s:=by
  intro n;induction n using Nat.strongRecOn with
  |_ n l =>
   intro a s hi;obtain⟨σ,g,f⟩:=i n a s hi;exact .ctl g rfl (λw=>yU) λd h=>round n a d (f d h) λa' s' m j e=>l m j a' s' e
 obtain⟨σ,g,f⟩:=i n a s o;exact .ctl g rfl (λw=>Gk) λd h=>round n a d (f d h) λa' s' m _ e=>key m a' s' e
end
def AW{P:ar}(X:Cx P)(N:Nat)(c:Code)(Q:Post)(φ:Fr)(σ:List aR):Prop :=
 ∀s a,cu N σ s φ a->aF σ s->∀(b:aU) (k:List Item) (cs:List aU) (S:av->St->Prop),b.kind≠.early ->
  (∀e φ' σ' s' a',Q e φ' σ'->cu N σ' s' φ' a'->aF σ' s'->cY σ s σ' s'->ends X S b k cs e a' s')->fL X S (G (b.aT a (.code c::k)) cs) s
def Names(all:List au):List Nat->List au->Prop
 |[],[]=>True
 |i::idx,o::rest=>all.toArray[i]?=aa o/\Names all idx rest
 |_,_=>False
def iw{P:ar}(X:Cx P)(N:Nat)(all rest:List au)(Q:Fr->List aR->Prop)(φ:Fr)(σ:List aR):Prop :=
 ∀s a,cu N σ s φ a->aF σ s->∀(b:aU) (k:List Item) (cs:List aU) (S:av->St->Prop) (idx:List Nat),b.kind≠.early->Names all idx rest ->
  (∀φ' σ' s' a',Q φ' σ'->cu N σ' s' φ' a'->aF σ' s'->cY σ s σ' s'->fL X S (G (b.aT a' k) cs) s')->fL X S (G (b.aT a (.inRegion all.toArray idx::k)) cs) s
section rules
variable {P:ar}{X:Cx P}{N:Nat}{Q:Post}{φ:Fr}{σ:List aR}
def AW.mono{c:Code}{d:Post}(h:AW X N c Q φ σ)(j:∀e φ σ,Q e φ σ->d e φ σ):AW X N c d φ σ :=
 λs a g hh b k cs S l f=>h s a g hh b k cs S l λe φ' σ' s' a' q i m st=>f e φ' σ' s' a' (j _ _ _ q) i m st
def AW.le{c:Code}{φ':Fr}(h:AW X N c Q φ' σ)(hl:oB φ φ'):AW X N c Q φ σ :=
 λs a d hh b k cs S f e=>h s a (d.le hl) hh b k cs S f e
theorem AW.skip(h:Q .normal φ σ):AW X N .skip Q φ σ:=λs a c hh b k cs S _ e =>
 .ctl hh rfl (λ_=>Gj) λd h1=>e .normal φ σ d a h (c.rely h1 hh) (hh.rely h1) h1.stepW
def AW.ret(h:Q .ret φ σ):AW X N .ret Q φ σ:=λs a c hh b k cs S _ d=>d .ret φ σ s a h c hh (.refl _ _) k
theorem AW.exit{id:Nat}(h:Q (.exit id) φ σ):AW X N (.exit id) Q φ σ:=λs a c hh b k cs S _ d=>by have:=d (.exit id) φ σ s a h c hh (.refl _ _) [] (λ_=>rfl);grind
def CB(next:Fr->List aR->Prop)(Q:Post):Post
 |.normal,φ,σ=>next φ σ
 |e,φ,σ=>Q e φ σ
theorem AW.seq{x y:Code}(h:AW X N x (CB (AW X N y Q) Q) φ σ):AW X N (.seq x y) Q φ σ:=by
 intro s a l hh b k cs S i f;refine .ctl hh rfl (λ_=>oy) λm h1=>?_;refine h m a (l.rely h1 hh) (hh.rely h1) b (.code y::k) cs S i ?_;intro e φ' σ' s' a' q g j st;have c:=h1.stepW.trans st;cases e with
 |normal=>exact q s' a' g j b k cs S i λe d σ2 s2 a2 q2 f2 h2 mR=>f e d σ2 s2 a2 q2 f2 h2 (c.trans mR)
 |_=>exact ends.cons (λ_ _=>rfl) (by simp) (f _ _ _ _ _ q g j c)
theorem AW.cond{c:aq}{x y:Code}{t:Bool}{u:Nat}(p:c=.tmp u)(hl:look φ u=.e (.one (.c (.bool t))))(m:t=ab->AW X N x Q φ σ)(n:t=ae->AW X N y Q φ σ):AW X N (.cond c x y) Q φ σ:=by
 intro s a f hh b k cs S j l;have g:=f.slot u;rw[hl]at g;have h:a.eval c=.bool t:=by subst p;generalize h:a.tmps.getD u ai=v at g;simp only[dt,nC,gB]at g;cases g;exact h
 refine .ctl hh rfl (λ_=>vL h) λi h1=>?_;have d:∀e φ' σ' s' a',Q e φ' σ'->cu N σ' s' φ' a'->aF σ' s'->cY σ i σ' s'->ends X S b k cs e a' s':=λe φ' σ' s' a' q o r st=>l e φ' σ' s' a' q o r (h1.stepW.trans st);cases t
 .exact n rfl i a (f.rely h1 hh) (hh.rely h1) b k cs S j d
 .exact m rfl i a (f.rely h1 hh) (hh.rely h1) b k cs S j d
def xc(id:Nat)(Q:Post):Post
 |.exit Jx,φ,σ=>if Jx=id then Q .normal φ σ else Q (.exit Jx) φ σ
 |e,φ,σ=>Q e φ σ
theorem AW.block{id:Nat}{c:Code}(h:AW X N c (xc id Q) φ σ):AW X N (.block id c) Q φ σ:=by
 intro s a j hh b k cs S n g;refine .ctl hh rfl (λ_=>sD) λm h1=>?_;refine h m a (j.rely h1 hh) (hh.rely h1) b (.inBlock id::k) cs S n ?_;intro e φ' σ' s' a' q i f st;have d:=h1.stepW.trans st;cases e with
 |normal =>
  exact .ctl f rfl (λ_=>rD) λs2 h2=>g .normal φ' σ' s2 a' q (i.rely h2 f) (f.rely h2) (d.trans h2.stepW)
 |exit Jx =>
  simp only[xc]at q;split at q
  .rename_i e;subst e;intro pre hp;refine .ctl f rfl (λ_=>Ad (k':=k) (by rw[hp];simp[exitTo])) λs2 h2=>?_;exact g .normal φ' σ' s2 a' q (i.rely h2 f) (f.rely h2) (d.trans h2.stepW)
  .rename_i o
   intro pre hp;have:=g (.exit Jx) φ' σ' s' a' q i f d (pre++[.inBlock id]) (λk'=>by
    rw[l8,hp];have:(id==Jx)=ae:=by grind
    simp[exitTo,this])
   grind
 |ret=>exact g _ _ _ _ _ q i f d
 |panic ch=>exact g _ _ _ _ _ q i f d
 |goto l=>exact g _ _ _ _ _ q i f d
 |outgrown=>exact g _ _ _ _ _ q i f d
def AW.loop{S:Type}{c:Code}(I:S->Prop)(fr:S->Fr)(st:S->List aR)(h:S->Nat)(x:S)(B:I x)(m:oB φ (fr x))(o:st x=σ)(round:∀x,I x->AW X N c (CB (λφ' σ'=>∃y,I y/\h y<h x/\oB φ' (fr y)/\σ'=st y) Q) (fr x) (st x)):AW X N (.loop c) Q φ σ:=by
 intro s a u hh b k cs S r t;subst o;refine s8 (λn a' s'=>∃y,I y/\cu N (st y) s' (fr y) a'/\aF (st y) s'/\cY (st x) s (st y) s'/\h y=n) ?_ ?_ ⟨x,B,u.le m,hh,.refl _ _,rfl⟩
 .rintro n a' s' ⟨y,l,j,g,d,e⟩;exact⟨st y,g,λC h1=>⟨y,l,j.rely h1 g,g.rely h1,d.trans h1.stepW,e⟩⟩
 rintro n a' s' ⟨y,l,j,g,d,rfl⟩ A;refine round y l s' a' j g b (.inLoop c::k) cs S r ?_;intro e v σ2 s2 a2 q p h2 mR;cases e with
 |normal =>
  obtain⟨z,w,i,f,rfl⟩:=q;exact A a2 s2 (h z) i ⟨z,w,p.le f,h2,d.trans mR,rfl⟩
 |_=>exact ends.cons (λ_ _=>rfl) (by simp) (t _ _ _ _ _ q p h2 (d.trans mR))
end rules
def ei.length{σ:List aR}{s:St}{vs:List ah}{cs:List A}(r:ei σ s vs cs):vs.length=cs.length:=by
 induction vs generalizing cs with
 |nil=>cases cs<;>simp_all[ei]
 |cons v vs ih =>
  cases cs with
  |nil=>simp[ei]at r
  |cons a cs=>simp[ih r.2]
def gB.cell{σ:List aR}{s:St}{v:ah}{a:A}(r:gB σ s v a):cN v=ab:=by
 cases a with
 |c x=>exact Rd.cell r
 |ptr l off=>obtain⟨_,_,_,_,_,rfl⟩:=r;rfl
 |vec l k n es=>exact Rd.cell r.1
 |ref l=>obtain⟨_,_,_,_,h⟩:=r;exact h
 |bp l w=>obtain⟨_,h,_⟩:=r;exact h.cell
 |any=>exact r
theorem ei.get{σ:List aR}{s:St}{vs:List ah}{cs:List A}(r:ei σ s vs cs){j:Nat}{a:A}(h:cs[j]?=aa a):∃v,vs[j]?=aa v/\gB σ s v a:=by
 induction vs generalizing cs j with
 |nil=>cases cs<;>simp_all[ei]
 |cons v vs ih =>
  cases cs with
  |nil=>grind
  |cons b cs =>
   cases j with
   |zero=>simp at h;subst h;exact⟨v,rfl,r.1⟩
   |succ j=>simp at h;obtain⟨u,d,c⟩:=ih r.2 h;grind
def ei.cell{σ:List aR}{s:St}{vs:List ah}{cs:List A}(r:ei σ s vs cs):∀v∈vs,v.oneCell'=ab:=by
 induction vs generalizing cs with
 |nil=>simp
 |cons v vs ih =>
  cases cs with
  |nil=>simp[ei]at r
  |cons a cs =>
   intro u b;rcases eB.1 b with rfl|b
   .have:=gB.cell r.1;cases u<;>simp_all[cN,Value.oneCell']
   .exact ih r.2 u b
def ei.append{σ:List aR}{s:St}{vs Ak:List ah}{cs nG:List A}(r:ei σ s vs cs)(r':ei σ s Ak nG):ei σ s (vs++Ak) (cs++nG):=by
 induction vs generalizing cs with
 |nil=>cases cs<;>simp_all[ei]
 |cons v vs ih =>
  cases cs with
  |nil=>simp[ei]at r
  |cons a cs=>exact⟨r.1,ih r.2⟩
def ei.take{σ:List aR}{s:St}{vs:List ah}{cs:List A}(r:ei σ s vs cs)(k:Nat):ei σ s (vs.take k) (cs.take k):=by
 induction vs generalizing cs k with
 |nil=>cases cs<;>simp_all[ei]
 |cons v vs ih =>
  cases cs with
  |nil=>simp[ei]at r
  |cons a cs=>cases k with
   |zero=>simp[ei]
   |succ k=>exact⟨r.1,ih r.2 k⟩
def ei.drop{σ:List aR}{s:St}{vs:List ah}{cs:List A}(r:ei σ s vs cs)(k:Nat):ei σ s (vs.drop k) (cs.drop k):=by
 induction vs generalizing cs k with
 |nil=>cases cs<;>simp_all[ei]
 |cons v vs ih =>
  cases cs with
  |nil=>simp[ei]at r
  |cons a cs=>cases k with
   |zero=>exact r
   |succ k=>simpa using ih r.2 k
theorem aF.block{σ:List aR}{s:St}(h:aF σ s){b o:Nat}{v:ah}(a:s.M b o=aa v):b<s.w.heap.size:=by
 have:=h.mem b o v a;rcases cM b s.w.heap.size with h|h
 .exact h
 .simp[aV,zY h]at this
theorem aF.same{σ:List aR}{s:St}(h:aF σ s){w':aA}(f:w'.heap=s.w.heap):aF σ {s with w:=w'}:=by
 have x:∀a,w'.cell? a=s.w.cell? a:=λa=>by simp[aV,f]
 have j:∀v a,gB σ s v a->gB σ {s with w:=w'} v a:=λv a r=>by cases a<;>exact r
 have g:∀vs al,ei σ s vs al->ei σ {s with w:=w'} vs al:=by
  intro vs;induction vs with
  |nil=>intro al r;cases al<;>simp_all[ei]
  |cons v vs ih=>intro al r;cases al with
   |nil=>simp[ei]at r
   |cons a al=>exact⟨j _ _ r.1,ih _ r.2⟩
 refine⟨λb o v p=>by rw[x];exact h.mem b o v p,h.len,?_,h.eO,λL g b e=>by show b<w'.heap.size;rw[f];exact h.lt L g b e,λb e=>⟨by show b<w'.heap.size;rw[f];exact(h.own b e).1,(h.own b e).2⟩⟩;intro l B L hB fA;have:=h.box l B L hB fA;cases B with
 |cells E cs =>
  obtain⟨b,vs,h1,h2,c,d⟩:=this;exact⟨b,vs,h1,by grind,g _ _ c,d⟩
 |vec E k n es =>
  obtain⟨h1,h2⟩:=this;refine⟨h1,?_⟩;grind
 |cm H =>
  obtain⟨ch,h1,h2,c,d⟩:=this;exact⟨ch,h1,λb o e=>by grind,c,d⟩
 |dead=>trivial
 |loop N φ r =>
  obtain⟨l,tmps,fn,u,h1,h2,c,d,m⟩:=this;exact⟨l,tmps,fn,u,h1,by grind,c,λt=>dt.mono (s:=s) (σ':=σ) (s':={s with w:=w'}) ⟨λ_ _ _ h=>h,λ_ B L h y=>⟨B,L,h,y,.refl _ _⟩⟩ h.len (d t),m⟩
 |qY =>
  obtain⟨r,h1,h2,c⟩:=this;exact⟨r,h1,by grind,c⟩
 |buf E k n es =>
  rcases this with h1|⟨b,q,vs,i,h1,h2,c⟩
  .exact .inl h1
  .exact .inr ⟨b,q,vs,i,h1,by grind,c⟩
theorem Step.same{σ:List aR}{s:St}{w':aA}(g:w'.heap=s.w.heap)(d:w'.os=s.w.os)(c:w'.tape=s.w.tape)(a:w'.output=s.w.output):Step σ s σ {s with w:=w'} :=
 ⟨by grind,λb _ _=>by grind,λ_ _ _ h=>h,λ_ _ _ _=>rfl,λL h b e=>.inr ⟨L,h,e⟩,λ_ B L h f=>⟨B,L,h,f,.refl _ _⟩,d,c,a,rfl⟩
def eE.carry{σ σ':List aR}{s s':St}{B:aR}{L:Loc}(d:Ext σ s σ' s')(hl:s.β.length=σ.length)(e:∀b∈L.bs,s'.w.heap[b]?=s.w.heap[b]?/\∀o,s'.M b o=s.M b o)(h:eE σ s B L):eE σ' s' B L:=by
 cases B with
 |cells E cs =>
  obtain⟨b,vs,h1,h2,a,c⟩:=h;subst h1;obtain⟨k1,g⟩:=e b (by simp);exact⟨b,vs,rfl,by grind,a.mono d hl,λo=>by grind⟩
 |vec E k n es =>
  obtain⟨h1,h2⟩:=h;refine⟨h1.mono d.mem,?_⟩;rcases h2 with⟨h2,a⟩|⟨b,cap,vs,h2,a,c,f⟩
  .exact .inl ⟨h2,a.mono d.mem⟩
  grind
 |cm H =>
  obtain⟨ch,h1,h2,a,c⟩:=h;refine⟨ch,h1,λb o m=>?_,a,λb p o=>by grind⟩;grind
 |dead=>trivial
 |loop N φ r =>
  obtain⟨l,tmps,fn,u,h1,h2,a,c,f⟩:=h;subst h1;obtain⟨k1,g⟩:=e l (by simp);exact⟨l,tmps,fn,u,rfl,by grind,a,λt=>(c t).mono d hl,λo=>by grind⟩
 |qY =>
  obtain⟨r,h1,h2,a⟩:=h;subst h1;obtain⟨k1,g⟩:=e r (by simp);exact⟨r,rfl,by grind,λo=>by grind⟩
 |buf E k n es =>
  rcases h with h1|⟨b,q,vs,i,h1,h2,a,c,f,j,v⟩
  .exact .inl h1
  .subst h1;obtain⟨k1,g⟩:=e b (by simp);exact .inr ⟨b,q,vs,i,rfl,by grind,a,c,f,j.mono d.mem,λo=>by grind⟩
def St.ga(s:St)(E:aj)(vs:List ah):St :=
 {β:=s.β++[⟨.pointer (aa ⟨s.w.heap.size,0,af⟩),[s.w.heap.size]⟩],M:=s.M,w:=s.w.alloc (.cells vs.toArray E),own:=s.own}
theorem cR(w:aA)(o:Obj){b:Nat}(h:b<w.heap.size):(w.alloc o).heap[b]?=w.heap[b]?:=by show(w.heap.push o)[b]?=w.heap[b]?;grind
theorem dT(w:aA)(o:Obj):(w.alloc o).heap[w.heap.size]?=aa o:=by show(w.heap.push o)[w.heap.size]?=aa o;simp
def Step.ga{σ:List aR}(s:St)(E:aj)(vs:List ah)(B:aR):Step σ s (σ++[B]) (s.ga E vs):=by
 refine⟨by simp[St.ga],?_,λ_ _ _ h=>h,λ_ _ _ _=>rfl,?_,?_,rfl,rfl,rfl,rfl⟩
 .intro b d _;exact cR _ _ d
 .intro L a b d;simp only[St.ga,fx,fN]at a;grind
 .intro l B' L c a;have hl:l<s.β.length:=(b6.1 a).1;have e:l<σ.length:=(b6.1 c).1;exact⟨B',L,by grind,by simp only[St.ga];grind,.refl _ _⟩
def aF.ga{σ:List aR}{s:St}(h:aF σ s){E:aj}{vs:List ah}{cs:List A}(r:ei σ s vs cs):aF (σ++[.cells E cs]) (s.ga E vs):=by
 have st:=Step.ga (σ:=σ) s E vs (.cells E cs);have g:(s.ga E vs).w.heap.size=s.w.heap.size+1:=by simp[St.ga]
 refine⟨?_,by simp[St.ga,h.len],?_,?_,?_,?_⟩
 .intro b o v c;have a:=h.block c;have:=h.mem b o v c;rw[<-this];simp only[aV,St.ga];grind[cR]
 .intro l B L hB hL;rcases Nat.lt_trichotomy l σ.length with d|rfl|i
  .rw[jy d]at hB;simp only[St.ga]at hL;rw[jy (by rw[h.len];exact d)]at hL;refine(h.box l B L hB hL).carry st.ext h.len λb a=>⟨?_,λ_=>rfl⟩
   have:=h.lt L (bP hL) b a;exact cR _ _ this
  .simp at hB;subst hB;simp only[St.ga]at hL;rw[gk (by rw[h.len];grind)]at hL;simp[h.len]at hL;subst hL;refine⟨s.w.heap.size,vs,rfl,dT _ _,r.mono st.ext h.len,λo=>?_⟩;cases c:s.M s.w.heap.size o with
   |none=>exact c
   |some v=>have:=h.block c;omega
  grind
 .intro l l' L L' hL fA b a e;simp only[St.ga]at hL fA;have f:∀l L,(s.β++[⟨.pointer (aa ⟨s.w.heap.size,0,af⟩),[s.w.heap.size]⟩])[l]?=aa L->(s.β[l]?=aa L)∨(l=s.β.length/\L.bs=[s.w.heap.size]):=by grind
  rcases f l L hL with h1|⟨rfl,h1⟩<;>rcases f l' L' fA with h2|⟨rfl,h2⟩
  .exact h.eO l l' L L' h1 h2 b a e
  .have:=h.lt L (bP h1) b a;grind
  .have:=h.lt L' (bP h2) b e;grind
  .rfl
 .intro L hL b a;rw[g];simp only[St.ga,fx,fN]at hL;rcases hL with hL|rfl
  .have:=h.lt L hL b a;omega
  grind
 .intro b a;obtain⟨j,k⟩:=h.own b a;refine⟨by grind,λL hL=>?_⟩;simp only[St.ga,fx,fN]at hL;grind
def aF.grow{σ:List aR}{s:St}(h:aF σ s){M':Mem}{w':aA}(c:s.w.heap.size<=w'.heap.size)(hk:∀b,b<s.w.heap.size->w'.heap[b]?=s.w.heap[b]?)(f:∀b,b<s.w.heap.size->∀o,M' b o=s.M b o)(m:∀b,s.w.heap.size<=b->∀o v,M' b o=aa v->w'.cell? ⟨b,o,af⟩=aa v)(j:w'.os=s.w.os)(i:w'.tape=s.w.tape)(g:w'.output=s.w.output):aF σ ⟨s.β,M',w',s.own⟩/\Step σ s σ ⟨s.β,M',w',s.own⟩:=by
 have st:Step σ s σ ⟨s.β,M',w',s.own⟩ :=
  ⟨c,λb a _=>hk b a,λb o v e=>by rw[<-e];exact f b (h.block e) o,λb a _ o=>f b a o,λL h b a=>.inr ⟨L,h,a⟩,λ_ B L h k=>⟨B,L,h,k,.refl _ _⟩,j,i,g,rfl⟩
 refine⟨⟨?_,h.len,?_,h.eO,λL d b a=>c7 (h.lt L d b a) c,λb a=>⟨c7 (h.own b a).1 c,(h.own b a).2⟩⟩,st⟩
 .intro b o v e;rcases cM b s.w.heap.size with a|a
  .have hm':s.M b o=aa v:=by grind
   rw[<-h.mem b o v hm'];simp only[aV];grind
  grind
 .intro l B L hB d;exact(h.box l B L hB d).carry st.ext h.len λb a=>⟨hk b (h.lt L (bP d) b a),λo=>f b (h.lt L (bP d) b a) o⟩
def aF.write{σ:List aR}{s:St}(h:aF σ s){l b:Nat}{L:Loc}{E:aj}{cs nG:List A}{a:List ah}(hB:σ[l]?=aa (.cells E cs))(d:s.β[l]?=aa L)(f:L.bs=[b])(r:ei σ s a nG):aF (σ.set l (.cells E nG)) {s with w:=s.w.setRow b a.toArray}/\Step σ s (σ.set l (.cells E nG)) {s with w:=s.w.setRow b a.toArray}:=by
 have g:l<σ.length:=(b6.1 hB).1;obtain⟨i,vs,h1,h2,q,m⟩:=h.box l _ L hB d;subst h1;simp at f;subst f;have st:Step σ s (σ.set l (.cells E nG)) {s with w:=s.w.setRow i a.toArray}:=by
  refine⟨by simp,?_,λ_ _ _ h=>h,λ_ _ _ _=>rfl,λL h b c=>.inr ⟨L,h,c⟩,?_,rfl,rfl,rfl,rfl⟩
  .intro b c n;exact setRow_other _ _ _ _ (λe=>n _ (bP d) (by simp[e]))
  .intro l' B L' kv fA;by_cases e:l=l'
   .subst e;rw[hB]at kv;cases kv;exact⟨_,L',by rw[gn g],fA,by simp[gI]⟩
   .exact⟨B,L',by grind,fA,.refl _ _⟩
 refine⟨⟨?_,by simp[h.len],?_,h.eO,λL d b c=>by simpa using h.lt L d b c,λb c=>by simpa using h.own b c⟩,st⟩
 .intro b o v k;have p:b≠i:=λe=>by grind
  rw[<-h.mem b o v k];simp only[aV];grind[setRow_other]
 .intro l' B L' kv fA;by_cases e:l=l'
  .subst e;rw[gn g]at kv;cases kv;rw[d]at fA;cases fA;exact⟨i,a,rfl,setRow_heap _ _ _ _ _ _ h2,r.mono st.ext h.len,m⟩
  .rw[kC e]at kv;refine(h.box l' B L' kv fA).carry st.ext h.len λb c=>⟨setRow_other _ _ _ _ λj=>?_,λ_=>rfl⟩
   subst j;exact e (h.eO l l' _ L' d fA b (by simp) c)
def Sw(σ:List aR)(s:St):Next->D->Prop
 |.value v,x=>dt σ s v x
 |.skip,x=>x=.any
 |_,_=>False
def bM(P:ar)(o:au)(c:aq->D)(σ:List aR)(x:D)(σ':List aR):Prop :=
 ∀s a,aF σ s->(∀y,dt σ s (a y) (c y))->∃b s',(aw a o).run P s.w=.ok b s'.w/\Sw σ' s' b x/\aF σ' s'/\Step σ s σ' s'/\fg s ((aw a o).events P s.w #[])
def bM.oz{P:ar}{o:au}{b:aq->D}{σ:List aR}{x:D}(h:∀s a,aF σ s->(∀y,dt σ s (a y) (b y))->∃v,(aw a o).run P s.w=.ok (.value v) s.w/\dt σ s v x/\fg s ((aw a o).events P s.w #[])):bM P o b σ x σ :=
 λs a hh hr=>let ⟨v,h1,h2,c⟩:=h s a hh hr;⟨.value v,s,h1,h2,hh,.refl _ _,c⟩
def bM.quiet{P:ar}{o:au}{b:aq->D}{σ:List aR}{x:D}(h:∀s a,aF σ s->(∀y,dt σ s (a y) (b y))->∃v,(aw a o).run P s.w=.ok (.value v) s.w/\dt σ s v x/\(aw a o).events P s.w #[]=#[]):bM P o b σ x σ :=
 λs a hh hr=>let ⟨v,h1,h2,c⟩:=h s a hh hr;⟨.value v,s,h1,h2,hh,.refl _ _,by rw[c];exact .nil⟩
def OP:IntKind->Int->Bool
 |.i64,.ofNat m=>bA m 9223372036854775807
 |.i64,.negSucc m=>bA m 9223372036854775807
 |.u8,.ofNat m=>bA m 255
 |.i32,.ofNat m=>bA m 2147483647
 |.i32,.negSucc m=>bA m 2147483647
 |.u64,.ofNat m=>bA m 18446744073709551615
 |.u32,.ofNat m=>bA m 4294967295
 |_,_=>ae
def Sy{k:IntKind}{n:Int}(h:OP k n=ab):bD k n:=by cases k<;>cases n<;>simp only[OP,bD]at h⊢<;>first|(cases h;done)|(have:=db h;grind)
def sJ:ah->Option C
 |.int k n=>cond (OP k n) (aa (.int k n)) af
 |.bool b=>aa (.bool b)
 |.string s=>cond (bA s.size 9223372036854775807) (aa (.str s.data.toList)) af
 |.slice af 0 0=>aa (.sl ab 0 0 (λ_=>[]))
 |.pointer af=>aa .fz
 |.nilIface=>aa .iI
 |.nilFunc=>aa .yw
 |.map m=>aa (.val (.map m))
 |_=>af
theorem Rd.jY{M:Mem}{t:Bool}{k:Nat}{a:Option Addr}{es:Nat->List C}:Rd M (.slice a 0 0) (.sl t k 0 es) :=
 Rd.sl 0 0 (λ_ _=>ai) (bc _) (by omega) (λ_=>rfl) (by omega) (by omega) (by omega) (by omega)
def Rd.sJ{M:Mem}{v:ah}{c:C}(h:sJ v=aa c):Rd M v c:=by
 unfold AM.sJ at h;split at h<;>first
  |(rename_i k n;cases a:OP k n<;>rw[a]at h<;>cases h;exact .int (Sy a))
  |(rename_i s;cases a:bA s.size 9223372036854775807<;>rw[a]at h<;>cases h;exact .str rfl (by rw[jA];exact db a))
  |(cases h;done)
  |(cases h;exact .bool)
  |(cases h;exact Rd.jY)
  |(cases h;exact .fz)
  |(cases h;exact .iI)
  |(cases h;exact .yw)
  |(cases h;exact .val rfl)
def dOf:Option C->D
 |some c=>.e (.one (.c c))
 |none=>.any
def bU(φ:Fr):aq->D
 |.tmp t=>look φ t
 |.const v=>dOf (sJ v)
 |.func f=>.e (.one (.c (.fn (.func f) [] [])))
 |.global _=>.any
theorem dg{N:Nat}{σ:List aR}{s:St}{φ:Fr}{a:Act}(f:cu N σ s φ a)(y:aq):dt σ s (a.eval y) (bU φ y):=by
 cases y with
 |tmp t=>exact f.slot t
 |const v =>
  simp only[bU,Act.eval];cases h:sJ v with
  |none=>trivial
  |some c=>exact Rd.sJ h
 |func g =>
  exact Rd.fn [] [] rfl rfl (λ_=>ai) (λ_=>ai) (by simp) (by simp) (by simp) (by simp)
 |global g=>trivial
def kH:Option Nat->D->Fr->Fr
 |some t,x,φ=>(t,x)::φ
 |none,_,φ=>φ
def rK{P:ar}{X:Cx P}{S:av->St->Prop}{b:aU}{k:List Item}{cs:List aU}{a:Act}{s:St}{ops:Array au}{i:Nat}{rest:List Nat}{o:au}(p:b.kind≠.early)(m:ops[i]?=aa o)(n:bg o (yielded ops a.tmps)=ab)(h:∀c,cv s c->∃d s' v,(aw a.eval o).run P c.w=.ok d s'.w/\(d=.value v∨(d=.skip/\v=ai))/\rC c s' ((aw a.eval o).events P c.w #[])/\fL X S (G (b.aT (a.put o.dst v) (.inRegion ops rest::k)) cs) s'):
  fL X S (G (b.aT a (.inRegion ops (i::rest)::k)) cs) s:=by refine .next rfl λc g=>?_;obtain⟨d,s',v,l,f,e,j⟩:=h c (X.iH g);refine⟨_,s',Go.Conc.listed P b.fn a o c.w,?_,⟨e.1,e.2.seen⟩,j⟩;grind[JF,Gm]
theorem bM.move{P:ar}{o:au}{a:aq->D}{σ:List aR}{x:aq}(h:o.op=.move x):bM P o a σ (a x) σ :=
 .quiet λs b _ c=>⟨b x,by simp[aw,h,pure],c x,by simp[aw,h]⟩
theorem bM.assign{P:ar}{o:au}{a:aq->D}{σ:List aR}{x:aq}(h:o.op=.assign x):bM P o a σ (a x) σ :=
 .quiet λs b _ c=>⟨b x,by simp[aw,h,pure],c x,by simp[aw,h]⟩
def e9{σ:List aR}{s:St}{v:ah}{c:C}(h:dt σ s v (.e (.one (.c c)))):Rd s.M v c:=h
def bM.pick{P:ar}{o:au}{f:aq->D}{σ:List aR}{c a b:aq}(h:o.op=.pick c a b){t:Bool}(j:f c=.e (.one (.c (.bool t)))):
  bM P o f σ (match t with|true=>f a|false=>f b) σ:=by
 refine .quiet λs i _ g=>?_;have h1:=g c;rw[j]at h1;have h2:=e9 h1;generalize d:i c=v at h2;cases h2;cases t
 .exact⟨i b,by simp[aw,h,d,asBool],g b,by simp[aw,h,d,asBool]⟩
 .exact⟨i a,by simp[aw,h,d,asBool],g a,by simp[aw,h,d,asBool]⟩
def KJ(op:BinOp)(k:IntKind)(x y:Int):Option (C×List Prop) :=
 match op with
 |.add=>aa (.int k (x+y),[bD k (x+y)])
 |.sub=>aa (.int k (x-y),[bD k (x-y)])
 |.mul=>aa (.int k (x*y),[bD k (x*y)])
 |.quo=>aa (.int k (x / y),[0<=x,0<y])
 |.rem=>aa (.int k (x % y),[0<=x,0<y])
 |.eql=>aa (.bool (x==y),[])
 |.neq=>aa (.bool (x != y),[])
 |.lss=>aa (.bool (decide (x<y)),[])
 |.leq=>aa (.bool (decide (x<=y)),[])
 |.gtr=>aa (.bool (decide (y<x)),[])
 |.geq=>aa (.bool (decide (y<=x)),[])
 |_=>af
def KL(op:BinOp)(x y:List UInt8):Option (C×List Prop) :=
 match op with
 |.add=>aa (.str (x++y),[x.length+y.length<=9223372036854775807])
 |.eql=>aa (.bool (x==y),[])
 |.neq=>aa (.bool (!(x==y)),[])
 |.lss=>aa (.bool (bm x y),[])
 |.leq=>aa (.bool (bm x y||x==y),[])
 |.gtr=>aa (.bool (!(bm x y||x==y)),[])
 |.geq=>aa (.bool (!(bm x y)),[])
 |_=>af
@[simp] def az:List Prop->Prop
 |[]=>True
 |[p]=>p
 |p::q::r=>p/\az (q::r)
def az.cons{p:Prop}{r:List Prop}:az (p::r)↔p/\az r:=by cases r<;>simp
theorem mQ{k:IntKind}{n:Int}(h:bD k n):k.wrap n=n:=by cases k<;>simp only[bD,IntKind.wrap,IntKind.bits,IntKind.signed]at h⊢<;>simp<;>(try split)<;>omega
def KM{P:ar}{w:aA}{op:BinOp}{k:IntKind}{x y:Int}{c:C}{obs:List Prop}(h:KJ op k x y=aa (c,obs))(a:az obs)(g:bD k x)(l:bD k y)(t:aj)(M:Mem):
  ∃v,(binOp op t (.int k x) (.int k y)).run P w=.ok v w/\Rd M v c:=by
 cases op<;>simp only[KJ,dw,l9,reduceCtorEq]at h
 case add=>obtain⟨rfl,rfl⟩:=h;exact⟨_,by simp only[binOp,dy,ft,ck,Op.intArith,mQ a];rfl,.int a⟩
 case sub=>obtain⟨rfl,rfl⟩:=h;exact⟨_,by simp only[binOp,dy,ft,ck,Op.intArith,mQ a];rfl,.int a⟩
 case mul=>obtain⟨rfl,rfl⟩:=h;exact⟨_,by simp only[binOp,dy,ft,ck,Op.intArith,mQ a];rfl,.int a⟩
 case quo =>
  obtain⟨rfl,rfl⟩:=h;obtain⟨d,b⟩:=a;replace b:0<y:=b;have e:x.tdiv y=x / y:=Int.tdiv_eq_ediv_of_nonneg d;have f:bD k (x / y):=by have j:0<=x / y:=Int.ediv_nonneg d (by omega);have i:x / y<=x:=Int.ediv_le_self _ d;cases k<;>simp only[bD]at g⊢<;>omega
  exact⟨_,by simp only[binOp,dy,ft,ck,Op.intDiv,show y≠0 by omega,e,mQ f];rfl,.int f⟩
 case rem =>
  obtain⟨rfl,rfl⟩:=h;obtain⟨d,b⟩:=a;replace b:0<y:=b;have e:x.tmod y=x % y:=Int.tmod_eq_emod_of_nonneg d;have f:bD k (x % y):=by have j:0<=x % y:=qq _ (by omega);have i:x % y<y:=qk _ b;cases k<;>simp only[bD]at l⊢<;>omega
  exact⟨_,by simp only[binOp,dy,ft,ck,Op.intDiv,show y≠0 by omega,e];rfl,.int f⟩
 all_goals (obtain⟨rfl,rfl⟩:=h;exact⟨_,by simp only[binOp,dy,ft,ck,Op.intCmp,gt_iff_lt,ge_iff_le];rfl,.bool⟩)
def KN{P:ar}{w:aA}{op:BinOp}{x y:ByteArray}{a b:List UInt8}{c:C}{obs:List Prop}(h:KL op a b=aa (c,obs))(d:az obs)(f:x.data.toList=a)(j:y.data.toList=b)(t:aj)(M:Mem):
  ∃v,(binOp op t (.string x) (.string y)).run P w=.ok v w/\Rd M v c:=by
 subst f j;cases op<;>simp only[KL,dw,l9,reduceCtorEq]at h
 case add =>
  obtain⟨rfl,rfl⟩:=h;have g:¬((x.size+y.size:Nat):Int)>IntKind.i64.max:=by have k:x.data.toList.length=x.size:=jA;have l:y.data.toList.length=y.size:=jA;have e:IntKind.i64.max=9223372036854775807:=rfl;have i:x.data.toList.length+y.data.toList.length<=9223372036854775807:=d;grind
  refine⟨_,by simp only[binOp,Op.stringOp,g,ck];rfl,.str (by simp) (by simpa using d)⟩
 all_goals (obtain⟨rfl,rfl⟩:=h;exact⟨_,by simp only[binOp,Op.stringOp,ByteArray.toList_eq];rfl,.bool⟩)
def OQ{P:ar}{w:aA}{op:BinOp}{k:IntKind}{x y:Int}{c:C}{obs:List Prop}(h:KJ op k x y=aa (c,obs))(b:az obs)(t:aj):
  (binOp op t (.int k x) (.int k y)).events P w #[]=#[]:=by
 cases op<;>simp only[KJ,dw,l9,reduceCtorEq]at h
 case quo =>
  obtain⟨rfl,rfl⟩:=h;obtain⟨d,a⟩:=b;replace a:0<y:=a;simp only[binOp,dy,ft,ck,Op.intDiv,show y≠0 by omega];rfl
 case rem =>
  obtain⟨rfl,rfl⟩:=h;obtain⟨d,a⟩:=b;replace a:0<y:=a;simp only[binOp,dy,ft,ck,Op.intDiv,show y≠0 by omega];rfl
 all_goals (simp only[binOp,dy,ft,ck,Op.intCmp,Op.intArith];rfl)
def OR{P:ar}{w:aA}{op:BinOp}{x y:ByteArray}{a b:List UInt8}{c:C}{obs:List Prop}(h:KL op a b=aa (c,obs))(f:az obs)(d:x.data.toList=a)(j:y.data.toList=b)(t:aj):
  (binOp op t (.string x) (.string y)).events P w #[]=#[]:=by
 subst d j;cases op<;>simp only[KL,dw,l9,reduceCtorEq]at h
 case add =>
  obtain⟨rfl,rfl⟩:=h;have g:¬((x.size+y.size:Nat):Int)>IntKind.i64.max:=by have k:x.data.toList.length=x.size:=jA;have l:y.data.toList.length=y.size:=jA;have e:IntKind.i64.max=9223372036854775807:=rfl;have i:x.data.toList.length+y.data.toList.length<=9223372036854775807:=f;grind
  simp only[binOp,Op.stringOp,g,ck];rfl
 all_goals (simp only[binOp,Op.stringOp];rfl)
def Ia:IntKind->IntKind->Bool
 |.i8,.i8|.i16,.i16|.i32,.i32|.i64,.i64|.u8,.u8|.u16,.u16|.u32,.u32|.u64,.u64=>ab
 |_,_=>ae
def AJ{k k':IntKind}(h:Ia k k'=ab):k=k':=by cases k<;>cases k'<;>first|rfl|(cases h;done)
def Oh(op:BinOp):C->C->Option (C×List Prop)
 |.int k x,.int k' y=>cond (Ia k k') (KJ op k x y) af
 |.str a,.str b=>KL op a b
 |_,_=>af
def gY{P:ar}(op:BinOp)(t:aj)(x y:aq)(k k':IntKind)(n a:Int)(u:aA):(eqGuard op t x y (.int k n) (.int k' a)).run P u=.ok () u:=by cases op<;>rfl
def uU{P:ar}(op:BinOp)(t:aj)(x y:aq)(a b:ByteArray)(u:aA):(eqGuard op t x y (.string a) (.string b)).run P u=.ok () u:=by cases op<;>rfl
def jZ{P:ar}(op:BinOp)(t:aj)(x y:aq)(k k':IntKind)(n a:Int)(u:aA)(es:Array Event):(eqGuard op t x y (.int k n) (.int k' a)).events P u es=es:=by cases op<;>rfl
def xk{P:ar}(op:BinOp)(t:aj)(x y:aq)(a b:ByteArray)(u:aA)(es:Array Event):(eqGuard op t x y (.string a) (.string b)).events P u es=es:=by cases op<;>rfl
theorem bM.binOp{P:ar}{o:au}{m:aq->D}{σ:List aR}{op:BinOp}{t ty:aj}{x y:aq}(h:o.op=.binOp op t x y ty){a b c:C}{obs:List Prop}(z:m x=.e (.one (.c a)))(B:m y=.e (.one (.c b)))(g:Oh op a b=aa (c,obs))(i:az obs):bM P o m σ (.e (.one (.c c))) σ:=by
 refine .quiet λs u _ r=>?_;have h1:=r x;have h2:=r y;rw[z]at h1;rw[B]at h2;replace h1:=e9 h1;replace h2:=e9 h2;generalize f:u x=vx at h1;generalize d:u y=vy at h2;cases h1<;>cases h2<;>simp only[Oh,reduceCtorEq]at g
 case int.int k n A k' n' Yg =>
  cases hk:Ia k k'<;>simp only[hk,cond,reduceCtorEq]at g
  cases AJ hk;obtain⟨v,j,p⟩:=KM (P:=P) (w:=s.w) g i A Yg t s.M;exact⟨v,by simp only[aw,h,bT,f,d,gY,b5,j,dx],p,by simp[aw,h,f,d,gY,jZ,OQ g i]⟩
 case str.str =>
  rename_i E l q hl y' l' hy Ed;obtain⟨v,j,p⟩:=KN (P:=P) (w:=s.w) g i q hy t s.M;exact⟨v,by simp only[aw,h,bT,f,d,uU,b5,j,dx],p,by simp[aw,h,f,d,uU,xk,OR g i q hy]⟩
def XI(op:UnOp):C->Option C
 |.bool b=>match op with|.not=>aa (.bool (!b))|_=>af
 |_=>af
theorem bM.unOp{P:ar}{o:au}{f:aq->D}{σ:List aR}{op:UnOp}{t:aj}{x:aq}(h:o.op=.unOp op t x){a c:C}(j:f x=.e (.one (.c a)))(d:XI op a=aa c):bM P o f σ (.e (.one (.c c))) σ:=by
 refine .quiet λs i _ g=>?_;have h1:=g x;rw[j]at h1;replace h1:=e9 h1;generalize b:i x=vx at h1;cases h1<;>simp only[XI,reduceCtorEq]at d
 cases op<;>simp only[reduceCtorEq,dw]at d
 subst d;exact⟨_,by simp only[aw,h,b,Op.unary,bT,dx,b5],Rd.bool,by simp[aw,h,b,Op.unary]⟩
theorem hY.get{σ:List aR}{s:St}{vs:List ah}{xs:List E1}(r:hY σ s vs xs){j:Nat}{x:E1}(h:xs[j]?=aa x):∃v,vs[j]?=aa v/\nC σ s v x:=by
 induction vs generalizing xs j with
 |nil=>cases xs<;>simp_all[hY]
 |cons v vs ih =>
  cases xs with
  |nil=>grind
  |cons b cs =>
   cases j with
   |zero=>simp at h;subst h;exact⟨v,rfl,r.1⟩
   |succ j=>simp at h;obtain⟨u,c,a⟩:=ih r.2 h;grind
theorem bM.extract{P:ar}{o:au}{c:aq->D}{σ:List aR}{x:aq}{j:Nat}(h:o.op=.extract x j){xs:List E1}{e:E1}(i:c x=.fa xs)(k:xs[j]?=aa e):bM P o c σ (.e e) σ:=by refine .quiet λs l _ g=>?_;have h1:=g x;rw[i]at h1;obtain⟨vs,f,d⟩:=h1;obtain⟨v,a,b⟩:=d.get k;refine⟨v,?_,b,?_⟩<;>simp[aw,h,f,Instr.extract,a]
def Ac(b o:Nat):Event:=⟨.cell ⟨b,o,af⟩,ae,ae⟩
def HP(b o:Nat):Event:=⟨.cell ⟨b,o,af⟩,ab,ae⟩
theorem du(b o n:Nat):(⟨b,o,af⟩:Addr).add n=⟨b,o+n,af⟩:=by unfold Addr.add;split<;>simp_all
section
variable {P:ar}
def Af{w:aA}{b o:Nat}{v:ah}(h:w.cell? ⟨b,o,af⟩=aa v)(es:Array Event):(load ⟨b,o,af⟩).events P w es=es.push (Ac b o):=by rw[events_load,h];rfl
def nT{w:aA}{b o:Nat}:∀(n i:Nat) (acc:Array ah) (es:Array Event),(∀j,j<n->∃v,w.cell? ⟨b,o+(i+j),af⟩=aa v) ->
    ∀e∈(loadCellsFrom ⟨b,o,af⟩ i n acc).events P w es,e∈es∨∃j,j<i+n/\e=Ac b (o+j)
  | 0,i,acc,es,_=>λe h=>.inl (by simpa[loadCellsFrom]using h)
  | n+1,i,acc,es,d=>λe h=>by
    obtain⟨v,a⟩:=d 0 (by omega);simp only[iE]at a;simp only[loadCellsFrom,aM,du,run_load,a,aP,Af a]at h;rcases nT n (i+1) (acc.push v) _ (λj c=>by grind) e h with f|⟨j,c,rfl⟩
    · grind
    grind
def sC{w:aA}{b o n:Nat}{es:Array Event}(h:∀j,j<n->∃v,w.cell? ⟨b,o+j,af⟩=aa v):∀e∈(loadCells ⟨b,o,af⟩ n).events P w es,e∈es∨∃j,j<n/\e=Ac b (o+j):=by intro e a;have:=nT (P:=P) n 0 #[] es (by grind) e a;grind
def dN{b o:Nat}{t:aj}:∀(vs:List ah) (i:Nat) (a:Array ah) (w:aA) (es:Array Event),w.heap[b]?=aa (.cells a t (0,0))->o+i+vs.length<=a.size->(∀v∈vs,v.oneCell'=ab) ->
    ∀e∈(storeCells ⟨b,o,af⟩ vs i).events P w es,e∈es∨∃j,i<=j/\j<i+vs.length/\e=HP b (o+j)
  | [],_,_,_,_,_,_,_=>λe h=>.inl (by simpa[storeCells]using h)
  | v::rest,i,a,w,es,g,m,l=>λe h=>by
    have hi:o+i<a.size:=by grind
    have c:w.cell? ⟨b,o+i,af⟩=aa a[o+i]:=by simp[aV,g,hi]
    have d:w.frozen? ⟨b,o+i,af⟩=ae:=by simp[World.frozen?,g]
    have k:(store (⟨b,o+i,af⟩:Addr) v).run P w=.ok () (w.setRow b (a.setIfInBounds (o+i) v)):=by grind[run_store,setCell_eq_setRow]
    have f:(store (⟨b,o+i,af⟩:Addr) v).events P w es=es.push (HP b (o+i)):=by rw[events_store P w es _ v _ (l v (by simp)),c];simp only[d,jP,ck];rfl
    simp only[storeCells,aM,du,k,f,aP]at h;rcases dN rest (i+1) (a.setIfInBounds (o+i) v) _ _ (setRow_heap _ _ _ _ _ _ g) (by grind) (λu r=>l u (by grind)) e h with q|⟨j,p,n,rfl⟩
    · grind
    grind
def di{α:Type}(P:ar)(m:Sem α):Prop:=∀w es,m.events P w es=es
def di.bind{α β:Type}{m:Sem α}{f:α->Sem β}(h:di P m)(k:∀a,di P (f a)):di P (m >>= f):=by
  intro w es;rw[aM,h w es];cases m.run P w with
  | ok a w'=>exact k a w' es
  | halt x w'=>rfl
def di.pure{α:Type}{a:α}:di P (Pure.pure a:Sem α):=λ_ _=>rfl
def di.stuck{α:Type}{a:String}:di P (Go.stuck a:Sem α):=λ_ _=>rfl
def di.unsupported{α:Type}{u:Unsupported}:di P (Go.unsupported u:Sem α):=λ_ _=>rfl
def di.sizeOf{t:aj}:di P (sizeOf t):=λ_ _=>events_sizeOf ..
def di.underlying{t:aj}:di P (underlying t):=λ_ _=>events_underlying ..
def di.zeroValue{t:aj}:di P (zeroValue t):=λ_ _=>events_zeroValue ..
def di.newObj{o:Obj}:di P (newObj o):=λ_ _=>rfl
def di.newRow{t:aj}{c:Array ah}:di P (newRow t c):=.bind .newObj λ_=>.pure
def di.QE{α β:Type}{f:α->Sem β}(h:∀a,di P (f a)):∀l:List α,di P (l.mapM f)
  | []=>by rw[List.mapM_nil];exact .pure
  | a::l=>by rw[lT];exact .bind (h a) λ_=>.bind (di.QE h l) λ_=>.pure
def di.map{α β:Type}{f:α->β}{m:Sem α}(h:di P m):di P (Functor.map f m):=λw es=>by rw[Sem.events_map];exact h w es
def di.Ve{α β:Type}{f:α->Sem β}(h:∀a,di P (f a))(l:Array α):di P (l.mapM f):=by rw[rv];exact .map (.QE h _)
def di.J6{α β:Type}{F:α->β->Sem (ForInStep β)}(h:∀a b,di P (F a b)):∀(l:List α) (b:β),di P (forIn l b F)
  | [],b=>by rw[List.forIn_nil];exact .pure
  | a::l,b=>by
    rw[List.forIn_cons];refine .bind (h a b) λr=>?_;cases r with
    | done b=>exact .pure
    | yield b=>exact di.J6 h l b
theorem di.build{t:aj}{parts:Array (Nat×ah)}:di P (Instr.build t parts):=by
  unfold Instr.build;refine .bind .zeroValue λz=>.bind .underlying λd=>?_;cases d<;>first
    | exact .stuck
    | (refine .bind (.Ve (λ_=>.bind .sizeOf λ_=>.pure) _) λpl=>?_
       split
       · exact .pure
       · exact .stuck)
    | (refine .bind .sizeOf λn=>?_
       split
       · exact .pure
       · exact .stuck)
theorem di.buildSlice{t:aj}{n:Nat}{parts:Array (Nat×ah)}:di P (Instr.buildSlice t n parts):=by
  unfold Instr.buildSlice;refine .bind .underlying λd=>?_;cases d<;>first
    | exact .stuck
    | (refine .bind .sizeOf λm=>?_
       dsimp only
       have hj:∀(elem:aj) (zero:Array ah),di P (match Instr.fill (λi=>aa (i*m,m)) (Array.map (λx=>zero[x % zero.size]!) (Array.range (n*m))) parts.toList with
          | some cells=>do
            let a<-Go.newRow elem cells
            Pure.pure (Value.slice (aa a) n n)
          | _=>Go.stuck "buildSlice: a part of the wrong size"):=by
         intro elem zero;split
         · exact .bind .newRow λ_=>.pure
         · exact .stuck
       by_cases b:n*m=0
       · simp only[b,cq]
         rw[b]at hj;split
         · grind
         · exact .bind .pure λz=>hj _ z
       · simp only[b,ck]
         split
         · exact .bind .unsupported λ_=>.bind .zeroValue λz=>.bind .pure λz=>hj _ z
         · exact .bind .zeroValue λz=>.bind .pure λz=>hj _ z)
def j0{s:St}{b o:Nat}{L:Loc}(a:L∈s.β)(c:b∈L.bs):ox s (Ac b o):=⟨rfl,rfl,.inr (.inl ⟨⟨L,a,c⟩,λh=>by cases h⟩)⟩
def BZ{s:St}{b o:Nat}{v:ah}(h:s.M b o=aa v):ox s (Ac b o):=⟨rfl,rfl,.inr (.inr ⟨rfl,v,h⟩)⟩
theorem jX{s:St}{b o:Nat}{L:Loc}(c:L∈s.β)(d:b∈L.bs)(a:s.M b o=af):ox s (HP b o):=⟨rfl,rfl,.inr (.inl ⟨⟨L,c,d⟩,λ_=>a⟩)⟩
end
structure TI where
 size:Nat
 bytes:Nat
 agg:Bool
 desc:TypeDesc
 zero:List C
 eq:List TypeDesc:=[]
def rN:TypeDesc->ah->ah->Option Bool
 |.int _,.int k a,.int k' b=>if k=k' then aa (a==b)else af
 |.string,.string a,.string b=>aa (a.toList==b.toList)
 |.bool,.bool a,.bool b=>aa (a==b)
 |_,_,_=>af
def kh:List TypeDesc->List ah->List ah->Option Bool
 |[],[],[]=>aa ab
 |d::ds,v::vs,w::ws=>match rN d v w with
  |some a=>match kh ds vs ws with
   |some b=>aa (a&&b)
   |none=>af
  |none=>af
 |_,_,_=>af
def ET:TypeDesc->Bool
 |.struct _|.array _ _=>ab
 |_=>ae
structure bH(P:ar)(t:aj)(i:TI):Prop where
 Ut:P.underlying t=aa i.desc
 agg:ET i.desc=i.agg
 info:∃inf z,P.info? t=aa inf/\inf.size=i.size/\inf.bytes=i.bytes/\inf.zero=aa z/\z.cells.toList.map sJ=i.zero.map aa/\(∃cs,z=if i.agg then .agg cs else z)/\i.zero.length=i.size
 eqs:i.eq≠[]->P.eqGuardType P.depth t=ae/\∀(w:aA) (vs ws:List ah) (b:Bool),kh i.eq vs ws=aa b->(Op.equal t (.agg vs.toArray) (.agg ws.toArray)).run P w=.ok b w/\∀es,(Op.equal t (.agg vs.toArray) (.agg ws.toArray)).events P w es=es
def bG:List (Nat×TI)->Nat->Option TI
 |[],_=>af
 |(i,d)::r,t=>cond (aB i t) (aa d) (bG r t)
def cW(P:ar)(T:List (Nat×TI)):Prop:=∀t i,bG T t=aa i->bH P t i
section
variable {P:ar}{w:aA}{t:aj}{i:TI}
def bH.run_underlying(h:bH P t i):(underlying t).run P w=.ok i.desc w:=by simp[underlying,h.Ut]
def bH.kG(h:bH P t i):(isAgg t).run P w=.ok i.agg w:=by have:=h.agg;unfold Go.isAgg;rw[bT,h.run_underlying];cases a:i.desc<;>rw[a]at this<;>simp[ET]at this<;>simp[this]
def bH.run_sizeOf(h:bH P t i):(sizeOf t).run P w=.ok i.size w:=by obtain⟨a,z,h1,h2,_⟩:=h.info;simp[sizeOf,typeInfo,h1,h2]
def k7{σ:List aR}{s:St}:∀{vs:List ah}{cs:List C},vs.map sJ=cs.map aa->ei σ s vs (cs.map A.c)
 |[],[],_=>trivial
 |[],_::_,h=>by grind
 |_::_,[],h=>by grind
 |v::vs,c::cs,h=>by simp only[qu,List.cons.injEq]at h;exact⟨Rd.sJ h.1,k7 h.2⟩
def bH.CK(h:bH P t i)(σ:List aR)(s:St):∃z,(zeroValue t).run P w=.ok z w/\ei σ s z.cells.toList (i.zero.map A.c):=by obtain⟨a,z,h1,h2,e,b,d,_⟩:=h.info;exact⟨z,by simp[zeroValue,typeInfo,h1,b],k7 d⟩
end
def kI:D->Option (List A)
 |.e (.one a)=>aa [a]
 |.e (.agg cs)=>aa cs
 |_=>af
theorem l4{σ:List aR}{s:St}{v:ah}{d:D}{cs:List A}(h:kI d=aa cs)(r:dt σ s v d):ei σ s v.cells.toList cs:=by
 cases d with
 |e x =>
  cases x with
  |one a =>
   cases h;have:=gB.cell r;cases v<;>first|exact⟨r,ay⟩|cases this
  |agg c =>
   cases h;obtain⟨vs,rfl,b⟩:=r;simpa[Value.cells]using b
 |fa xs=>cases h
 |any=>cases h
def bM.newVar{P:ar}{o:au}{b:aq->D}{σ:List aR}{E:aj}{cs:List A}(h:∀s a,aF σ s->(∀y,dt σ s (a y) (b y))->∃v:ah,(aw a o).run P s.w=((do pure (.value (.pointer (aa (<-newVar E v))))):Sem Next).run P s.w/\ei σ s v.cells.toList cs/\(aw a o).events P s.w #[]=#[]):
  bM P o b σ (.e (.one (.ptr σ.length 0))) (σ++[.cells E cs]):=by
 intro s a hh hr;obtain⟨v,h1,h2,c⟩:=h s a hh hr;refine⟨.value (.pointer (aa ⟨s.w.heap.size,0,af⟩)),s.ga E v.cells.toList,?_,?_,hh.ga h2,.ga s E _ _,by rw[c];exact .nil⟩
 .rw[h1];simp[Go.newVar,newRow,St.ga]
 .refine⟨by simp,⟨.pointer (aa ⟨s.w.heap.size,0,af⟩),[s.w.heap.size]⟩,s.w.heap.size,?_,rfl,rfl⟩;simp[St.ga,<-hh.len]
theorem bM.alloc{P:ar}{T:List (Nat×TI)}(hT:cW P T){o:au}{b:aq->D}{σ:List aR}{E:aj}(h:o.op=.alloc E){i:TI}(hi:bG T E=aa i):
  bM P o b σ (.e (.one (.ptr σ.length 0))) (σ++[.cells E (i.zero.map A.c)]):=by refine .newVar λs f _ _=>?_;obtain⟨z,a,d⟩:=(hT E i hi).CK (w:=s.w) σ s;exact⟨z,by simp[aw,h,Instr.alloc,a],d,by simp[aw,h,Instr.alloc,a,Go.newVar,newRow]⟩
theorem bM.box{P:ar}{o:au}{a:aq->D}{σ:List aR}{E:aj}{x:aq}(h:o.op=.box E x){cs:List A}(d:kI (a x)=aa cs):
  bM P o a σ (.e (.one (.ptr σ.length 0))) (σ++[.cells E cs]) :=
 .newVar λs c _ b=>⟨c x,by simp[aw,h,Instr.box],l4 d (b x),by simp[aw,h,Instr.box,Go.newVar,newRow]⟩
def oV{α:Type}:Nat->List α->Option (List α)
 |0,_=>aa []
 |n+1,x::xs=>match oV n xs with|some r=>aa (x::r)|none=>af
 |_+1,[]=>af
def nO{α:Type}:∀{n:Nat}{l r:List α},oV n l=aa r->r=l.take n/\r.length=n
 |0,l,r,h=>by cases h;simp
 |n+1,[],r,h=>by simp[oV]at h
 |n+1,x::xs,r,h=>by
  simp only[oV]at h;cases a:oV n xs with
  |none=>grind
  |some q =>
   simp[a]at h;subst h;obtain⟨b,c⟩:=nO a;grind
def dC{α:Type}:Nat->List α->Option α
 |_,[]=>af
 |0,x::_=>aa x
 |n+1,_::xs=>dC n xs
theorem b9{α:Type}:∀{n:Nat}{l:List α}{x:α},dC n l=aa x->l[n]?=aa x
 |_,[],_,h=>by simp[dC]at h
 |0,x::_,_,h=>by simpa[dC]using h
 |n+1,_::xs,_,h=>by simpa using b9 (n:=n) (l:=xs) h
def fV{α:Type}:Nat->List α->List α
 |0,l=>l
 |_+1,[]=>[]
 |n+1,_::xs=>fV n xs
def mo{α:Type}:∀(n:Nat)(l:List α),fV n l=l.drop n
 |0,_=>by simp[fV]
 |_+1,[]=>by simp[fV]
 |n+1,_::xs=>by simp[fV,mo n xs]
def lb(i:TI)(cs:List A):Option E1 :=
 match i.agg with
 |true=>match oV i.size cs with|some r=>aa (.agg r)|none=>af
 |false=>match dC 0 cs with|some a=>aa (.one a)|none=>af
def iL{P:ar}{σ:List aR}{s:St}{t:aj}{i:TI}(l:bH P t i){b off:Nat}{vs:List ah}{cs:List A}{e:E1}(x:∀(j:Nat) (v:ah),vs[j]?=aa v->s.w.cell? ⟨b,off+j,af⟩=aa v)(k:ei σ s vs cs)(g:lb i cs=aa e):
  ∃v,(loadVar t ⟨b,off,af⟩).run P s.w=.ok v s.w/\nC σ s v e:=by
 simp only[loadVar,bT,l.kG,b5];cases o:i.agg<;>simp only[lb,o]at g
 .cases f:dC 0 cs with
  |none=>grind
  |some a =>
   simp[f]at g;subst g;obtain⟨v,q,h⟩:=k.get (b9 f);refine⟨v,?_,h⟩;grind[run_load]
 .cases f:oV i.size cs with
  |none=>grind
  |some r =>
   simp[f]at g;subst g;obtain⟨n,p⟩:=nO f;have c:=k.take i.size;rw[<-n]at c;have m:(vs.take i.size).length=i.size:=by rw[c.length,p]
   have d:=run_loadCells_list (P:=P) s.w ⟨b,off,af⟩ (vs.take i.size) (λj v u=>by grind[du])
   rw[m]at d;refine⟨.agg (vs.take i.size).toArray,?_,vs.take i.size,rfl,c⟩;simp[l.run_sizeOf,d]
def gu{P:ar}{w:aA}{t:aj}{i:TI}(g:bH P t i){b off n:Nat}(k:∀j,j<n->∃v,w.cell? ⟨b,off+j,af⟩=aa v)(c:(if i.agg then i.size else 1)<=n):
  ∀e∈(loadVar t ⟨b,off,af⟩).events P w #[],∃j,j<n/\e=Ac b (off+j):=by
 intro e a;simp only[loadVar,aM,g.kG,aP,events_isAgg]at a;cases f:i.agg
 .rw[f]at c a;obtain⟨v,d⟩:=k 0 (by grind);simp only[iE]at d;simp only[jP,ck,Af d]at a;rcases Array.mem_push.1 a with h|rfl
  .grind
  .exact⟨0,by grind,rfl⟩
 .rw[f]at c a;simp only[cq]at c;simp only[cq,aM,g.run_sizeOf,aP,events_sizeOf]at a;have key:∀e∈(loadCells ⟨b,off,af⟩ i.size).events P w #[],∃j,j<n/\e=Ac b (off+j):=by
   intro e a;rcases sC (P:=P) (λj l=>k j (by omega)) e a with h|⟨j,l,rfl⟩
   .grind
   grind
  apply key;generalize(loadCells ⟨b,off,af⟩ i.size).run P w=r at a;cases r with
  |ok v w'=>simpa using a
  |halt x w'=>simpa using a
theorem ld{i:TI}{cs:List A}{e:E1}(h:lb i cs=aa e):(if i.agg then i.size else 1)<=cs.length:=by
 unfold lb at h;cases a:i.agg<;>rw[a]at h
 .cases cs with
  |nil=>simp[dC]at h
  |cons c cs=>simp
 .simp only at h;cases b:oV i.size cs with
  |none=>grind
  |some r =>
   obtain⟨d,f⟩:=nO b;grind
theorem bM.GD{P:ar}{T:List (Nat×TI)}(hT:cW P T){o:au}{u:aq->D}{σ:List aR}{t:aj}{x:aq}(h:o.op=.load t x){l off:Nat}{E:aj}{cs:List A}{i:TI}{e:E1}(C:u x=.e (.one (.ptr l off)))(hB:σ[l]?=aa (.cells E cs))(hi:bG T t=aa i)(B:lb i (fV off cs)=aa e):bM P o u σ (.e e) σ:=by
 refine .oz λs F hh hr=>?_
 have h1:=hr x;rw[C]at h1;obtain⟨_,L,b,z,a,p⟩:=h1;obtain⟨k,vs,rfl,y,c,_⟩:=hh.box l _ L hB z;simp at a;subst a;rw[mo]at B;obtain⟨v,g,m⟩:=iL (s:=s) (σ:=σ) (P:=P) (hT t i hi) (b:=k) (off:=off) (vs:=vs.drop off) (cs:=cs.drop off) (e:=e) (λj v hj=>by
  simp only[aV,y]
  grind) (c.drop off) B
 refine⟨v,by simp[aw,h,p,Instr.loadAt,bq,g],m,λq d=>?_⟩;have f:q∈(loadVar t ⟨k,off,af⟩).events P s.w #[]:=by
  have e:aw F o=(do pure (.value (<-loadVar t ⟨k,off,af⟩))):=by simp[aw,h,p,Instr.loadAt,bq]
  rw[e]at d;simpa[g]using d
 have r:(vs.drop off).length=(cs.drop off).length:=(c.drop off).length;obtain⟨j,hj,rfl⟩:=gu (hT t i hi) (n:=(vs.drop off).length) (λj hj=>by refine⟨(vs.drop off)[j],?_⟩;simp only[aV,y];simp at hj⊢<;>omega) (by grind[ld]) q f
 exact j0 (bP z) (by simp)
theorem bM.Ke{P:ar}{T:List (Nat×TI)}(hT:cW P T){o:au}{B:aq->D}{σ:List aR}{t:aj}{x:aq}(h:o.op=.load t x){cs:List C}{i:TI}{e:E1}(F:B x=.e (.one (.c (.rp cs))))(hi:bG T t=aa i)(E:lb i (cs.map A.c)=aa e):bM P o B σ (.e e) σ:=by
 refine .oz λs y hh hr=>?_;have h1:=hr x;rw[F]at h1;have h2:=e9 h1;generalize m:y x=vx at h2;cases h2;rename_i b off f q G;have p:∀(n:Nat) (ds:List C),(∀j c,ds[j]?=aa c->Rd s.M (f (n+j)) c)->ei σ s ((bh ds.length).map λj=>f (n+j)) (ds.map A.c):=by
  intro n ds;induction ds generalizing n with
  |nil=>intro _;trivial
  |cons d ds ih =>
   intro z;rw[fb,vE];refine⟨z 0 d rfl,?_⟩;have:=ih (n+1) (λj c hj=>by have:=z (j+1) c (by grind);grind);grind[Function.comp_def]
 obtain⟨v,k,r⟩:=iL (s:=s) (σ:=σ) (P:=P) (hT t i hi) (b:=b) (off:=off) (vs:=(bh cs.length).map λj=>f (0+j)) (cs:=cs.map A.c) (e:=e) (λj v hj=>by
  simp only[nk,bF]at hj;by_cases l:j<cs.length
  .simp[l]at hj;subst hj;exact hh.mem _ _ _ (q j cs[j] (br l))
  grind) (p 0 cs (by grind)) E
 refine⟨v,by simp[aw,h,m,Instr.loadAt,bq,k],r,λu a=>?_⟩;have g:u∈(loadVar t ⟨b,off,af⟩).events P s.w #[]:=by
  have e:aw y o=(do pure (.value (<-loadVar t ⟨b,off,af⟩))):=by simp[aw,h,m,Instr.loadAt,bq]
  rw[e]at a;simpa[k]using a
 obtain⟨j,hj,rfl⟩:=gu (hT t i hi) (n:=cs.length) (λj hj=>⟨f j,hh.mem _ _ _ (q j cs[j] (br hj))⟩) (by have:=ld E;grind) u g;exact BZ (q j cs[j] (br hj))
def fH{α:Type}:Nat->List α->List α->Option (List α)
 |0,[],l=>aa l
 |0,n::ns,_::cs=>match fH 0 ns cs with|some r=>aa (n::r)|none=>af
 |k+1,ns,c::cs=>match fH k ns cs with|some r=>aa (c::r)|none=>af
 |_,_,[]=>af
def qJ{α:Type}:∀{off:Nat}{new l r:List α},fH off new l=aa r->off+new.length<=l.length/\r=l.take off++new++l.drop (off+new.length)
 |0,[],l,r,h=>by cases l<;>cases h<;>simp
 |0,n::ns,c::cs,r,h=>by
  simp only[fH]at h;cases a:fH 0 ns cs with
  |none=>grind
  |some q =>
   simp[a]at h;subst h;obtain⟨b,d⟩:=qJ a;grind
 |0,n::ns,[],r,h=>by simp[fH]at h
 |k+1,ns,c::cs,r,h=>by
  simp only[fH]at h;cases a:fH k ns cs with
  |none=>grind
  |some q =>
   simp[a]at h;subst h;obtain⟨b,d⟩:=qJ a;grind
 |k+1,ns,[],r,h=>by simp[fH]at h
def ei.fH{σ:List aR}{s:St}{off:Nat}{vs new:List ah}{cs Sz r:List A}(h:AM.fH off Sz cs=aa r)(h1:ei σ s vs cs)(h2:ei σ s new Sz):
  off+new.length<=vs.length/\ei σ s (vs.take off++new++vs.drop (off+new.length)) r:=by obtain⟨k1,rfl⟩:=qJ h;rw[h2.length,h1.length];refine⟨k1,((h1.take off).append h2).append (by have:=h1.drop (off+Sz.length);exact this)⟩
theorem bM.store{P:ar}{T:List (Nat×TI)}(hT:cW P T){o:au}{q:aq->D}{σ:List aR}{t:aj}{x y:aq}(h:o.op=.store t x y){l off:Nat}{E:aj}{cs new nG:List A}{i:TI}(I:q x=.e (.one (.ptr l off)))(hB:σ[l]?=aa (.cells E cs))(hi:bG T t=aa i)(M:kI (q y)=aa new)(F:new.length=i.size)(K:fH off new cs=aa nG):
  bM P o q σ .any (σ.set l (.cells E nG)):=by
 intro s d hh hr;have h1:=hr x;rw[I]at h1;obtain⟨_,L,b,z,m,B⟩:=h1;obtain⟨p,vs,rfl,G,u,n⟩:=hh.box l _ L hB z;simp at m;subst m;have c:=l4 M (hr y);obtain⟨k1,H⟩:=ei.fH K u c;obtain⟨w1,w2⟩:=hh.write hB z rfl H;refine⟨.skip,_,?_,rfl,w1,w2,?_⟩
 rotate_left
 .intro C a;have f:(d y).cells.size=i.size:=by rw[<-F,<-c.length,jA]
  have e:aw d o=(do storeVar t ⟨p,off,af⟩ (d y);pure .skip):=by simp[aw,h,B,Instr.storeAt,bq]
  rw[e]at a;have g:C∈(storeCells ⟨p,off,af⟩ (d y).cells.toList).events P s.w #[]:=by
   simp only[storeVar,aM,(hT t i hi).run_sizeOf,f,aP,events_sizeOf,dy,ft,ck,bT,b5,Sem.events_pure]at a;generalize(storeCells ⟨p,off,af⟩ (d y).cells.toList).run P s.w=r at a;cases r with
   |ok v w'=>simpa using a
   |halt x w'=>simpa using a
  rcases dN (d y).cells.toList 0 vs.toArray s.w #[] G (by grind) c.cell C g with J|⟨j,_,_,rfl⟩
  .grind
  .exact jX (bP z) (by simp) (n _)
 have k:=run_storeCells_at P p off E (d y).cells.toList 0 vs.toArray s.w G (by grind) (c.cell);have f:(d y).cells.size=i.size:=by rw[<-F,<-c.length,jA]
 simp only[iE]at k;simp[aw,h,B,Instr.storeAt,bq,storeVar,(hT t i hi).run_sizeOf,f,k]
def j5(T:List (Nat×TI))(t:aj)(f:Nat):Option (Nat×TI) :=
 match bG T t with
 |some i=>match i.desc with
  |.struct fs=>match dC f fs.toList with
   |some fl=>match bG T fl.type with
    |some j=>cond (aB j.size 0) af (aa (fl.offset,j))
    |none=>af
   |none=>af
  |_=>af
 |none=>af
def ug{P:ar}{T:List (Nat×TI)}(hT:cW P T){t:aj}{f off:Nat}{j:TI}(h:j5 T t f=aa (off,j)):
  ∃i fs fl,bG T t=aa i/\i.desc=.struct fs/\fs[f]?=aa fl/\fl.offset=off/\bG T fl.type=aa j/\j.size≠0/\bH P t i/\bH P fl.type j:=by
 unfold j5 at h;split at h
 .rename_i i hi;split at h
  .rename_i fs Zc;split at h
   .rename_i fl hfl;split at h
    .rename_i c b;cases a:aB c.size 0<;>simp[a]at h
     obtain⟨rfl,rfl⟩:=h;refine⟨i,fs,fl,hi,Zc,by simpa using b9 hfl,rfl,b,?_,hT _ _ hi,hT _ _ b⟩;intro e;rw[e]at a;cases a
    grind
   grind
  grind
 grind
def mY{P:ar}{T:List (Nat×TI)}(hT:cW P T){t:aj}{f off:Nat}{j:TI}(h:j5 T t f=aa (off,j))(b o:Nat)(w:aA):
  (Instr.fieldAt t (.pointer (aa ⟨b,o,af⟩)) f).run P w=.ok (.pointer (aa ⟨b,o+off,af⟩)) w:=by obtain⟨i,fs,l,n,k,g,d,m,c,a,e⟩:=ug hT h;simp[Instr.fieldAt,a.run_underlying,k,g,bq,fieldPlace,e.run_sizeOf,c,du,d]
def oJ{P:ar}{T:List (Nat×TI)}(hT:cW P T){t:aj}{f off:Nat}{j:TI}(h:j5 T t f=aa (off,j))(b o:Nat)(w:aA)(es:Array Event):
  (Instr.fieldAt t (.pointer (aa ⟨b,o,af⟩)) f).events P w es=es:=by obtain⟨i,fs,k,m,g,e,n,l,c,a,d⟩:=ug hT h;simp[Instr.fieldAt,a.run_underlying,g,e,bq,fieldPlace,d.run_sizeOf,c]
def bM.sU{P:ar}{T:List (Nat×TI)}(hT:cW P T){o:au}{g:aq->D}{σ:List aR}{t:aj}{x:aq}{f:Nat}(h:o.op=.fieldAddr t x f){l off k:Nat}{j:TI}(i:g x=.e (.one (.ptr l off)))(d:j5 T t f=aa (k,j)):bM P o g σ (.e (.one (.ptr l (off+k)))) σ:=by refine .quiet λs p hh hr=>?_;have h1:=hr x;rw[i]at h1;obtain⟨n,L,b,m,a,c⟩:=h1;exact⟨.pointer (aa ⟨b,off+k,af⟩),by simp[aw,h,c,mY hT d],⟨n,L,b,m,a,rfl⟩,by simp[aw,h,c,oJ hT d]⟩
theorem bM.uQ{P:ar}{T:List (Nat×TI)}(hT:cW P T){o:au}{g:aq->D}{σ:List aR}{t:aj}{x:aq}{f:Nat}(h:o.op=.fieldAddr t x f){cs:List C}{k:Nat}{j:TI}(i:g x=.e (.one (.c (.rp cs))))(d:j5 T t f=aa (k,j)):bM P o g σ (.e (.one (.c (.rp (fV k cs))))) σ:=by
 refine .quiet λs m hh hr=>?_;have h1:=hr x;rw[i]at h1;have h2:=e9 h1;generalize a:m x=vx at h2;cases h2;rename_i b o l p n;refine⟨.pointer (aa ⟨b,o+k,af⟩),by simp[aw,h,a,mY hT d],?_,by simp[aw,h,a,oJ hT d]⟩;rw[mo];refine Rd.rp b (o+k) (λj=>l (k+j)) (λj c hj=>?_) (λj c hj=>?_)
 .grind
 grind
def KO{σ:List aR}{s:St}{P:ar}{t:aj}{i:TI}(g:bH P t i){vs:List ah}{cs:List A}(r:ei σ s vs cs){off:Nat}{e:E1}(b:lb i (fV off cs)=aa e)(w:aA):
  ∃v,(part t vs.toArray off).run P w=.ok v w/\nC σ s v e/\∀es,(part t vs.toArray off).events P w es=es:=by
 simp only[part,bT,g.kG,b5,aM,aP,events_isAgg];rw[mo]at b;cases k:i.agg<;>simp only[lb,k]at b
 .cases d:dC 0 (cs.drop off)with
  |none=>grind
  |some a =>
   simp[d]at b;subst b;obtain⟨v,h,f⟩:=(r.drop off).get (b9 d);simp at h;refine⟨v,?_,f,λes=>?_⟩<;>simp[h]
 .cases d:oV i.size (cs.drop off)with
  |none=>grind
  |some q =>
   simp[d]at b;subst b;obtain⟨j,l⟩:=nO d;have c:=(r.drop off).take i.size;rw[<-j]at c;refine⟨.agg (vs.toArray.extract off (off+i.size)),by simp[g.run_sizeOf],⟨(vs.drop off).take i.size,?_,c⟩,λes=>by simp⟩;simp
theorem bM.field{P:ar}{T:List (Nat×TI)}(hT:cW P T){o:au}{n:aq->D}{σ:List aR}{t:aj}{x:aq}{f:Nat}(h:o.op=.field t x f){cs:List A}{k:Nat}{j:TI}{e:E1}(q:n x=.e (.agg cs))(r:j5 T t f=aa (k,j))(y:lb j (fV k cs)=aa e):bM P o n σ (.e e) σ:=by refine .quiet λs B hh hr=>?_;have h1:=hr x;rw[q]at h1;obtain⟨vs,g,d⟩:=h1;obtain⟨i,fs,fl,h1,h2,p,m,C,z,l,u⟩:=ug hT r;obtain⟨v,c,b,a⟩:=KO u d y s.w;exact⟨v,by simp[aw,h,g,Instr.field,l.run_underlying,h2,p,asAgg,m,c],b,by simp[aw,h,g,Instr.field,l.run_underlying,h2,p,asAgg,m,a]⟩
theorem bM.uR{P:ar}{o:au}{d:aq->D}{σ:List aR}{x:aq}(h:o.op=.nilCheck x){l off:Nat}(g:d x=.e (.one (.ptr l off))):bM P o d σ (.e (.one (.ptr l off))) σ:=by refine .quiet λs i hh hr=>?_;have h1:=hr x;rw[g]at h1;have a:=h1;obtain⟨k,L,b,j,f,c⟩:=h1;exact⟨i x,by simp[aw,h,c],a,by simp[aw,h,c]⟩
theorem bM.wZ{P:ar}{o:au}{b:aq->D}{σ:List aR}{x:aq}(h:o.op=.nilCheck x){cs:List C}(f:b x=.e (.one (.c (.rp cs)))):bM P o b σ (.e (.one (.c (.rp cs)))) σ:=by refine .quiet λs d hh hr=>?_;have h1:=hr x;rw[f]at h1;have h2:=e9 h1;generalize a:d x=vx at h2;cases h2;exact⟨_,by simp[aw,h,a];rfl,by grind,by simp[aw,h,a]⟩
def Ig(new:List ah):∀(j off:Nat)(cs:Array ah),off+j+new.length<=cs.size ->
  ((new.zipIdx j).foldl (λcs (x:ah×Nat)=>cs.setIfInBounds (off+x.2) x.1) cs).toList=cs.toList.take (off+j)++new++cs.toList.drop (off+j+new.length):=by
 induction new with
 |nil=>intro j off cs _;simp
 |cons v vs ih =>
  intro j off cs h;simp only[List.zipIdx_cons,jC];rw[ih (j+1) off _ (by grind)];have:=list_seg_step cs.toList (off+j) v vs (by grind);simpa[Array.toList_setIfInBounds,Nat.add_assoc]using this
def y7(place:Nat->Option (Nat×Nat)):List (Nat×List A)->List A->Option (List A)
 |[],cs=>aa cs
 |(i,new)::rest,cs=>match place i with
  |some (off,size)=>match aB new.length size with
   |true=>match fH off new cs with
    |some r=>y7 place rest r
    |none=>af
   |false=>af
  |none=>af
def xm{σ:List aR}{s:St}{place place':Nat->Option (Nat×Nat)}(l:∀i p,place i=aa p->place' i=aa p):∀{parts:List (Nat×List A)}{vparts:List (Nat×ah)}{cs r:List A}{vs:Array ah},
  y7 place parts cs=aa r->vparts.map (·.1)=parts.map (·.1)->(∀(k:Nat) (p:Nat×List A) (q:Nat×ah),parts[k]?=aa p->vparts[k]?=aa q->ei σ s q.2.cells.toList p.2)->ei σ s vs.toList cs ->
  ∃d,Instr.fill place' vs vparts=aa d/\ei σ s d.toList r
 |[],[],cs,r,vs,h,_,_,c=>by cases h;exact⟨vs,rfl,c⟩
 |[],_::_,cs,r,vs,h,a,_,c=>by grind
 |_::_,[],cs,r,vs,h,a,_,c=>by grind
 |(i,new)::rest,(e,v)::VC,cs,r,vs,h,a,hk,c=>by
  simp only[qu,List.cons.injEq]at a;obtain⟨rfl,a⟩:=a;simp only[y7]at h;cases b:place e with
  |none=>grind
  |some p =>
   obtain⟨off,size⟩:=p;simp only[b]at h;cases n:aB new.length size with
   |false=>grind
   |true =>
    simp only[n]at h;cases j:fH off new cs with
    |none=>grind
    |some q =>
     simp only[j]at h;have f:=hk 0 (e,new) (e,v) rfl rfl;simp only at f;have y:=f.length;have m:new.length=size:=bX n;obtain⟨k1,z⟩:=ei.fH j c f;have w:=Ig v.cells.toList 0 off vs (by grind);have g:v.cells.size=size:=by grind
     have t:off+size<=vs.size:=by grind
     obtain⟨d,u,o⟩:=xm (σ:=σ) (s:=s) l (parts:=rest) (vparts:=VC) (cs:=q) (r:=r)
      (vs:=v.cells.zipIdx.foldl (λcs (x:ah×Nat)=>cs.setIfInBounds (off+x.2) x.1) vs) h a (λk p q u o=>hk (k+1) p q (by grind) (by grind)) (by grind[Array.toList_zipIdx])
     refine⟨d,?_,o⟩;simp only[Instr.fill,l _ _ b,g,dy,ft,kS,Bool.false_or,a9];grind
def qK(T:List (Nat×TI)):List Field->Option (List (Nat×Nat))
 |[]=>aa []
 |f::fs=>match bG T f.type with
  |some j=>match qK T fs with
   |some r=>aa ((f.offset,j.size)::r)
   |none=>af
  |none=>af
def xn{P:ar}{T:List (Nat×TI)}(hT:cW P T):∀{fs:List Field}{r:List (Nat×Nat)},qK T fs=aa r->fs.mapM (λf=>(P.info? f.type).map λi=>(f.offset,i.size))=aa r
 |[],r,h=>by cases h;simp
 |f::fs,r,h=>by
  simp only[qK]at h;cases a:bG T f.type with
  |none=>grind
  |some j =>
   cases b:qK T fs with
   |none=>grind
   |some q =>
    simp[a,b]at h;subst h;obtain⟨d,z,c,e,_⟩:=(hT _ _ a).info;simp[lT,c,e,xn hT b]
def pP(a:aq->D):List (Nat×aq)->Option (List (Nat×List A))
 |[]=>aa []
 |(i,x)::r=>match kI (a x)with
  |some cs=>match pP a r with
   |some q=>aa ((i,cs)::q)
   |none=>af
  |none=>af
def uh{σ:List aR}{s:St}{b:aq->ah}{a:aq->D}(d:∀y,dt σ s (b y) (a y)):∀{l:List (Nat×aq)}{q:List (Nat×List A)},pP a l=aa q ->
  (l.map λ(i,x)=>(i,b x)).map (·.1)=q.map (·.1)/\∀(k:Nat) (p:Nat×List A) (u:Nat×ah),q[k]?=aa p->(l.map λ(i,x)=>(i,b x))[k]?=aa u->ei σ s u.2.cells.toList p.2
 |[],q,h=>by cases h;simp
 |(i,x)::r,q,h=>by
  simp only[pP]at h;cases e:kI (a x)with
  |none=>grind
  |some cs =>
   cases c:pP a r with
   |none=>grind
   |some q' =>
    simp[e,c]at h;subst h;obtain⟨f,g⟩:=uh d c;grind[l4]
def Aw(T:List (Nat×TI))(a:aq->D)(t:aj)(parts:List (Nat×aq)):Option (List A) :=
 match bG T t with
 |some i=>match i.desc with
  |.struct fs=>match qK T fs.toList with
   |some pl=>match pP a parts with
    |some ps=>y7 (λk=>dC k pl) ps (i.zero.map A.c)
    |none=>af
   |none=>af
  |_=>af
 |none=>af
theorem bM.build{P:ar}{T:List (Nat×TI)}(hT:cW P T){o:au}{g:aq->D}{σ:List aR}{t:aj}{parts:Array (Nat×aq)}(h:o.op=.build t parts){cs:List A}(b:Aw T g t parts.toList=aa cs):bM P o g σ (.e (.agg cs)) σ:=by
 refine .quiet λs m hh hr=>?_;unfold Aw at b;cases hi:bG T t with
 |none=>grind
 |some i =>
  simp only[hi]at b;cases l:i.desc with
  |struct fs =>
   simp only[l]at b;cases c:qK T fs.toList with
   |none=>grind
   |some pl =>
    simp only[c]at b;cases f:pP g parts.toList with
    |none=>grind
    |some ps =>
     simp only[f]at b;obtain⟨B,z,u,G,F,q,y,C,E⟩:=(hT t i hi).info;obtain⟨n,p2⟩:=uh (σ:=σ) (s:=s) hr f;obtain⟨d,v,r⟩:=xm (σ:=σ) (s:=s) (place':=λk=>pl.toArray[k]?) (λk p hk=>by grind[b9]) b n p2 (k7 y);have j:P.built t (parts.map λ(i,x)=>(i,m x)).toList=aa d:=by unfold Program.built;have a:=(hT t i hi).Ut;rw[l]at a;simp only[u,a,q,xn hT c];simpa using v
     refine⟨.agg d,?_,⟨d.toList,by simp,r⟩,?_⟩
     .simp only[aw,h,bT,run_build s.w t _ d j,b5,dx]
     .simp only[aw,h,aM,run_build s.w t _ d j,aP,Sem.events_pure];exact di.build s.w #[]
  |_=>grind
theorem SI{k n i j:Nat}(hi:i<n)(a:j<k):i*k+j<n*k:=by have b:(i+1)*k<=n*k:=eP k (by omega);grind
theorem OU{k i j:Nat}(a:j<k):(i*k+j) / k=i:=by grind[Nat.mul_comm,Nat.mul_add_div,Nat.div_eq_of_lt]
theorem OV{k i j:Nat}(a:j<k):(i*k+j) % k=j:=by rw[Nat.mul_comm,Nat.mul_add_mod,Nat.mod_eq_of_lt a]
def Flat.nil{M:Mem}{k:Nat}{es:Nat->List C}:Flat M k 0 es []:=⟨by simp,by omega,by omega⟩
def cK(n:Nat)(f g:Nat->List C):Nat->List C:=λi=>if i<n then f i else g (i-n)
def Flat.append{M:Mem}{k n m:Nat}{es es':Nat->List C}{vs Ak:List ah}(h:Flat M k n es vs)(b:Flat M k m es' Ak):Flat M k (n+m) (cK n es es') (vs++Ak):=by
 refine⟨by simp[h.len,b.len,iF],λi hi=>?_,λi hi j c hj=>?_⟩
 .simp only[cK];split
  .rename_i a;exact h.width i a
  .exact b.width _ (by omega)
 .simp only[cK]at hj;split at hj
  .rename_i a;obtain⟨v,h1,h2⟩:=h.rd i a j c hj;grind
  .rename_i d;obtain⟨v,h1,h2⟩:=b.rd _ (by omega) j c hj;refine⟨v,?_,h2⟩;have e1:i*k+j=vs.length+((i-n)*k+j):=by rw[h.len,<-Nat.add_assoc,<-iF,z8 (by omega)]
   grind
def Flat.cell{M:Mem}{k n:Nat}{es:Nat->List C}{vs:List ah}(h:Flat M k n es vs):∀v∈vs,v.oneCell'=ab:=by
 intro v a;obtain⟨p,b,rfl⟩:=dG a;rw[h.len]at b;have hk:0<k:=by grind
 have hi:p / k<n:=qd (by grind);have hj:p % k<k:=iS _ hk;have c:=h.width _ hi;obtain⟨v,h1,h2⟩:=h.rd (p / k) hi (p % k) ((es (p / k))[p % k]'(by omega)) (br (by omega));have e:p / k*k+p % k=p:=qm p k;rw[e]at h1;rw[br (by grind)]at h1;simp at h1;rw[h1];have:=Rd.cell h2;cases v<;>simp_all[cN,Value.oneCell']
def Rd.flat{M:Mem}{v:ah}{t:Bool}{k n:Nat}{es:Nat->List C}(h:Rd M v (.sl t k n es)):
  ∃a cap vs,v=.slice a n cap/\n<=cap/\cap<=9223372036854775807/\(t=ab->cap=n)/\Flat M k n es vs/\∀p u,vs[p]?=aa u->∃b off,a=aa ⟨b,off,af⟩/\M b (off+p)=aa u:=by
 cases h with
 |@sl a _ cap _ _ _ b off f c j i hk ha hm hr =>
  refine⟨a,cap,(bh (n*k)).map λp=>f (p / k) (p % k),rfl,c,j,i,⟨by simp,hk,?_⟩,?_⟩
  .grind [SI,OU,OV]
  .intro p u d;simp only[nk]at d;by_cases e:p<n*k
   .simp[e]at d;subst d;have g:0<k:=by grind
    have hi:p / k<n:=qd (by grind);have hj:p % k<k:=iS _ g;have l:=hk _ hi;have:=hm (p / k) hi (p % k) ((es (p / k))[p % k]'(by omega)) (br (by omega));refine⟨b,off,ha (Nat.lt_of_le_of_lt (kD _) hi),?_⟩;grind[Nat.div_add_mod']
   grind
def Rd.rB{M:Mem}{k n:Nat}{es:Nat->List C}{vs:List ah}(h:Flat M k n es vs){a:Option Addr}{b off cap:Nat}{t:Bool}(f:0<n->a=aa ⟨b,off,af⟩)(d:n<=cap)(g:cap<=9223372036854775807)(e:t=ab->cap=n)(l:∀p u,vs[p]?=aa u->M b (off+p)=aa u):Rd M (.slice a n cap) (.sl t k n es):=by
 refine .sl b off (λi j=>(vs[i*k+j]?).getD ai) d g e h.width f (λi hi j c hj=>?_) (λi hi j c hj=>?_)
 .obtain⟨v,h1,h2⟩:=h.rd i hi j c hj;grind
 .obtain⟨v,h1,h2⟩:=h.rd i hi j c hj;grind
def ek{P:ar}{σ:List aR}{s:St}(l:aF σ s){v:ah}{t:Bool}{k n:Nat}{es:Nat->List C}(h:Rd s.M v (.sl t k n es)):
  ∃vs,Flat s.M k n es vs/\(Builtin.firstCells k n v).run P s.w=.ok vs.toArray s.w/\Builtin.lenOf v=pure n:=by
 obtain⟨a,cap,vs,rfl,f,q,p,d,e⟩:=h.flat;refine⟨vs,d,?_,rfl⟩;have i:vs.length=n*k:=d.len;cases a with
 |none =>
  have:vs=[]:=by
   cases vs with
   |nil=>rfl
   |cons u o=>obtain⟨b,off,c,_⟩:=e 0 u rfl;cases c
  subst this;rfl
 |some ad =>
  simp only[Builtin.firstCells];rw[<-i];refine run_loadCells_list s.w ad vs λj u g=>?_;obtain⟨b,off,c,m⟩:=e j u g;cases c;rw[du];exact l.mem _ _ _ m
def bM.Kc{P:ar}{T:List (Nat×TI)}(hT:cW P T){o:au}{f:aq->D}{σ:List aR}{t:aj}{x y:aq}(h:o.op=.index t x y){l:List UInt8}{j:Int}{k:IntKind}{i:TI}{m:Nat}(hi:bG T t=aa i)(p:i.desc=.string)(q:f x=.e (.one (.c (.str l))))(r:f y=.e (.one (.c (.int k j))))(hj:j=m)(v:m<l.length):bM P o f σ (.e (.one (.c (.int .u8 (l[m]).toNat)))) σ:=by
 refine .quiet λs n hh hr=>?_;have h1:=hr x;have h2:=hr y;rw[q]at h1;rw[r]at h2;replace h1:=e9 h1;replace h2:=e9 h2;generalize d:n x=vx at h1;generalize a:n y=vy at h2;cases h1 with
 |@str sb _ u hl =>
 cases h2;subst u;have g:sb[m]?=aa (sb.data.toList[m]):=by
  have hm':m<sb.size:=by have e:sb.data.toList.length=sb.size:=jA;omega
  rw[getElem?_pos sb m hm'];congr 1
 refine⟨.int .u8 (sb.data.toList[m]).toNat,?_,Rd.int ?_,?_⟩
 rotate_left 2
 .have b:=(hT t i hi).run_underlying (w:=s.w);rw[p]at b;simp[aw,h,d,a,Instr.index,asIntOf,b,hj,g]
 .have b:=(hT t i hi).run_underlying (w:=s.w);rw[p]at b;simp[aw,h,d,a,Instr.index,asIntOf,b,hj,g]
 .have:=(sb.data.toList[m]).toNat_lt;simp only[bD];omega
def bM.indexAddr{P:ar}{T:List (Nat×TI)}(hT:cW P T){o:au}{r:aq->D}{σ:List aR}{t:aj}{x y:aq}(h:o.op=.indexAddr t x y){i g:TI}{E:aj}(hi:bG T t=aa i)(H:i.desc=.slice E)(I:bG T E=aa g){tt:Bool}{n:Nat}{es:Nat->List C}{j:Int}{k:IntKind}{m:Nat}(G:∀s v,dt σ s v (r x)->Rd s.M v (.sl tt g.size n es))(J:r y=.e (.one (.c (.int k j))))(hj:j=m)(d:m<n):
  bM P o r σ (.e (.one (.c (.rp (es m))))) σ:=by
 refine .quiet λs A hh hr=>?_;have h1:=G s _ (hr x);have h2:=hr y;rw[J]at h2;replace h2:=e9 h2;generalize z:A x=vx at h1;generalize p:A y=vy at h2;cases h2;cases h1 with
 |@sl a _ cap _ _ _ b off f F K L hk ha hm' NG =>
 have l:0<n:=by omega
 have B:=(hT t i hi).run_underlying (w:=s.w);rw[H]at B;refine⟨.pointer (aa ⟨b,off+m*g.size,af⟩),?_,Rd.rp b (off+m*g.size) (f m) (λq c u=>hm' m d q c u) (λq c u=>NG m d q c u),?_⟩<;>
 simp[aw,h,z,p,Instr.indexAt,asIntOf,B,hj,ha l,(hT E g I).run_sizeOf,du,d]
def bM.Vg{P:ar}{T:List (Nat×TI)}(hT:cW P T){o:au}{f:aq->D}{σ:List aR}{x:aq}{b:Array aj}{t:aj}(h:o.op=.call {callee:=.builtin .len,args:=#[x],argTypes:=b})(p:b[0]?=aa t){i:TI}{E:aj}(hi:bG T t=aa i)(q:i.desc=.slice E){tt:Bool}{k n:Nat}{es:Nat->List C}(m:∀s v,dt σ s v (f x)->Rd s.M v (.sl tt k n es)):bM P o f σ (.e (.one (.c (.int .i64 n)))) σ:=by
 refine .quiet λs r hh hr=>?_;obtain⟨a,cap,vs,l,g,u,_⟩:=(m s _ (hr x)).flat;have j:=(hT t i hi).run_underlying (w:=s.w);rw[q]at j;have d:b[0]?=aa t:=p;refine⟨.int .i64 n,?_,Rd.int (by simp only[bD];omega),?_⟩<;>
 simp[aw,h,resolve,invoke,builtin,Builtin.len_,l,j,goInt,d]
theorem bM.R6{P:ar}{T:List (Nat×TI)}(hT:cW P T){o:au}{g:aq->D}{σ:List aR}{x:aq}{a:Array aj}{t:aj}(h:o.op=.call {callee:=.builtin .len,args:=#[x],argTypes:=a})(m:a[0]?=aa t){i:TI}(hi:bG T t=aa i)(p:i.desc=.string){l:List UInt8}(k:g x=.e (.one (.c (.str l)))):bM P o g σ (.e (.one (.c (.int .i64 l.length)))) σ:=by
 refine .quiet λs n hh hr=>?_;have h1:=hr x;rw[k]at h1;replace h1:=e9 h1;generalize f:n x=vx at h1;cases h1 with
 |@str sb _ q hl =>
 have j:=(hT t i hi).run_underlying (w:=s.w);rw[p]at j;have d:a[0]?=aa t:=m;have b:sb.size=l.length:=by rw[<-q];exact jA.symm
 refine⟨.int .i64 l.length,?_,Rd.int (by simp only[bD];omega),?_⟩<;>
 simp[aw,h,resolve,invoke,builtin,Builtin.len_,f,j,goInt,d,b]
def St.newRow(s:St)(E:aj)(vs:List ah):St :=
 {β:=s.β,M:=λb o=>if b=s.w.heap.size then vs[o]? else s.M b o,w:=s.w.alloc (.cells vs.toArray E),own:=s.own}
def aF.newRow{σ:List aR}{s:St}(h:aF σ s)(E:aj)(vs:List ah):aF σ (s.newRow E vs)/\Step σ s σ (s.newRow E vs):=by
 refine h.grow (by simp) (λb c=>cR _ _ c) (λb c o=>by grind) (λb c o v a=>?_) rfl rfl rfl;by_cases e:b=s.w.heap.size
 .subst e;simp at a;show aV (s.w.alloc (.cells vs.toArray E)) ⟨s.w.heap.size,o,af⟩=aa v;unfold aV;grind[dT]
 .simp only[e,ck]at a;have:=h.block a;omega
def Ih(s:St)(E:aj)(vs:List ah):∀p u,vs[p]?=aa u->(s.newRow E vs).M s.w.heap.size (0+p)=aa u:=by intro p u h;simpa[St.newRow]using h
def gM:List A->Option (List C)
 |[]=>aa []
 |.c c::r=>match gM r with|some q=>aa (c::q)|none=>af
 |.vec _ k n es::r=>match gM r with|some q=>aa (.sl ae k n es::q)|none=>af
 |_::_=>af
def l6{σ:List aR}{s:St}:∀{cs:List A}{r:List C}{vs:List ah},gM cs=aa r->ei σ s vs cs->ei σ s vs (r.map A.c)
 |[],r,vs,h,a=>by cases h;exact a
 |_::_,_,[],_,a=>a.elim
 |.c c::al,r,v::vs,h,a=>by
  simp only[gM]at h;cases b:gM al with
  |none=>grind
  |some q=>simp[b]at h;subst h;exact⟨a.1,l6 b a.2⟩
 |.vec l k n es::al,r,v::vs,h,a=>by
  simp only[gM]at h;cases b:gM al with
  |none=>grind
  |some q=>simp[b]at h;subst h;exact⟨a.1.1,l6 b a.2⟩
 |.ptr l o::al,r,v::vs,h,a=>by simp[gM]at h
 |.ref l::al,r,v::vs,h,a=>by simp[gM]at h
 |.bp l w::al,r,v::vs,h,a=>by simp[gM]at h
 |.any::al,r,v::vs,h,a=>by simp[gM]at h
def ui{α:Type}(k:Nat):Nat->List α->Option (List (List α))
 |0,[]=>aa []
 |0,_::_=>af
 |n+1,l=>match oV k l with
  |some c=>match ui k n (fV k l)with
   |some r=>aa (c::r)
   |none=>af
  |none=>af
def ei.closed{σ:List aR}{s:St}:∀{vs:List ah}{cs:List C},ei σ s vs (cs.map A.c)->∀(j:Nat)(c:C),cs[j]?=aa c->∃v,vs[j]?=aa v/\Rd s.M v c:=by intro vs cs h j c hj;obtain⟨v,h1,h2⟩:=h.get (j:=j) (a:=.c c) (by grind);exact⟨v,h1,h2⟩
def y8{M:Mem}{k:Nat}:∀{n:Nat}{cs:List C}{es:List (List C)}{vs:List ah},ui k n cs=aa es->vs.length=cs.length->(∀(j:Nat)(c:C),cs[j]?=aa c->∃v,vs[j]?=aa v/\Rd M v c)->es.length=n/\Flat M k n (λi=>es.getD i []) vs
 |0,[],es,vs,h,a,b=>by cases h;simp at a;subst a;exact⟨rfl,.nil⟩
 |0,_::_,es,vs,h,a,b=>by cases h
 |n+1,cs,es,vs,h,a,b=>by
  simp only[ui]at h;cases g:oV k cs with
  |none=>grind
  |some c =>
   simp only[g]at h;cases d:ui k n (fV k cs)with
   |none=>grind
   |some q =>
    simp[d]at h;subst h;obtain⟨o,f⟩:=nO g;rw[mo]at d;obtain⟨r,p⟩:=y8 (vs:=vs.drop k) d (by grind) (λj c l=>by
     obtain⟨v,o,f⟩:=b (k+j) c (by grind)
     exact⟨v,by grind,f⟩)
    refine⟨by grind,?_⟩;have hk:k<=cs.length:=by grind
    have m:Flat M k 1 (λ_=>c) (vs.take k):=by refine⟨by grind,by grind,λi hi j x l=>?_⟩;grind
    have:=m.append p;rw[Nat.add_comm 1 n]at this;have e:cK 1 (λ_=>c) (λi=>q.getD i [])=λi=>(c::q).getD i []:=by funext i;cases i<;>simp[cK]
    rw[e]at this;simpa using this
def Oi(T:List (Nat×TI))(a:aq->D)(t:aj)(n:Nat)(parts:List (Nat×aq)):Option (Nat×List (List C)) :=
 match bG T t with
 |some i=>match i.desc with
  |.slice E=>match bG T E with
   |some ie=>match aB ie.size 0 with
    |true=>af
    |false=>match bA (n*ie.size) 16777216 with
     |true=>match pP a parts with
      |some ps=>match y7 (λk=>aa (k*ie.size,ie.size)) ps (List.replicate (n*ie.size) A.any)with
       |some cs=>match gM cs with
        |some r=>match ui ie.size n r with
         |some es=>aa (ie.size,es)
         |none=>af
        |none=>af
       |none=>af
      |none=>af
     |false=>af
   |none=>af
  |_=>af
 |none=>af
theorem bM.buildSlice{P:ar}{T:List (Nat×TI)}(hT:cW P T){o:au}{R:aq->D}{σ:List aR}{t:aj}{n:Nat}{parts:Array (Nat×aq)}(h:o.op=.buildSlice t n parts){k:Nat}{es:List (List C)}(a:Oi T R t n parts.toList=aa (k,es)):bM P o R σ (.e (.one (.c (.sl ab k n λi=>es.getD i [])))) σ:=by
 intro s K hh hr;unfold Oi at a;cases hi:bG T t with
 |none=>grind
 |some i =>
  simp only[hi]at a;cases W:i.desc with
  |slice E =>
   simp only[W]at a;cases L:bG T E with
   |none=>grind
   |some ie =>
    simp only[L]at a;cases U:aB ie.size 0 with
    |true=>grind
    |false =>
     simp only[U]at a;cases I:bA (n*ie.size) 16777216 with
     |false=>grind
     |true =>
      simp only[I]at a;cases G:pP R parts.toList with
      |none=>grind
      |some ps =>
       simp only[G]at a;cases j:y7 (λk=>aa (k*ie.size,ie.size)) ps (List.replicate (n*ie.size) A.any)with
       |none=>grind
       |some cs =>
        simp only[j]at a;cases g:gM cs with
        |none=>grind
        |some r =>
         simp only[g]at a;cases B:ui ie.size n r with
         |none=>grind
         |some es' =>
          simp only[B,dw,l9]at a;obtain⟨rfl,rfl⟩:=a;have hz0:ie.size≠0:=λe=>by rw[e]at U;cases U
          have V:=db I;obtain⟨inf,z,z1,z2,z3,z4,Y,z6,z7⟩:=(hT E ie L).info;have hzs:z.cells.size=ie.size:=by have:=dJ List.length Y;grind
          have Z:∀v∈z.cells.toList,cN v=ab:=by intro v J;have d:sJ v∈z.cells.toList.map sJ:=gH.2 ⟨v,J,rfl⟩;rw[Y]at d;obtain⟨c,_,hc⟩:=gH.1 d;exact(Rd.sJ (M:=s.M) hc.symm).cell
          have H:∀m,(∀v∈(bh m).map (λq=>z.cells[q % z.cells.size]!),cN v=ab):=by grind[Nat.mod_lt]
          have l:∀vs:List ah,(∀v∈vs,cN v=ab)->ei σ s vs (List.replicate vs.length A.any):=by
           intro vs;induction vs with
           |nil=>intro _;trivial
           |cons v vs ih=>intro J;exact⟨J v (by simp),ih λu N=>J u (by grind)⟩
          obtain⟨p1,p2⟩:=uh (σ:=σ) (s:=s) hr G;have O:ei σ s ((Array.range (n*ie.size)).map (λq=>z.cells[q % z.cells.size]!)).toList (List.replicate (n*ie.size) A.any):=by have:=l _ (H (n*ie.size));simpa using this
          obtain⟨F,u1,u2⟩:=xm (σ:=σ) (s:=s) (place':=λk=>aa (k*ie.size,ie.size)) (λk p hk=>hk) j p1 p2 O;have u3:=l6 g u2;obtain⟨c1,c2⟩:=y8 (M:=s.M) (vs:=F.toList) B (by simpa using u3.length) u3.closed;obtain⟨g1,X⟩:=hh.newRow E F.toList;refine⟨.value (.slice (aa ⟨s.w.heap.size,0,af⟩) n n),s.newRow E F.toList,?_,?_,g1,X,?_⟩
          rotate_left 2
          .have e:(aw K o).events P s.w #[]=#[]:=by simp only[aw,h];exact di.bind di.buildSlice (λ_=>di.pure) _ _
           rw[e];exact .nil
          .have N:=(hT t i hi).run_underlying (w:=s.w);rw[W]at N;have S:(zeroValue E).run P s.w=.ok z s.w:=by simp[zeroValue,typeInfo,z1,z4]
           have f:Instr.fill (λk=>aa (k*ie.size,ie.size)) ((Array.range (n*ie.size)).map (λq=>z.cells[q % z.cells.size]!)) (parts.map λ(i,x)=>(i,K x)).toList=aa F:=by simpa using u1
           by_cases h0:n*ie.size=0
           .have Q:n=0:=by grind[Nat.mul_eq_zero]
            subst Q;have y:Array.range 0=#[]:=rfl;simp[y]at f;simp[aw,h,Instr.buildSlice,N,(hT E ie L).run_sizeOf,y,f,Go.newRow,St.newRow]
           .rw[show aw K o=(do pure (.value (<-Instr.buildSlice t n (parts.map λ(i,x)=>(i,K x))))) by simp[aw,h]];simp only[Instr.buildSlice,bT,N,b5,(hT E ie L).run_sizeOf,h0,ck,S,show¬n*ie.size>2 ^ 24 by omega,su,f,dx];simp[Go.newRow,St.newRow]
          .refine Rd.rB (c2.mono X.mem) (b:=s.w.heap.size) (off:=0) (λ_=>rfl) (bc _) ?_ (λ_=>rfl) (Ih s E F.toList);have:n<=n*ie.size:=vD n (by omega);omega
  |_=>grind
def Ext.trans{σ σ1 σ2:List aR}{s a s2:St}(h:Ext σ s σ1 a)(k:Ext σ1 a σ2 s2):Ext σ s σ2 s2:=by refine⟨λb o v c=>k.mem _ _ _ (h.mem _ _ _ c),λl B L hB hL=>?_⟩;obtain⟨B1,L1,h1,h2,n⟩:=h.box l B L hB hL;obtain⟨j,f,k1,e,m⟩:=k.box l B1 L1 h1 h2;exact⟨j,f,k1,e,n.trans m⟩
def gq{α:Type}{l:List α}{x y:α}{i:Nat}(h:(l++[x])[i]?=aa y):l[i]?=aa y∨(i=l.length/\y=x):=by grind
def aF.ik{σ:List aR}{s a:St}(h1:aF σ a)(st:Step σ s σ a)(o:a.β=s.β)(hh:aF σ s){B:aR}{L:Loc}(hB:eE (σ++[B]) {a with β:=a.β++[L]} B L)(k:∀b∈L.bs,s.w.heap.size<=b/\b<a.w.heap.size):aF (σ++[B]) {a with β:=a.β++[L]}/\Step σ s (σ++[B]) {a with β:=a.β++[L]}:=by
 have ex:Ext σ a (σ++[B]) {a with β:=a.β++[L]}:=by refine⟨λ_ _ _ h=>h,λl B' L' kv fA=>?_⟩;have hl:l<a.β.length:=(b6.1 fA).1;have q:l<σ.length:=(b6.1 kv).1;exact⟨B',L',by grind,by grind,.refl _ _⟩
 have e2:=st.ext.trans ex;refine⟨⟨h1.mem,by simp[h1.len],?_,?_,?_,?_⟩,⟨st.size,st.fy,st.mem,st.je,?_,e2.box,st.os,st.tape,st.output,st.own⟩⟩
 .intro l B' L' kv fA;rcases gq kv with m|⟨rfl,rfl⟩
  .have hl:l<a.β.length:=by rw[h1.len];grind
   rw[jy hl]at fA;exact(h1.box l B' L' m fA).carry ex h1.len λ_ _=>⟨rfl,λ_=>rfl⟩
  .rcases gq fA with f|⟨_,rfl⟩
   .have:=(b6.1 f).1;rw[h1.len]at this;omega
   grind
 .intro l l' L1 L2 f n b c j;rcases gq f with k1|⟨rfl,rfl⟩<;>rcases gq n with p|⟨rfl,rfl⟩
  .exact h1.eO l l' L1 L2 k1 p b c j
  .have a1:=k b j;have a2:=hh.lt L1 (by grind) b c;omega
  .have a1:=k b c;have a2:=hh.lt L2 (by grind) b j;omega
  .rfl
 .intro L' fA b c;simp only[fx,fN]at fA;rcases fA with fA|rfl
  .exact h1.lt L' fA b c
  grind
 .intro b c;refine⟨(h1.own b c).1,λL' fA NU=>?_⟩;simp only[fx,fN]at fA;rcases fA with fA|rfl
  .exact(h1.own b c).2 L' fA NU
  .have e:=st.own;simp only at c;rw[e]at c;have:=(hh.own b c).1;grind
 grind
def aF.gJ{σ:List aR}{s:St}{M':Mem}{w':aA}(hh:aF σ s){l:Nat}{B B':aR}{L L':Loc}(r:σ[l]?=aa B)(j:s.β[l]?=aa L)(K:gI B L B' L')(y:s.w.heap.size<=w'.heap.size)(hk:∀b,b<s.w.heap.size->b∉L.bs->w'.heap[b]?=s.w.heap[b]?)(Q:∀b,b<s.w.heap.size->b∉L.bs->∀o,M' b o=s.M b o)(h:∀b o v,s.M b o=aa v->M' b o=aa v)(G:∀b o v,M' b o=aa v->w'.cell? ⟨b,o,af⟩=aa v)(I:∀b∈L'.bs,(b∈L.bs∨s.w.heap.size<=b)/\b<w'.heap.size)(J:w'.os=s.w.os)(H:w'.tape=s.w.tape)(F:w'.output=s.w.output)(hB:eE (σ.set l B') ⟨s.β.set l L',M',w',s.own⟩ B' L'):aF (σ.set l B') ⟨s.β.set l L',M',w',s.own⟩/\Step σ s (σ.set l B') ⟨s.β.set l L',M',w',s.own⟩:=by
 have C:l<σ.length:=(b6.1 r).1;have D:l<s.β.length:=(b6.1 j).1;have a:∀i X,(s.β.set l L')[i]?=aa X->(i=l/\X=L')∨(i≠l/\s.β[i]?=aa X):=by grind
 have ex:Ext σ s (σ.set l B') ⟨s.β.set l L',M',w',s.own⟩:=by
  refine⟨h,λi X Y c n=>?_⟩;by_cases e:l=i
  .grind
  .exact⟨X,Y,by grind,by grind,.refl _ _⟩
 have out:∀i X,i≠l->s.β[i]?=aa X->∀b∈X.bs,b<s.w.heap.size/\b∉L.bs:=by intro i X hi c b f;exact⟨hh.lt X (bP c) b f,λx=>hi (hh.eO i l X L c j b f x)⟩
 refine⟨⟨G,by simp[hh.len],?_,?_,?_,?_⟩,⟨y,?_,h,?_,?_,ex.box,J,H,F,rfl⟩⟩
 .intro i X Y c n;rcases a i Y n with⟨rfl,rfl⟩|⟨hi,n⟩
  .grind
  .rw[kC (λe=>hi e.symm)]at c;refine(hh.box i X Y c n).carry ex hh.len λb f=>?_;grind
 .intro i z X A c m b f q;rcases a i X c with⟨rfl,rfl⟩|⟨hi,u⟩<;>rcases a z A m with⟨rfl,rfl⟩|⟨p,k⟩
  .rfl
  .grind
  .grind
  .exact hh.eO i z X A u k b f q
 .intro X c b f;obtain⟨i,hi,rfl⟩:=dG c;rcases a i _ (br hi)with⟨rfl,e⟩|⟨p,m⟩
  .grind
  grind
 .intro b f;obtain⟨O,N⟩:=hh.own b f;grind
 .grind
 .grind
 grind
def sx{a old bytes:Nat}(h:old<a)(b:a*bytes<=140737488355328):¬Builtin.nextslicecap a old*bytes>2 ^ 48:=by have:=growslice_fits h b;omega
section
variable {P:ar}{T:List (Nat×TI)}(hT:cW P T){σ:List aR}{s:St}{t g ty E:aj}{i i2 d:TI}
def jo(hi:bH P t i)(u:i.desc=.slice E)(f:bH P g i2)(j:i2.desc=.slice E)(v:bH P E d)(r:aF σ s){a:Option Addr}{n cap:Nat}(e:n<=cap){x:ah}{tx:Bool}{es':Nat->List C}(m:Rd s.M x (.sl tx d.size 0 es')):
  (Builtin.append_ #[t,g] ty #[.slice a n cap,x]).run P s.w=.ok (.slice a n cap) s.w:=by obtain⟨b,p,q,l⟩:=ek (P:=P) r m;have o:=hi.run_underlying (w:=s.w);have c:=f.run_underlying (w:=s.w);rw[u]at o;rw[j]at c;obtain⟨a',k,vs,rfl,_⟩:=m.flat;have h:b=[]:=jv (by simpa using p.len);subst h;cases a<;>simp[Builtin.append_,o,c,v.run_sizeOf,Builtin.lenOf,e,q,storeCells]
def iG(hi:bH P t i)(Y:i.desc=.slice E)(I:bH P g i2)(D:i2.desc=.slice E)(K:bH P E d)(V:aF σ s){a:Option Addr}{n cap m:Nat}{td tx:Bool}{es es':Nat->List C}{x:ah}(Q:Rd s.M (.slice a n cap) (.sl td d.size n es))(X:Rd s.M x (.sl tx d.size m es'))(hg:cap<n+m)(L:(n+m)*d.bytes<=140737488355328)(G:d.bytes≠0):
  ∃vs zs NV,Flat s.M d.size (n+m) (cK n es es') vs/\n+m<=NV/\NV<=9223372036854775807/\(vs++zs).length=NV*d.size /\
   (Builtin.append_ #[t,g] ty #[.slice a n cap,x]).run P s.w=.ok (.slice (aa ⟨s.w.heap.size,0,af⟩) (n+m) NV) (s.w.drew.alloc (.cells (vs++zs).toArray E)):=by
 have l:aF σ {s with w:=s.w.drew}:=V.same rfl;obtain⟨b,J,F,j⟩:=ek (P:=P) l (v:=x) X;obtain⟨c,p,f,U⟩:=ek (P:=P) l (v:=.slice a n cap) Q;have O:=hi.run_underlying (w:=s.w);have o:=I.run_underlying (w:=s.w);rw[Y]at O;rw[D]at o;obtain⟨q,z,N,z2,z3,W,z5,z6,z7⟩:=K.info;have hle:n+m<=140737488355328:=iZ (vD _ (Nat.pos_of_ne_zero G)) L;have H:z.cells.size=d.size:=by have:=dJ List.length z5;grind
 refine⟨c++b,(Builtin.zeroCells z.cells (grownCap s.w (n+m) cap E-(n+m))).toList,grownCap s.w (n+m) cap E,p.append J,grownCap_ge _ _ _ _,?_,?_,?_⟩
 .have:=grownCap_le_maxLen s.w (n+m) cap E (by unfold maxLen;omega);unfold maxLen at this;omega
 .have S:=grownCap_ge s.w (n+m) cap E;simp only[cX,p.len,J.len,jA,size_zeroCells,H,<-iF];grind
 .have R:=sx hg L;have k:¬Builtin.nextslicecap (n+m) cap*q.bytes>2 ^ 48:=by grind
  have r:¬n+m<=cap:=by omega
  have B:¬((n+m:Nat):Int)>IntKind.i64.max:=by have e:IntKind.i64.max=9223372036854775807:=rfl;grind
  have y:∀u,(typeInfo E).run P u=.ok q u:=λu=>by simp[typeInfo,N]
  have A:∀u,(zeroValue E).run P u=.ok z u:=λu=>by simp[zeroValue,typeInfo,N,W]
  have h:(Builtin.lenOf x).run P s.w=.ok m s.w:=by rw[j];rfl
  replace F:(Builtin.firstCells d.size m x).run P s.w.drew=.ok b.toArray s.w.drew:=F;replace f:(Builtin.firstCells d.size n (.slice a n cap)).run P s.w.drew=.ok c.toArray s.w.drew:=f
  unfold Builtin.append_;simp only[iB,kB,oh,bT,O,o,b5,K.run_sizeOf,dx,jP,ck,h,r,
   B,false_and,y,k,run_choose,Question.forced,run_askRoom,su,World.drew_eq,f,F,ow,cq,A]
  simp[Go.newRow,grownCap];have e:∀Z:Array ah,(c++b).toArray++Z=(c++(b++Z.toList)).toArray:=λZ=>by grind
  rw[e];rfl
def kE(hi:bH P t i)(D:i.desc=.slice E)(p:bH P g i2)(l:i2.desc=.slice E)(A:bH P E d)(z:aF σ s){b n cap m:Nat}{r:aj}{c:List ah}(F:s.w.heap[b]?=aa (.cells c.toArray r (0,0)))(h:c.length=cap*d.size){tx:Bool}{es':Nat->List C}{x:ah}(B:Rd s.M x (.sl tx d.size m es'))(u:n+m<=cap):
  ∃a,Flat s.M d.size m es' a/\(Builtin.append_ #[t,g] ty #[.slice (aa ⟨b,0,af⟩) n cap,x]).run P s.w=.ok (.slice (aa ⟨b,0,af⟩) (n+m) cap) (s.w.setRow b (c.take (n*d.size)++a++c.drop (n*d.size+a.length)).toArray):=by
 obtain⟨a,o,y,f⟩:=ek (P:=P) z B;have v:=hi.run_underlying (w:=s.w);have j:=p.run_underlying (w:=s.w);rw[D]at v;rw[l]at j;have q:n*d.size+a.length<=c.length:=by rw[o.len,h,<-iF];exact eP _ u
 have k:=run_storeCells_at P b (n*d.size) r a 0 c.toArray s.w F (by grind) o.cell;simp only[iE]at k;have e:(Builtin.lenOf x).run P s.w=.ok m s.w:=by rw[f];rfl
 refine⟨a,o,?_⟩;unfold Builtin.append_;simp only[iB,kB,oh,bT,v,j,b5,A.run_sizeOf,dx,jP,ck,e,u,cq,ow,y,du,bF,k]
end
def Ek{α:Type}{P:ar}{x:Sem α}{w:aA}{es:Array Event}{e:Event}(h:e∈x.events P w es):e∈es∨e∈x.events P w #[]:=by grind[Sem.events_acc]
def rdM(s:St)(e:Event):Prop:=∃b o u,e=Ac b o/\s.M b o=aa u
def ia{P:ar}{σ:List aR}{s:St}(y:aF σ s){v:ah}{t:Bool}{k n:Nat}{es:Nat->List C}(h:Rd s.M v (.sl t k n es)){w:aA}(D:w.heap=s.w.heap):
  ∀e∈(Builtin.firstCells k n v).events P w #[],rdM s e:=by
 obtain⟨a,cap,vs,rfl,q,I,F,r,z⟩:=h.flat;have G:vs.length=n*k:=r.len;intro e l;cases a with
 |none=>simp[Builtin.firstCells]at l
 |some ad =>
  simp only[Builtin.firstCells]at l;have c:∀j,j<n*k->∃b off u,ad=⟨b,off,af⟩/\s.M b (off+j)=aa u:=by intro j m;obtain⟨b,off,H,o⟩:=z j (vs[j]'(by omega)) (br (by omega));grind
  by_cases A:n*k=0
  .rw[A]at l;simp[loadCells,loadCellsFrom]at l
  .obtain⟨b,off,_,rfl,_⟩:=c 0 (by omega);have B:∀j,j<n*k->∃v,w.cell? ⟨b,off+j,af⟩=aa v:=by intro j m;obtain⟨x,f,u,p,o⟩:=c j m;cases p;have:=y.mem _ _ _ o;exact⟨u,by simp only[aV,D]at this⊢;exact this⟩
   rcases sC (P:=P) B e l with h|⟨j,m,rfl⟩
   .grind
   .obtain⟨x,f,u,p,o⟩:=c j m;cases p;exact⟨_,_,u,rfl,o⟩
theorem tM{s:St}{e:Event}(h:rdM s e):ox s e:=by obtain⟨b,o,u,rfl,a⟩:=h;exact BZ a
section
variable {P:ar}{σ:List aR}{s:St}{t g ty E:aj}{i i2 d:TI}
def jW(hi:bH P t i)(y:i.desc=.slice E)(h:bH P g i2)(m:i2.desc=.slice E)(z:bH P E d)(q:aF σ s){a:Option Addr}{n cap:Nat}(f:n<=cap){x:ah}{tx:Bool}{es':Nat->List C}(j:Rd s.M x (.sl tx d.size 0 es')):
  fg s ((Builtin.append_ #[t,g] ty #[.slice a n cap,x]).events P s.w #[]):=by obtain⟨b,u,v,p⟩:=ek (P:=P) q j;have k:=ia (P:=P) q j (w:=s.w) rfl;have r:=hi.run_underlying (w:=s.w);have c:=h.run_underlying (w:=s.w);rw[y]at r;rw[m]at c;obtain⟨a',o,vs,rfl,_⟩:=j.flat;have l:b=[]:=jv (by simpa using u.len);subst l;intro e A;refine tM (k e ?_);cases a<;>simpa[Builtin.append_,r,c,z.run_sizeOf,Builtin.lenOf,f,v,storeCells]using A
def jf(hi:bH P t i)(hd:i.desc=.slice E)(O:bH P g i2)(J:i2.desc=.slice E)(R:bH P E d)(L:aF σ s){a:Option Addr}{n cap m:Nat}{td tx:Bool}{es es':Nat->List C}{x:ah}(Q:Rd s.M (.slice a n cap) (.sl td d.size n es))(U:Rd s.M x (.sl tx d.size m es'))(hg:cap<n+m)(S:(n+m)*d.bytes<=140737488355328)(N:d.bytes≠0):
  fg s ((Builtin.append_ #[t,g] ty #[.slice a n cap,x]).events P s.w #[]):=by
 have q:aF σ {s with w:=s.w.drew}:=L.same rfl;obtain⟨y,hF,K,b⟩:=ek (P:=P) q (v:=x) U;obtain⟨B,hFo,f,Z⟩:=ek (P:=P) q (v:=.slice a n cap) Q;have JE:=ia (P:=P) L U (w:=s.w.drew) rfl;have W:=ia (P:=P) L Q (w:=s.w.drew) rfl;have X:=hi.run_underlying (w:=s.w);have A:=O.run_underlying (w:=s.w);rw[hd]at X;rw[J]at A;obtain⟨k,z,V,z2,z3,z4,z5,z6,z7⟩:=R.info;have hle:n+m<=140737488355328:=iZ (vD _ (Nat.pos_of_ne_zero N)) S;have Y:=sx hg S;have p:¬Builtin.nextslicecap (n+m) cap*k.bytes>2 ^ 48:=by grind
 have D:¬n+m<=cap:=by omega
 have H:¬((n+m:Nat):Int)>IntKind.i64.max:=by have e:IntKind.i64.max=9223372036854775807:=rfl;grind
 have F:∀u,(typeInfo E).run P u=.ok k u:=λu=>by simp[typeInfo,V]
 have G:∀u,(zeroValue E).run P u=.ok z u:=λu=>by simp[zeroValue,typeInfo,V,z4]
 have l:(Builtin.lenOf x).run P s.w=.ok m s.w:=by rw[b];rfl
 have c:(Builtin.lenOf x).events P s.w #[]=#[]:=by rw[b];rfl
 replace K:(Builtin.firstCells d.size m x).run P s.w.drew=.ok y.toArray s.w.drew:=K;replace f:(Builtin.firstCells d.size n (.slice a n cap)).run P s.w.drew=.ok B.toArray s.w.drew:=f
 intro e o;unfold Builtin.append_ at o;simp only[iB,kB,oh,aM,bT,X,A,b5,aP,R.run_sizeOf,dx,jP,ck,l,c,D,
  H,false_and,F,p,run_choose,Question.forced,run_askRoom,su,Sem.events_ite,World.drew_eq,f,K,ow,cq,G,events_underlying,events_sizeOf,events_typeInfo,events_choose,events_zeroValue,Sem.events_pure]at o
 have I:∀(x:Nat) (w:aA) (e:Event),e∈(askRoom x).events P w #[]->e=⟨.mark .noRoom,ae,ab⟩:=by intro x w e h;unfold askRoom at h;simp_all
 rw[di.newRow (P:=P)]at o;generalize(Go.newRow E _).run P s.w.drew=r at o;have j:e∈(Builtin.firstCells d.size m x).events P s.w.drew ((Builtin.firstCells d.size n (.slice a n cap)).events P s.w.drew ((askRoom ((Question.appendCap (n+m) cap E).cut (s.w.tape s.w.drawn (Question.appendCap (n+m) cap E))*k.bytes)).events P s.w.drew #[])):=by
  cases r with
  |ok v w'=>simpa using o
  |halt v w'=>simpa using o
 rcases Ek j with j|j
 .rcases Ek j with j|j
  .rw[I _ _ _ j];exact .inl rfl
  grind[tM]
 grind[tM]
def ma(hi:bH P t i)(Q:i.desc=.slice E)(A:bH P g i2)(u:i2.desc=.slice E)(O:bH P E d)(F:aF σ s){b n cap m:Nat}{D:aj}{a:List ah}(I:s.w.heap[b]?=aa (.cells a.toArray D (0,0)))(p:a.length=cap*d.size){tx:Bool}{es':Nat->List C}{x:ah}(G:Rd s.M x (.sl tx d.size m es'))(H:n+m<=cap){L:Loc}(V:L∈s.β)(R:b∈L.bs)(y:∀o,n*d.size<=o->s.M b o=af):
  fg s ((Builtin.append_ #[t,g] ty #[.slice (aa ⟨b,0,af⟩) n cap,x]).events P s.w #[]):=by
 obtain⟨c,v,K,f⟩:=ek (P:=P) F G;have N:=ia (P:=P) F G (w:=s.w) rfl;have J:=hi.run_underlying (w:=s.w);have q:=A.run_underlying (w:=s.w);rw[Q]at J;rw[u]at q;have B:n*d.size+c.length<=a.length:=by rw[v.len,p,<-iF];exact eP _ H
 have r:=run_storeCells_at P b (n*d.size) D c 0 a.toArray s.w I (by grind) v.cell;simp only[iE]at r;have l:(Builtin.lenOf x).run P s.w=.ok m s.w:=by rw[f];rfl
 have k:(Builtin.lenOf x).events P s.w #[]=#[]:=by rw[f];rfl
 intro e z;unfold Builtin.append_ at z;simp only[iB,kB,oh,aM,bT,J,q,aP,O.run_sizeOf,dx,jP,ck,l,k,H,cq,ow,K,du,bF,r,
  su,Sem.events_ite,events_underlying,events_sizeOf,Sem.events_pure]at z
 rcases dN c 0 a.toArray s.w _ I (by grind) v.cell e z with h|⟨j,U,S,rfl⟩
 .grind [tM]
 grind[jX]
end
structure lL(P:ar)(o:au)(x y:aq)(E:aj)(d:TI):Prop where
 op:∃t g i i2,o.op=.call {callee:=.builtin .append,args:=#[x,y],argTypes:=#[t,g]}/\bH P t i/\i.desc=.slice E/\bH P g i2/\i2.desc=.slice E
 elem:bH P E d
 bytes:d.bytes≠0
 size:d.size≠0
def St.grown(s:St)(E:aj)(vs zs:List ah)(β:List Loc):St :=
 {β:=β,M:=λb o=>if b=s.w.heap.size then vs[o]? else s.M b o,w:=s.w.drew.alloc (.cells (vs++zs).toArray E),own:=s.own}
def yS{σ:List aR}{s:St}(h:aF σ s)(E:aj)(vs zs:List ah):∀b o v,(if b=s.w.heap.size then vs[o]? else s.M b o)=aa v->(s.w.drew.alloc (.cells (vs++zs).toArray E)).cell? ⟨b,o,af⟩=aa v:=by
 intro b o v a;by_cases e:b=s.w.heap.size
 .subst e;simp only[cq]at a;unfold aV;have:(s.w.drew.alloc (.cells (vs++zs).toArray E)).heap[s.w.heap.size]?=aa (.cells (vs++zs).toArray E):=dT s.w.drew _;grind
 .simp only[e,ck]at a;have c:=h.block a;rw[<-h.mem b o v a];unfold aV;have:(s.w.drew.alloc (.cells (vs++zs).toArray E)).heap[b]?=s.w.heap[b]?:=cR s.w.drew _ c;grind
def yT{σ:List aR}{s:St}(h:aF σ s)(vs:List ah):∀b o v,s.M b o=aa v->(if b=s.w.heap.size then vs[o]? else s.M b o)=aa v:=by intro b o v a;have:=h.block a;grind
theorem eU{P:ar}{s:St}{m:Sem ah}(h:fg s (m.events P s.w #[])):fg s ((do pure (.value (<-m)):Sem Next).events P s.w #[]):=by simp_all
theorem dn{o:au}{x y:aq}{t g:aj}(h:o.op=.call {callee:=.builtin .append,args:=#[x,y],argTypes:=#[t,g]})(a:aq->ah):
  aw a o=(do pure (.value (<-Builtin.append_ #[t,g] o.type #[a x,a y]))):=by simp[aw,h,resolve,invoke,builtin]
def Rd.loose{M:Mem}{v:ah}{t:Bool}{k n:Nat}{es:Nat->List C}(h:Rd M v (.sl t k n es)):Rd M v (.sl ae k n es):=by
 cases h with
 |sl b off f a c e hk ha hm hr=>exact .sl b off f a c (by simp) hk ha hm hr
def Rd.Ei{M:Mem}{v:ah}{t:Bool}{k n:Nat}{es es':Nat->List C}(m:∀i,i<n->es i=es' i)(h:Rd M v (.sl t k n es)):Rd M v (.sl t k n es'):=by
 cases h with
 |sl b off f a l e hk ha hm hr=>exact .sl b off f a l e (λi hi=>by grind) ha (λi hi j c hj=>hm i hi j c (by grind)) (λi hi j c hj=>hr i hi j c (by grind))
def Rd.vI{M:Mem}{v:ah}{k k' n:Nat}{es:Nat->List C}(hk:k=k'∨n=0)(h:Rd M v (.sl ab k n es)):Rd M v (.sl ab k' n es):=by
 rcases hk with rfl|rfl
 .exact h
 .obtain⟨a,cap,vs,e,f,b,c,_⟩:=h.flat;grind[Rd.jY]
def qw{σ:List aR}{s:St}{l:Nat}{E:aj}{k n:Nat}{es:Nat->List C}{L:Loc}(hB:σ[l]?=aa (.vec E k n es))(b:s.β[l]?=aa L)(h:eE σ s (.vec E k n es) L):gB σ s L.v (.vec l k n es):=by refine⟨h.1,(b6.1 hB).1,λa k' n' es' he=>?_⟩;grind
def bM.pw{P:ar}{o:au}{O:aq->D}{σ:List aR}{x y:aq}{E:aj}{d:TI}(h:lL P o x y E d){n m k:Nat}{tx:Bool}{es es':Nat->List C}(Z:O x=.e (.one (.c (.sl ab k n es))))(hk:k=d.size∨n=0)(hy:∀s v,dt σ s v (O y)->Rd s.M v (.sl tx d.size m es'))(z:(n+m)*d.bytes<=140737488355328)(hz:n=0∨0<m):
  bM P o O σ (.e (.one (.vec σ.length d.size (n+m) (cK n es es')))) (σ++[.vec E d.size (n+m) (cK n es es')]):=by
 intro s ρ hh hr;obtain⟨t,g,i,i2,U,hi,J,A,r⟩:=h.op;have h1:=hr x;rw[Z]at h1;have j:=Rd.vI hk (e9 h1);have h2:=hy s _ (hr y);obtain⟨a,cap,vs,X,B,HM,ht,hF,V⟩:=j.flat;have N:cap=n:=ht rfl;subst N;rw[dn U];rw[X]at j⊢;by_cases h0:m=0
 .subst h0;have q:=jo (P:=P) (ty:=o.type) hi J A r h.elem hh (a:=a) B h2;simp only[iE];have j:=Rd.Ei (es':=cK cap es es') (λi hi=>by grind) j;have hB:eE (σ++[.vec E d.size cap (cK cap es es')]) {s with β:=s.β++[⟨.slice a cap cap,[]⟩]} (.vec E d.size cap (cK cap es es')) ⟨.slice a cap cap,[]⟩:=⟨j.loose,.inl ⟨⟨rfl,by omega⟩,j⟩⟩
  obtain⟨L,R⟩:=hh.ik (.refl _ _) rfl hh hB (by simp);refine⟨.value (.slice a cap cap),_,?_,?_,L,R,eU (jW hi J A r h.elem hh B h2)⟩
  .simp[q]
  .exact qw (by simp) (by simp[<-hh.len]) hB
 .have W:cap<cap+m:=by omega
  obtain⟨l,F,f,I,K,Q,H,q⟩:=iG (P:=P) (ty:=o.type) hi J A r h.elem hh j h2 W z h.bytes;have G:aF σ (s.grown E l F s.β)/\Step σ s σ (s.grown E l F s.β) :=
   hh.grow (by simp) (λb z=>cR s.w.drew _ z) (λb z o=>by grind)
    (λb z o v V=>yS hh E l F b o v V) rfl rfl rfl
  have S:Rd (s.grown E l F s.β).M (.slice (aa ⟨s.w.heap.size,0,af⟩) (cap+m) f) (.sl ae d.size (cap+m) (cK cap es es')) :=
   Rd.rB (I.mono G.2.mem) (b:=s.w.heap.size) (off:=0) (λ_=>rfl) K Q (by simp) (λp u Y=>by simpa[St.grown]using Y)
  have hB:eE (σ++[.vec E d.size (cap+m) (cK cap es es')]) {(s.grown E l F s.β)with β:=(s.grown E l F s.β).β++[⟨.slice (aa ⟨s.w.heap.size,0,af⟩) (cap+m) f,[s.w.heap.size]⟩]} (.vec E d.size (cap+m) (cK cap es es')) ⟨.slice (aa ⟨s.w.heap.size,0,af⟩) (cap+m) f,[s.w.heap.size]⟩:=by
   refine⟨S,.inr ⟨s.w.heap.size,f,l++F,rfl,dT s.w.drew _,H,λo U=>?_⟩⟩;have hl:l.length<=o:=by rw[I.len];exact U
   simp[St.grown,sd hl]
  obtain⟨L,R⟩:=G.1.ik G.2 rfl hh hB (λb z=>by simp at z;subst z;refine⟨bc _,?_⟩;simp[St.grown])
  refine⟨.value (.slice (aa ⟨s.w.heap.size,0,af⟩) (cap+m) f),_,?_,?_,L,R,eU (jf hi J A r h.elem hh j h2 W z h.bytes)⟩
  .simp[q];rfl
  .exact qw (by simp) (by simp[St.grown,<-hh.len]) hB
def bM.HN{P:ar}{o:au}{η:aq->D}{σ:List aR}{x y:aq}{E:aj}{d:TI}(h:lL P o x y E d){l n m:Nat}{tx:Bool}{es es':Nat->List C}(hx:η x=.e (.one (.vec l d.size n es)))(hl:σ[l]?=aa (.vec E d.size n es))(hy:∀s v,dt σ s v (η y)->Rd s.M v (.sl tx d.size m es'))(O:(n+m)*d.bytes<=140737488355328):
  bM P o η σ (.e (.one (.vec l d.size (n+m) (cK n es es')))) (σ.set l (.vec E d.size (n+m) (cK n es es'))):=by
 intro s ρ hh hr;obtain⟨t,g,i,i2,ho,hi,Z,I,G⟩:=h.op;have RG:l<σ.length:=(b6.1 hl).1;have h1:=hr x;rw[hx]at h1;obtain⟨R,_,h1v⟩:=h1;obtain⟨L,V,hv⟩:=(h1v _ _ _ _ hl).2 rfl;have h2:=hy s _ (hr y);have RH:l<s.β.length:=(b6.1 V).1;have Q:=hh.box l _ L hl V;obtain⟨a,cap,vs,RI,U,HM,ht,hF,hm⟩:=R.flat;rw[dn ho,RI];rw[RI]at R;have S:L.v=.slice a n cap:=by grind
 by_cases h0:m=0
 .subst h0;have z:=jo (P:=P) (ty:=o.type) hi Z I G h.elem hh (a:=a) U h2;simp only[iE];have ha:∀i,i<n->es i=cK n es es' i:=λi hi=>by simp[cK,hi]
  have Xw:eE (σ.set l (.vec E d.size n (cK n es es'))) ⟨s.β.set l L,s.M,s.w,s.own⟩ (.vec E d.size n (cK n es es')) L:=by
   refine⟨Q.1.Ei ha,?_⟩;rcases Q.2 with⟨h3,h4⟩|h3
   .exact .inl ⟨h3,h4.Ei ha⟩
   grind
  have f:=hh.gJ (M':=s.M) (w':=s.w) (B':=.vec E d.size n (cK n es es')) (L':=L) hl V ⟨λ_=>rfl,bc _⟩ (bc _) (λ_ _ _=>rfl) (λ_ _ _ _=>rfl) (λ_ _ _ h=>h) hh.mem
   (λb O=>⟨.inl O,hh.lt L (bP V) b O⟩) rfl rfl rfl Xw
  refine⟨.value (.slice a n cap),_,?_,?_,f.1,f.2,eU (jW hi Z I G h.elem hh U h2)⟩
  .simp[z]
  .rw[<-S];exact qw (E:=E) (by grind) (by grind) Xw
 .have N:¬(n+m=n):=by omega
  by_cases k:n+m<=cap
  .rcases Q.2 with⟨RJ,F⟩|⟨b,NW,q,rfl,hw,K,X⟩
   .rw[S]at F;obtain⟨_,_,_,e,_,_,ht2,_⟩:=F.flat;grind
   .simp only at S;cases S;obtain⟨c,NB,z⟩:=kE (P:=P) (ty:=o.type) hi Z I G h.elem hh hw K h2 k;have Uq:c.length=m*d.size:=NB.len;have Yc:b<s.w.heap.size:=(iA.1 hw).1;let M':Mem:=λB o=>if B=b/\n*d.size<=o/\o<(n+m)*d.size then c[o-n*d.size]? else s.M B o;have NC:q.length=cap*d.size:=K;have hnm:(n+m)*d.size=n*d.size+m*d.size:=iF _ _ _;have hnc:(n+m)*d.size<=cap*d.size:=eP _ k;have UQ:∀B o v,s.M B o=aa v->M' B o=aa v:=by grind
    have RF:∀p u,c[p]?=aa u->M' b (n*d.size+p)=aa u:=by grind
    have Y:Rd M' (.slice (aa ⟨b,0,af⟩) (n+m) cap) (.sl ae d.size (n+m) (cK n es es')):=by refine Rd.rB (vs:=vs++c) ((hF.append NB).mono UQ) (b:=b) (off:=0) (λ_=>rfl) k HM (by simp) (λp u hp=>?_);have Qx:vs.length=n*d.size:=hF.len;grind
    have f:=hh.gJ (M':=M') (w':=s.w.setRow b (q.take (n*d.size)++c++q.drop (n*d.size+c.length)).toArray) (B':=.vec E d.size (n+m) (cK n es es')) (L':=⟨.slice (aa ⟨b,0,af⟩) (n+m) cap,[b]⟩) hl V
     ⟨λe=>absurd e N,by omega⟩ (by simp) (λB _ H=>setRow_other _ _ _ _ (by grind)) (λB _ H o=>by
      grind) UQ ?_ (λB H=>by simp at H;subst H;exact⟨.inl (by simp),by simpa using Yc⟩) rfl rfl rfl ?_
    .refine⟨.value (.slice (aa ⟨b,0,af⟩) (n+m) cap),_,?_,?_,f.1,f.2,eU (ma hi Z I G h.elem hh hw K h2 k (bP V) (by simp) X)⟩
     .simp[z]
     .exact qw (L:=⟨.slice (aa ⟨b,0,af⟩) (n+m) cap,[b]⟩) (E:=E) (by grind) (by grind) (f.1.box l _ _ (by grind) (by grind))
    .intro B o v J;by_cases H:B=b
     .subst H;have W:∀j,(s.w.setRow B (q.take (n*d.size)++c++q.drop (n*d.size+c.length)).toArray).cell? ⟨B,j,af⟩=(q.take (n*d.size)++c++q.drop (n*d.size+c.length))[j]?:=by grind[cell_setRow_same]
      rw[W];simp only[M']at J;have hkl:(q.take (n*d.size)).length=n*d.size:=by rw[List.length_take];omega
      split at J
      .grind
      .rename_i hc;have h3:=hh.mem B o v J;have ho:o<n*d.size:=by grind
       rw[l8,jy (by omega),iX,bl ho];simp only[aV,hw]at h3;grind
     .simp only[M']at J;rw[aY (by omega)]at J;rw[<-hh.mem B o v J];simp only[aV];grind[setRow_other]
    .refine⟨Y,.inr ⟨b,cap,_,rfl,setRow_heap _ _ _ _ _ _ hw,?_,λo ho=>?_⟩⟩
     .grind
     grind
  .have hg:cap<n+m:=by omega
   obtain⟨A,zs,r,NT,Xx,Xy,hlen,z⟩:=iG (P:=P) (ty:=o.type) hi Z I G h.elem hh R h2 hg O h.bytes;have hbl:∀b∈L.bs,b<s.w.heap.size:=hh.lt L (bP V);have Y:Rd (λb o=>if b=s.w.heap.size then A[o]? else s.M b o) (.slice (aa ⟨s.w.heap.size,0,af⟩) (n+m) r) (.sl ae d.size (n+m) (cK n es es')) :=
    Rd.rB (NT.mono (yT hh A)) (b:=s.w.heap.size) (off:=0) (λ_=>rfl) Xx Xy (by simp) (λp u hp=>by grind)
   have f:=hh.gJ (M':=λb o=>if b=s.w.heap.size then A[o]? else s.M b o) (w':=s.w.drew.alloc (.cells (A++zs).toArray E)) (B':=.vec E d.size (n+m) (cK n es es')) (L':=⟨.slice (aa ⟨s.w.heap.size,0,af⟩) (n+m) r,[s.w.heap.size]⟩) hl V
    ⟨λe=>absurd e N,by omega⟩ (by simp) (λb O _=>cR s.w.drew _ O) (λb O _ o=>by grind) (yT hh A) (yS hh E A zs) (λb O=>by
     simp at O;subst O;exact⟨.inr (bc _),by simp⟩) rfl rfl rfl ⟨Y,.inr ⟨s.w.heap.size,r,A++zs,rfl,dT s.w.drew _,hlen,λo ho=>by
      have hl:A.length<=o:=by rw[NT.len];exact ho
      grind⟩⟩
   refine⟨.value (.slice (aa ⟨s.w.heap.size,0,af⟩) (n+m) r),_,?_,?_,f.1,f.2,eU (jf hi Z I G h.elem hh R h2 hg O h.bytes)⟩
   .simp[z]
   .exact qw (L:=⟨.slice (aa ⟨s.w.heap.size,0,af⟩) (n+m) r,[s.w.heap.size]⟩) (E:=E) (by grind) (by grind) (f.1.box l _ _ (by grind) (by grind))
def j3{α:Type}:List Nat->List α->Option (List α)
 |[],_=>aa []
 |k::ks,l=>match dC k l with
  |some x=>match j3 ks l with
   |some r=>aa (x::r)
   |none=>af
  |none=>af
def fC{α:Type}:∀(n:Nat)(l:List α),dC n l=l[n]?
 |_,[]=>by simp[dC]
 |0,x::_=>by simp[dC]
 |n+1,_::xs=>by simpa[dC]using fC n xs
def iT{α:Type}:∀{ks:List Nat}{l r:List α},j3 ks l=aa r->r.length=ks.length/\∀(j k:Nat),ks[j]?=aa k->∃x,r[j]?=aa x/\l[k]?=aa x
 |[],l,r,h=>by cases h;simp
 |k::ks,l,r,h=>by
  simp only[j3]at h;cases b:dC k l with
  |none=>grind
  |some x =>
   cases a:j3 ks l with
   |none=>grind
   |some q =>
    simp[b,a]at h;subst h;obtain⟨d,c⟩:=iT a;grind[b9]
def wA{α d:Type}:∀{ks:List Nat}{l r:List α}{l':List d},j3 ks l=aa r->l'.length=l.length->∃r',j3 ks l'=aa r'
 |[],l,r,l',_,_=>⟨[],rfl⟩
 |k::ks,l,r,l',h,b=>by
  simp only[j3]at h;cases c:dC k l with
  |none=>grind
  |some x =>
   cases e:j3 ks l with
   |none=>grind
   |some q =>
    obtain⟨r',a⟩:=wA (l':=l') e b;have hk:k<l'.length:=by rw[b];exact(b6.1 (b9 c)).1
    exact⟨l'[k]::r',by simp[j3,fC,hk,a]⟩
def pd(ks:List Nat):A->A
 |.ptr l o=>match dC l ks with|some k=>.ptr k o|none=>.any
 |.vec l k n es=>match dC l ks with|some m=>.vec m k n es|none=>.c (.sl ae k n es)
 |.ref l=>match dC l ks with|some k=>.ref k|none=>.any
 |.bp l w=>match dC l ks with|some k=>.bp k w|none=>.any
 |.c x=>.c x
 |.any=>.any
def Cf(ks:List Nat):List A->List A
 |[]=>[]
 |a::r=>pd ks a::Cf ks r
def Ai(ks:List Nat):E1->E1
 |.one a=>.one (pd ks a)
 |.agg cs=>.agg (Cf ks cs)
def yV(ks:List Nat):List E1->List E1
 |[]=>[]
 |a::r=>Ai ks a::yV ks r
def iu(ks:List Nat):D->D
 |.e x=>.e (Ai ks x)
 |.fa xs=>.fa (yV ks xs)
 |.any=>.any
def fU(ks:List Nat):List D->List D
 |[]=>[]
 |a::r=>iu ks a::fU ks r
def Ep:A->Bool
 |.c _|.any=>ab
 |_=>ae
def Aj:List A->Bool
 |[]=>ab
 |a::r=>match Ep a with|true=>Aj r|false=>ae
def wB:aR->Bool
 |.cells _ cs=>Aj cs
 |.loop ..=>ae
 |_=>ab
def cx:List aR->Bool
 |[]=>ab
 |a::r=>match wB a with|true=>cx r|false=>ae
def k8:∀{l:List aR},cx l=ab->∀B∈l,wB B=ab
 |[],_,B,hB=>by grind
 |b::r,h,B,hB=>by
  simp only[cx]at h;cases a:wB b with
  |false=>grind
  |true =>
   simp only[a]at h;rcases eB.1 hB with rfl|hB
   .exact a
   .exact k8 h B hB
def ei.plain{σ σ':List aR}{s s':St}(e:s'.M=s.M):∀{vs:List ah}{cs:List A},Aj cs=ab->ei σ s vs cs->ei σ' s' vs cs
 |[],[],_,_=>trivial
 |[],_::_,_,h=>h.elim
 |_::_,[],_,h=>h.elim
 |v::vs,a::al,b,h=>by
  simp only[Aj]at b;cases d:Ep a with
  |false=>grind
  |true =>
   simp only[d]at b;refine⟨?_,ei.plain e b h.2⟩;cases a with
   |c x=>have:=h.1;simp only[gB]at this⊢;grind
   |any=>exact h.1
   |_=>simp[Ep]at d
def eE.plain{σ σ':List aR}{s s':St}(a:s'.M=s.M)(c:s'.w=s.w){B:aR}{L:Loc}(d:wB B=ab)(h:eE σ s B L):eE σ' s' B L:=by
 cases B with
 |cells E cs =>
  obtain⟨b,vs,h1,h2,e,f⟩:=h;exact⟨b,vs,h1,by grind,e.plain a d,λo=>by rw[a];grind⟩
 |vec E k n es=>simp only[eE,a,c]at h⊢;exact h
 |cm H=>simp only[eE,a,c]at h⊢;exact h
 |dead=>trivial
 |loop N φ r=>simp[wB]at d
 |qY=>simp only[eE,a,c]at h⊢;exact h
 |buf E k n es=>simp only[eE,a,c]at h⊢;exact h
def iv:Nat->List Nat->Bool
 |_,[]=>ae
 |k,x::r=>match aB k x with|true=>ab|false=>iv k r
def dH:List Nat->Bool
 |[]=>ab
 |k::r=>match iv k r with|true=>ae|false=>dH r
theorem vO:∀{k:Nat}{l:List Nat},k∈l->iv k l=ab
 |k,[],h=>by grind
 |k,x::r,h=>by
  simp only[iv];cases a:aB k x with
  |true=>rfl
  |false =>
   rcases eB.1 h with rfl|h
   .grind [Nat.beq_refl]
   .exact vO h
def wC:∀{l:List Nat},dH l=ab->∀(i j k:Nat),l[i]?=aa k->l[j]?=aa k->i=j
 |[],_,i,j,k,hi,_=>by grind
 |x::r,h,i,j,k,hi,a=>by
  simp only[dH]at h;cases b:iv x r with
  |true=>grind
  |false =>
   simp only[b]at h;have no:∀q,r[q]?=aa x->False:=λq c=>by have:=vO (bP c);grind
   cases i with
   |zero =>
    grind
   |succ i =>
    cases j with
    |zero =>
     grind
    |succ j =>
     simp at hi a;rw[wC h i j k hi a]
def HR(n:Nat):A->Bool
 |.ptr l _|.vec l _ _ _|.ref l|.bp l _=>bA (l+1) n
 |_=>ab
def Gs(n:Nat):List A->Bool
 |[]=>ab
 |a::r=>match HR n a with|true=>Gs n r|false=>ae
def HS(n:Nat):E1->Bool
 |.one a=>HR n a
 |.agg cs=>Gs n cs
def yx(n:Nat):List E1->Bool
 |[]=>ab
 |a::r=>match HS n a with|true=>yx n r|false=>ae
def wD(n:Nat):D->Bool
 |.e x=>HS n x
 |.fa xs=>yx n xs
 |.any=>ab
def lE(n:Nat):List D->Bool
 |[]=>ab
 |a::r=>match wD n a with|true=>lE n r|false=>ae
section sub
variable {ks:List Nat}{σ σ':List aR}{s:St}{β':List Loc}
def gB.sub(u:j3 ks σ=aa σ')(r:j3 ks s.β=aa β'){v:ah}{a:A}(d:gB σ s v (pd ks a))(e:HR ks.length a=ab):gB σ' {s with β:=β'} v a:=by
 obtain⟨z,i⟩:=iT u;obtain⟨C,m⟩:=iT r;cases a with
 |c x=>exact d
 |any=>exact d
 |ptr l o =>
  have hl:l<ks.length:=db e;simp only[pd,fC,br hl]at d;obtain⟨h1,L,b,h2,h,t⟩:=d;obtain⟨x,j,p⟩:=i l _ (br hl);obtain⟨y,g,f⟩:=m l _ (br hl);rw[f]at h2;cases h2;exact⟨λB q=>h1 B (by grind),L,b,g,h,t⟩
 |vec l k n es =>
  have hl:l<ks.length:=db e;simp only[pd,fC,br hl]at d;obtain⟨h1,h2,h⟩:=d;obtain⟨x,j,p⟩:=i l _ (br hl);obtain⟨y,g,f⟩:=m l _ (br hl);refine⟨h1,by grind,λE k' n' es' q=>?_⟩;grind
 |ref l =>
  have hl:l<ks.length:=db e;simp only[pd,fC,br hl]at d;obtain⟨h1,L,h2,h,t⟩:=d;obtain⟨x,j,p⟩:=i l _ (br hl);obtain⟨y,g,f⟩:=m l _ (br hl);rw[f]at h2;cases h2;exact⟨λB q=>h1 B (by grind),L,g,h,t⟩
 |bp l w =>
  have hl:l<ks.length:=db e;simp only[pd,fC,br hl]at d;obtain⟨lv,h1,h2,h⟩:=d;obtain⟨x,j,p⟩:=i l _ (br hl);obtain⟨y,g,f⟩:=m l _ (br hl);refine⟨lv,h1,(b6.1 j).1,λE k n es q=>?_⟩;grind
def gB.nL{σ2:List aR}{s2:St}(u:s2.M=s.M)(e:∀(j:Nat)(B:aR),σ[j]?=aa B->∃k,ks[j]?=aa k/\σ2[k]?=aa B)(g:∀(j:Nat)(L:Loc),s.β[j]?=aa L->∃k,ks[j]?=aa k/\s2.β[k]?=aa L)(t:s.β.length=σ.length){v:ah}{a:A}(f:gB σ s v a):gB σ2 s2 v (pd ks a):=by
 cases a with
 |c x=>simp only[pd,gB,u];exact f
 |any=>exact f
 |ptr l o =>
  obtain⟨h1,L,b,h2,h,i⟩:=f;obtain⟨k,k1,m⟩:=g l L h2;have hl:l<σ.length:=by grind
  obtain⟨k',d,p⟩:=e l _ (br hl);rw[k1]at d;cases d;simp only[pd,fC,k1];refine⟨λB r=>?_,L,b,m,h,i⟩;grind
 |vec l k n es =>
  obtain⟨h1,h2,h⟩:=f;obtain⟨k1,q,p2⟩:=e l _ (br h2);simp only[pd,fC,q];refine⟨by grind,(b6.1 p2).1,λE k' n' es' r=>?_⟩;grind
 |ref l =>
  obtain⟨h1,L,h2,h,i⟩:=f;obtain⟨k,k1,m⟩:=g l L h2;have hl:l<σ.length:=by grind
  obtain⟨k',d,p⟩:=e l _ (br hl);rw[k1]at d;cases d;simp only[pd,fC,k1];refine⟨λB r=>?_,L,m,h,i⟩;grind
 |bp l w =>
  obtain⟨lv,h1,h2,h⟩:=f;obtain⟨k1,q,p2⟩:=e l _ (br h2);simp only[pd,fC,q];refine⟨lv,h1,(b6.1 p2).1,λE k' n' es' r=>?_⟩;grind
def ei.sub(c:j3 ks σ=aa σ')(b:j3 ks s.β=aa β'):∀{vs:List ah}{cs:List A},ei σ s vs (Cf ks cs)->Gs ks.length cs=ab->ei σ' {s with β:=β'} vs cs
 |[],[],_,_=>trivial
 |[],_::_,h,_=>h.elim
 |_::_,[],h,_=>h.elim
 |v::vs,a::al,h,d=>by
  simp only[Gs]at d;cases e:HR ks.length a with
  |false=>grind
  |true=>simp only[e]at d;exact⟨h.1.sub c b e,ei.sub c b h.2 d⟩
def nC.sub(c:j3 ks σ=aa σ')(b:j3 ks s.β=aa β'){v:ah}{x:E1}(h:nC σ s v (Ai ks x))(d:HS ks.length x=ab):nC σ' {s with β:=β'} v x:=by
 cases x with
 |one a=>exact gB.sub c b h d
 |agg cs=>obtain⟨vs,h1,h2⟩:=h;exact⟨vs,h1,h2.sub c b d⟩
def hY.sub(c:j3 ks σ=aa σ')(b:j3 ks s.β=aa β'):∀{vs:List ah}{xs:List E1},hY σ s vs (yV ks xs)->yx ks.length xs=ab->hY σ' {s with β:=β'} vs xs
 |[],[],_,_=>trivial
 |[],_::_,h,_=>h.elim
 |_::_,[],h,_=>h.elim
 |v::vs,a::al,h,d=>by
  simp only[yx]at d;cases e:HS ks.length a with
  |false=>grind
  |true=>simp only[e]at d;exact⟨h.1.sub c b e,hY.sub c b h.2 d⟩
def dt.sub(b:j3 ks σ=aa σ')(a:j3 ks s.β=aa β'){v:ah}{d:D}(h:dt σ s v (iu ks d))(c:wD ks.length d=ab):dt σ' {s with β:=β'} v d:=by
 cases d with
 |e x=>exact nC.sub b a h c
 |fa xs=>obtain⟨vs,h1,h2⟩:=h;exact⟨vs,h1,h2.sub b a c⟩
 |any=>trivial
def cp.sub(c:j3 ks σ=aa σ')(b:j3 ks s.β=aa β'):∀{vs:List ah}{ds:List D},cp σ s vs (fU ks ds)->lE ks.length ds=ab->cp σ' {s with β:=β'} vs ds
 |[],[],_,_=>trivial
 |[],_::_,h,_=>h.elim
 |_::_,[],h,_=>h.elim
 |v::vs,a::al,h,d=>by
  simp only[lE]at d;cases e:wD ks.length a with
  |false=>grind
  |true=>simp only[e]at d;exact⟨h.1.sub c b e,cp.sub c b h.2 d⟩
variable {σ2:List aR}{s2:St}
def ei.nL(d:s2.M=s.M)(c:∀(j:Nat)(B:aR),σ[j]?=aa B->∃k,ks[j]?=aa k/\σ2[k]?=aa B)(b:∀(j:Nat)(L:Loc),s.β[j]?=aa L->∃k,ks[j]?=aa k/\s2.β[k]?=aa L)(a:s.β.length=σ.length):
  ∀{vs:List ah} {cs:List A},ei σ s vs cs->ei σ2 s2 vs (Cf ks cs)
 |[],[],_=>trivial
 |[],_::_,h=>h.elim
 |_::_,[],h=>h.elim
 |_::_,_::_,h=>⟨h.1.nL d c b a,ei.nL d c b a h.2⟩
def nC.nL(e:s2.M=s.M)(d:∀(j:Nat)(B:aR),σ[j]?=aa B->∃k,ks[j]?=aa k/\σ2[k]?=aa B)(c:∀(j:Nat)(L:Loc),s.β[j]?=aa L->∃k,ks[j]?=aa k/\s2.β[k]?=aa L)(b:s.β.length=σ.length){v:ah}{x:E1}(h:nC σ s v x):nC σ2 s2 v (Ai ks x):=by
 cases x with
 |one a=>exact gB.nL e d c b h
 |agg cs=>obtain⟨vs,h1,h2⟩:=h;exact⟨vs,h1,h2.nL e d c b⟩
def hY.nL(d:s2.M=s.M)(c:∀(j:Nat)(B:aR),σ[j]?=aa B->∃k,ks[j]?=aa k/\σ2[k]?=aa B)(b:∀(j:Nat)(L:Loc),s.β[j]?=aa L->∃k,ks[j]?=aa k/\s2.β[k]?=aa L)(a:s.β.length=σ.length):
  ∀{vs:List ah} {xs:List E1},hY σ s vs xs->hY σ2 s2 vs (yV ks xs)
 |[],[],_=>trivial
 |[],_::_,h=>h.elim
 |_::_,[],h=>h.elim
 |_::_,_::_,h=>⟨h.1.nL d c b a,hY.nL d c b a h.2⟩
def dt.nL(f:s2.M=s.M)(c:∀(j:Nat)(B:aR),σ[j]?=aa B->∃k,ks[j]?=aa k/\σ2[k]?=aa B)(b:∀(j:Nat)(L:Loc),s.β[j]?=aa L->∃k,ks[j]?=aa k/\s2.β[k]?=aa L)(a:s.β.length=σ.length){v:ah}{d:D}(h:dt σ s v d):dt σ2 s2 v (iu ks d):=by
 cases d with
 |e x=>exact nC.nL f c b a h
 |fa xs=>obtain⟨vs,h1,h2⟩:=h;exact⟨vs,h1,h2.nL f c b a⟩
 |any=>trivial
end sub
def dW.qV{α:Type}:Nat->α->List α->List α
 |_,_,[]=>[]
 |0,x,_::r=>x::r
 |k+1,x,y::r=>y::dW.qV k x r
def dW{α:Type}:List Nat->List α->List α->List α
 |[],new,old=>old++new
 |k::ks,x::new,old=>dW ks new (dW.qV k x old)
 |_::_,[],old=>old
theorem jq{α:Type}:∀(k:Nat)(x:α)(l:List α),dW.qV k x l=l.set k x
 |_,_,[]=>by simp[dW.qV]
 |0,x,_::r=>by simp[dW.qV]
 |k+1,x,y::r=>by simp[dW.qV,jq k x r]
def wE{α:Type}:∀{ks:List Nat}{new old:List α},dH ks=ab->(∀k∈ks,k<old.length)->ks.length<=new.length ->
  (dW ks new old).length=old.length+(new.length-ks.length)/\(∀(j k:Nat),ks[j]?=aa k->(dW ks new old)[k]?=new[j]?) /\
  (∀j,(dW ks new old)[old.length+j]?=new[ks.length+j]?)/\(∀l,l<old.length->l∉ks->(dW ks new old)[l]?=old[l]?)
 |[],new,old,_,_,_=>by
  refine⟨by simp[dW],by simp,λj=>?_,λl d _=>?_⟩
  .simp only[dW,gG,bF];grind
  .simp[dW,jy d]
 |k::ks,[],old,_,_,h=>by grind
 |k::ks,x::new,old,a,b,e=>by
  have c:=a;simp only[dH]at a;cases g:iv k ks with
  |true=>grind
  |false =>
   simp only[g]at a;have hk:k<old.length:=b k (by simp);have f:k∉ks:=λh=>by grind[vO]
   obtain⟨i,o,n,m⟩:=wE (ks:=ks) (new:=new) (old:=old.set k x) a (λk' U3=>by grind) (by grind);simp only[dW,jq];grind
def Ev{P:ar}(X:Cx P)(f:aJ)(args:List D)(σ:List aR)(res:D)(σ':List aR):Prop :=
 (∃fn,P.funcs[f]?=aa fn/\(fn.name== "runtime.NumGoroutine")=ae/\fn.body.isNone=ae) /\
 ∀s (vs:List ah),cp σ s vs args->aF σ s->∀(S:av->St->Prop) (cs:List aU),
  (∀a v s',vh P f a v s'->dt σ' s' v res->aF σ' s'->cY σ s σ' s'->fL X S (G a cs) s')->fL X S (G (Frame.enter P f vs.toArray .normal) cs) s
def ef{P:ar}{ι:Type}(X:Cx P)(f:aJ)(args:List D)(σ:List aR)(res:ι->D)(σ':ι->List aR):Prop :=
 (∃fn,P.funcs[f]?=aa fn/\(fn.name== "runtime.NumGoroutine")=ae/\fn.body.isNone=ae) /\
 ∀s (vs:List ah),cp σ s vs args->aF σ s->∀(S:av->St->Prop) (cs:List aU),
  (∀i a v s',vh P f a v s'->dt (σ' i) s' v (res i)->aF (σ' i) s'->cY σ s (σ' i) s'->fL X S (G a cs) s')->fL X S (G (Frame.enter P f vs.toArray .normal) cs) s
def Ev.tQ{P:ar}{X:Cx P}{f:aJ}{args:List D}{σ:List aR}{res:D}{σ':List aR}(h:Ev X f args σ res σ'):ef (ι:=Unit) X f args σ (λ_=>res) (λ_=>σ') :=
 ⟨h.1,λs vs hr hh S cs hS=>h.2 s vs hr hh S cs (hS ())⟩
def ef.Cg{P:ar}{X:Cx P}{f:aJ}{args:List D}{σ:List aR}{res:D}{σ':List aR}(h:ef (ι:=Unit) X f args σ (λ_=>res) (λ_=>σ')):Ev X f args σ res σ' :=
 ⟨h.1,λs vs hr hh S cs hS=>h.2 s vs hr hh S cs (λ_=>hS)⟩
def wF(s:St)(a:List Loc):Nat->Prop:=λb=>s.own b∨((∃L∈s.β,b∈L.bs)/\∀L∈a,b∉L.bs)
def k9(n:Nat):Nat->List Nat
 |0=>[]
 |m+1=>n::k9 (n+1) m
def Ch:∀(m n j:Nat),(k9 n m)[j]?=if j<m then aa (n+j)else af
 |0,n,j=>by simp[k9]
 |m+1,n,0=>by simp[k9]
 |m+1,n,j+1=>by simp only[k9,oh,Ch m (n+1) j,Nat.add_lt_add_iff_right];grind
def frame{ks:List Nat}{σ P σ1:List aR}{s a:St}{m:List Loc}(q:aF σ s)(U:j3 ks σ=aa P)(W:j3 ks s.β=aa m)(hn:dH ks=ab)(hp:cx σ1=ab)(u:aF σ1 a)(st:cY P {s with β:=m,own:=wF s m} σ1 a)(N:ks.length<=σ1.length){v:ah}{res:D}(hr:dt σ1 a v res):
  ∃s2:St,s2.w=a.w/\dt (dW ks σ1 σ) s2 v (iu (ks++k9 σ.length (σ1.length-ks.length)) res)/\aF (dW ks σ1 σ) s2/\cY σ s (dW ks σ1 σ) s2/\s2.M=a.M/\s2.own=s.own/\∀L∈s2.β,L∈a.β∨(L∈s.β/\∀b∈L.bs,∀L'∈m,b∉L'.bs):=by
 have H:∀k∈ks,k<σ.length:=by intro k hk;obtain⟨j,n,rfl⟩:=dG hk;obtain⟨x,_,h2⟩:=(iT U).2 j _ (br n);grind
 have A:∀k∈ks,k<s.β.length:=by rw[q.len];exact H
 have J:ks.length<=a.β.length:=by rw[u.len];exact N
 obtain⟨a1,a2,a3,a4⟩:=wE (new:=σ1) (old:=σ) hn H N;obtain⟨b1,b2,b3,b4⟩:=wE (new:=a.β) (old:=s.β) hn A J;obtain⟨c1,c2⟩:=iT U;obtain⟨d1,d2⟩:=iT W;let I:=ks++k9 σ.length (σ1.length-ks.length);have K:∀j,j<σ1.length->∃k,I[j]?=aa k/\(dW ks σ1 σ)[k]?=σ1[j]?/\(dW ks a.β s.β)[k]?=a.β[j]?:=by
  intro j n;rcases cM j ks.length with p|C
  .refine⟨ks[j],?_,a2 j _ (br p),b2 j _ (br p)⟩;grind
  .refine⟨σ.length+(j-ks.length),?_,?_,?_⟩
   .simp only[I];rw[gk C,Ch,bl (by omega)]
   .rw[a3];grind
   .rw[<-q.len,b3];grind
 have g:∀l L,(dW ks a.β s.β)[l]?=aa L->(∃j,j<σ1.length/\a.β[j]?=aa L/\(∀B,(dW ks σ1 σ)[l]?=aa B->σ1[j]?=aa B)/\(∀k,ks[j]?=aa k->k=l)/\(j≥ks.length->l=σ.length+(j-ks.length))) ∨
   (l<σ.length/\l∉ks/\s.β[l]?=aa L/\(dW ks σ1 σ)[l]?=σ[l]?):=by
  intro l L c;have X:l<(dW ks a.β s.β).length:=(b6.1 c).1;rcases cM l σ.length with p|C
  .by_cases r:l∈ks
   .obtain⟨j,n,rfl⟩:=dG r;have hk:=br n;grind
   .exact .inr ⟨p,r,by rw[<-b4 l (by rw[q.len];exact p) r];exact c,a4 l p r⟩
  .rw[b1,u.len,q.len]at X;refine .inl ⟨ks.length+(l-σ.length),by omega,?_,λB hB=>?_,λk hk=>?_,λ_=>by omega⟩
   .rw[<-b3,q.len,z8 C];exact c
   .rw[<-a3,z8 C];exact hB
   grind
 have z:∀L∈m,L∈s.β:=by
  intro L c;obtain⟨j,n,rfl⟩:=dG c;have E:j<ks.length:=by grind
  obtain⟨x,R,Q⟩:=d2 j _ (br E);grind
 have other:∀l L,l∉ks->s.β[l]?=aa L->∀b∈L.bs,b<s.w.heap.size/\∀L'∈m,b∉L'.bs:=by
  intro l L t c b d;refine⟨q.lt L (bP c) b d,λL' fA B8=>?_⟩;obtain⟨j,n,rfl⟩:=dG fA;have E:j<ks.length:=by grind
  obtain⟨x,R,Q⟩:=d2 j _ (br E);rw[br n]at R;cases R;have:=q.eO l ks[j] L _ c Q b d B8;grind
 have out:∀b,b<s.w.heap.size->(∀L∈s.β,b∉L.bs)->∀L∈m,b∉L.bs:=λb _ h L c=>h L (z L c);have ex:Ext σ s (dW ks σ1 σ) ⟨dW ks a.β s.β,a.M,a.w,s.own⟩:=by
  refine⟨st.mem,λl B L hB c=>?_⟩;have p:l<σ.length:=(b6.1 hB).1;by_cases r:l∈ks
  .obtain⟨j,n,rfl⟩:=dG r;have hk:=br n;obtain⟨x,R,Q⟩:=c2 j _ hk;obtain⟨y,y1,y2⟩:=d2 j _ hk;rw[hB]at Q;cases Q;rw[c]at y2;cases y2;obtain⟨B',L',p1,p2,p3⟩:=st.box j B L R y1;grind
  .exact⟨B,L,by grind,by grind,.refl _ _⟩
 refine⟨⟨dW ks a.β s.β,a.M,a.w,s.own⟩,rfl,?_,⟨u.mem,?_,?_,?_,?_,?_⟩,⟨st.size,?_,st.mem,?_,?_,ex.box,st.os,st.tape,st.output,rfl⟩,rfl,rfl,?_⟩
 .refine dt.nL (s:=a) (s2:=⟨dW ks a.β s.β,a.M,a.w,s.own⟩) (σ2:=dW ks σ1 σ) (ks:=I) rfl (λj B hB=>?_) (λj L c=>?_) u.len hr
  .grind
  .obtain⟨k,k1,_,k3⟩:=K j (by rw[<-u.len];grind);grind
 .simp only;rw[a1,b1,u.len,q.len]
 .intro l B L hB c;rcases g l L c with⟨j,n,f,T,_⟩|⟨t,r,fA,Y⟩
  .exact eE.plain (σ:=σ1) (s:=a) (s':=⟨dW ks a.β s.β,a.M,a.w,s.own⟩) rfl rfl (k8 hp B (bP (T B hB))) (u.box j B L (T B hB) f)
  .rw[Y]at hB;refine(q.box l B L hB fA).carry ex q.len λb d=>?_;obtain⟨Z,V⟩:=other l L r fA b d;exact⟨st.fy b (.inr ⟨⟨L,bP fA,d⟩,V⟩),st.je b Z V⟩
 .intro l l' L L' c fA b d B8;rcases g l L c with⟨j,n,f,_,hjk,hjn⟩|⟨t,r,i,_⟩<;>rcases g l' L' fA with⟨j',E,G,_,acH,acI⟩|⟨Ed,hm',F,_⟩
  .have e:=u.eO j j' L L' f G b d B8;grind
  .obtain⟨Z,V⟩:=other l' L' hm' F b B8;rcases st.vK L (bP f) b d with h|⟨L0,h0,O⟩
   .grind
   grind
  .obtain⟨Z,V⟩:=other l L r i b d;rcases st.vK L' (bP G) b B8 with h|⟨L0,h0,O⟩
   .grind
   grind
  .exact q.eO l l' L L' i F b d B8
 .intro L c b d;obtain⟨l,t,rfl⟩:=dG c;rcases g l _ (br t)with⟨j,n,f,_⟩|⟨_,_,i,_⟩
  .exact u.lt _ (bP f) b d
  .have:=q.lt _ (bP i) b d;have:=st.size;grind
 .intro b d;refine⟨?_,λL c S=>?_⟩
  .have:=(q.own b d).1;have:=st.size;grind
  .obtain⟨l,t,rfl⟩:=dG c;rcases g l _ (br t)with⟨j,n,f,_⟩|⟨_,_,i,_⟩
   .have ho:a.own b:=by rw[st.own];exact .inl d
    exact(u.own b ho).2 _ (bP f) S
   .exact(q.own b d).2 _ (bP i) S
 .intro b d;exact st.fy b (.inl d)
 .intro b d Yg o;exact st.je b d (out b d Yg) o
 .intro L c b d;obtain⟨l,t,rfl⟩:=dG c;rcases g l _ (br t)with⟨j,n,f,_⟩|⟨_,_,i,_⟩
  .rcases st.vK _ (bP f) b d with h|⟨L0,h0,O⟩
   .grind
   grind
  grind
 .intro L c;obtain⟨l,t,rfl⟩:=dG c;rcases g l _ (br t)with⟨j,n,f,_⟩|⟨_,r,i,_⟩
  .grind
  grind
def eQ:D->Option (aJ×List C)
 |.e (.one (.c (.fn (.func f) [] cap)))=>aa (f,cap)
 |_=>af
theorem lX{σ:List aR}{s:St}{b:aq->ah}{a:aq->D}(c:∀y,dt σ s (b y) (a y)):∀l:List aq,cp σ s (l.map b) (l.map a)
 |[]=>trivial
 |x::r=>⟨c x,lX c r⟩
def cp.append{σ:List aR}{s:St}:∀{vs Ak:List ah}{ds Gr:List D},cp σ s vs ds->cp σ s Ak Gr->cp σ s (vs++Ak) (ds++Gr)
 |[],_,[],_,_,h=>h
 |[],_,_::_,_,h,_=>h.elim
 |_::_,_,[],_,h,_=>h.elim
 |_::_,_,_::_,_,h,a=>⟨h.1,cp.append h.2 a⟩
def RQ:A->A
 |.vec _ k n es=>.c (.sl ae k n es)
 |.c (.sl _ k n es)=>.c (.sl ae k n es)
 |a=>a
def Gt{σ:List aR}{s:St}{v:ah}{a:A}(h:gB σ s v a):gB σ s v (RQ a):=by
 cases a with
 |vec l k n es=>exact h.1
 |c x=>cases x<;>first|exact h|exact Rd.loose h
 |_=>exact h
def RR:List A->List A
 |[]=>[]
 |a::r=>RQ a::RR r
def Gu{σ:List aR}{s:St}:∀{vs:List ah}{cs:List A},ei σ s vs cs->ei σ s vs (RR cs)
 |[],[],_=>trivial
 |[],_::_,h=>h.elim
 |_::_,[],h=>h.elim
 |_::_,_::_,h=>⟨Gt h.1,Gu h.2⟩
def U4:D->D
 |.e (.one a)=>.e (.one (RQ a))
 |.e (.agg cs)=>.e (.agg (RR cs))
 |d=>d
def Oc{σ:List aR}{s:St}{v:ah}{d:D}(h:dt σ s v d):dt σ s v (U4 d):=by
 cases d with
 |e x=>cases x with
  |one a=>exact Gt h
  |agg cs=>obtain⟨vs,c,b⟩:=h;exact⟨vs,c,Gu b⟩
 |fa xs=>exact h
 |any=>trivial
def mS:List D->List D
 |[]=>[]
 |a::r=>U4 a::mS r
theorem pA{σ:List aR}{s:St}:∀{vs:List ah}{ds:List D},cp σ s vs ds->cp σ s vs (mS ds)
 |[],[],_=>trivial
 |[],_::_,h=>h.elim
 |_::_,[],h=>h.elim
 |_::_,_::_,h=>⟨Oc h.1,pA h.2⟩
def fP:List C->List D
 |[]=>[]
 |c::r=>.e (.one (.c c))::fP r
theorem nN{σ:List aR}{s:St}:∀{vs:List ah}{cs:List C},(∀(j:Nat)(c:C),cs[j]?=aa c->∃v,vs[j]?=aa v/\Rd s.M v c)->vs.length=cs.length->cp σ s vs (fP cs)
 |[],[],_,_=>trivial
 |[],_::_,_,h=>by grind
 |_::_,[],_,h=>by grind
 |v::vs,c::cs,h,e=>by obtain⟨u,a,b⟩:=h 0 c rfl;simp at a;subst a;exact⟨b,nN (λj c d=>by simpa using h (j+1) c (by grind)) (by grind)⟩
def Al{α:Type}{ks:List Nat}{l r:List α}(h:j3 ks l=aa r):∀x∈r,x∈l:=by intro x a;obtain⟨f,b⟩:=iT h;obtain⟨j,c,rfl⟩:=dG a;obtain⟨y,e,d⟩:=b j _ (br (by omega));grind
def aF.sub{ks:List Nat}{σ d:List aR}{s:St}{a:List Loc}(hh:aF σ s)(q:j3 ks σ=aa d)(e:j3 ks s.β=aa a)(t:cx d=ab)(u:dH ks=ab):
  aF d {s with β:=a,own:=wF s a}/\eF s {s with β:=a,own:=wF s a}:=by
 obtain⟨c1,c2⟩:=iT q;obtain⟨d1,d2⟩:=iT e;have f:∀L∈a,L∈s.β:=Al e;refine⟨⟨hh.mem,by grind,?_,?_,?_,?_⟩,⟨rfl,λ_ _ _ h=>h,λ_ _ _=>rfl,hh.mem,?_⟩⟩
 .intro j B L hB hL;have hj:j<ks.length:=by grind
  obtain⟨x,r,v⟩:=c2 j _ (br hj);obtain⟨y,g,n⟩:=d2 j _ (br hj);rw[hB]at r;cases r;simp only at hL;rw[hL]at g;cases g;exact eE.plain (σ:=σ) (s:=s) (s':={s with β:=a,own:=wF s a}) rfl rfl (k8 t B (bP hB)) (hh.box _ B L v n)
 .intro j k L L' hL fA b c o;simp only at hL fA;have hj:j<ks.length:=by grind
  have m:k<ks.length:=by grind
  obtain⟨y,g,n⟩:=d2 j _ (br hj);obtain⟨w,i,l⟩:=d2 k _ (br m);rw[hL]at g;cases g;rw[fA]at i;cases i;have:=hh.eO _ _ L L' n l b c o;exact wC u j k ks[j] (br hj) (by grind)
 .intro L hL b c;exact hh.lt _ (f L hL) b c
 .rintro b (c|⟨⟨L,hL,c⟩,p⟩)
  .exact⟨(hh.own b c).1,λL hL=>(hh.own b c).2 L (f L hL)⟩
  .exact⟨hh.lt L hL b c,p⟩
 .rintro b ((c|⟨⟨L,hL,c⟩,_⟩)|⟨L,hL,c⟩)
  .grind
  .grind
  grind
def eF.back{σ e σ1:List aR}{s c s2:St}{a:List Loc}(hh:aF σ s)(h1:aF σ1 c)(st:cY e {s with β:=a,own:=wF s a} σ1 c)(i:s2.w=c.w)(g:s2.M=c.M)(l:s2.own=s.own)(d:∀L∈s2.β,L∈c.β∨(L∈s.β/\∀b∈L.bs,∀L'∈a,b∉L'.bs)):eF c s2:=by
 refine⟨i,λb o v h=>by grind,λb _ o=>by rw[g],λb o v h=>by rw[g]at h;exact h1.mem b o v h,?_⟩;rintro b (f|⟨L,k,f⟩)
 .left;rw[st.own];exact .inl (by grind)
 .rcases d L k with h|⟨h,j⟩
  .grind
  .left;rw[st.own];exact .inr ⟨⟨L,h,f⟩,j b f⟩
def tR{P:ar}{ι:Type}{X:Cx P}{S:av->St->Prop}{b:aU}{k:List Item}{cs:List aU}{a:Act}{s:St}{ops:Array au}{i:Nat}{rest:List Nat}{o:au}{ks:List Nat}{σ e:List aR}{σ1:ι->List aR}{f:aJ}{d:List D}{res:ι->D}{vs:List ah}(hb:b.kind≠.early)(ho:ops[i]?=aa o)(hw:bg o (yielded ops a.tmps)=ab)(hh:aF σ s)(C:∀w,(aw a.eval o).run P w=.ok (.enter f vs.toArray) w)(F:∀w,(aw a.eval o).events P w #[]=#[])(M:ef X f d e res σ1)(x:cp σ s vs (fU ks d))(I:lE ks.length d=ab)(q:j3 ks σ=aa e)(hp:cx e=ab)(U:∀j,cx (σ1 j)=ab)(hn:dH ks=ab)(J:∀j,ks.length<=(σ1 j).length)(h:∀j v s',dt (dW ks (σ1 j) σ) s' v (iu (ks++k9 σ.length ((σ1 j).length-ks.length)) (res j))->aF (dW ks (σ1 j) σ) s'->cY σ s (dW ks (σ1 j) σ) s'->fL X S (G (b.aT (a.put o.dst v) (.inRegion ops rest::k)) cs) s'):
  fL X S (G (b.aT a (.inRegion ops (i::rest)::k)) cs) s:=by
 obtain⟨_,u⟩:=M;refine .next rfl λn T=>?_;have V:=X.iH T;have g:=hh.rely V;obtain⟨m,r⟩:=wA (l':=n.β) q g.len;obtain⟨A,W⟩:=g.sub q r hp hn;have p:cp σ n vs (fU ks d):=x.mono V.stepW.ext hh.len;have z:cp e {n with β:=m,own:=wF n m} vs d:=(p.sub (s:=n) q r I).mono (σ:=e) (s:={n with β:=m}) (σ':=e) (s':={n with β:=m,own:=wF n m}) ⟨λ_ _ _ h=>h,λl B L hB hL=>⟨B,L,hB,hL,.refl _ _⟩⟩ A.len;refine⟨_,n,_,px ho hw hb (C n.w),?_,.ghost W (u _ vs z A S _ λj fr v s2 hl mJ ND mR=>?_)⟩
 .refine⟨⟨σ,σ,g,g,.refl _ _⟩,fg.seen ?_⟩;rw[F];exact .nil
 refine qz (cs:=cs) (c:=b.aT a (.inRegion ops (i::rest)::k)) ND hl λs3 t=>?_;have E:=ND.rely t;have H:=mR.trans t.stepW;obtain⟨s4,Z,Y,O,Q,R,N,y⟩:=frame g q r hn (U j) E H (J j) (mJ.mono t.stepW.ext ND.len);refine .ghost (eF.back g E H Z R N y) ?_;have K:=kF (b:=b) (a:=a) (k:=k) ops i rest v;rw[ho]at K;simp only[oq]at K;rw[K];exact h j v s4 Y O (V.stepW.trans Q)
def JQ{P:ar}{X:Cx P}{S:av->St->Prop}{b:aU}{k:List Item}{cs:List aU}{a:Act}{s:St}{ops:Array au}{i:Nat}{rest:List Nat}{o:au}{ks:List Nat}{σ e:List aR}{σ1:List aR}{f:aJ}{c:List D}{res:D}{vs:List ah}(z:b.kind≠.early)(t:ops[i]?=aa o)(x:bg o (yielded ops a.tmps)=ab)(u:aF σ s)(g:∀w,(aw a.eval o).run P w=.ok (.enter f vs.toArray) w)(j:∀w,(aw a.eval o).events P w #[]=#[])(m:Ev X f c e res σ1)(d:cp σ s vs (fU ks c))(n:lE ks.length c=ab)(q:j3 ks σ=aa e)(r:cx e=ab)(l:cx σ1=ab)(y:dH ks=ab)(p:ks.length<=σ1.length)(h:∀v s',dt (dW ks σ1 σ) s' v (iu (ks++k9 σ.length (σ1.length-ks.length)) res)->aF (dW ks σ1 σ) s'->cY σ s (dW ks σ1 σ) s'->fL X S (G (b.aT (a.put o.dst v) (.inRegion ops rest::k)) cs) s'):
  fL X S (G (b.aT a (.inRegion ops (i::rest)::k)) cs) s :=
 tR z t x u g j m.tQ d n q r (λ_=>l) y (λ_=>p) (λ_=>h)
theorem jK{P:ar}{o:au}{l:aq}{xs:Array aq}{g:Array aj}(j:o.op=.call {callee:=.value l,args:=xs,argTypes:=g}){f:aJ}{fn:Func}(d:P.funcs[f]?=aa fn)(k:(fn.name== "runtime.NumGoroutine")=ae)(e:fn.body.isNone=ae){a:Act}{cs:List ah}(i:a.eval l=.func (.func f) #[] cs.toArray)(w:aA):
  (aw a.eval o).run P w=.ok (.enter f (xs.toList.map a.eval++cs).toArray) w/\(aw a.eval o).events P w #[]=#[]:=by
 have h:(xs.map a.eval++cs.toArray)=(xs.toList.map a.eval++cs).toArray:=by grind
 have c:fn.name≠ "runtime.NumGoroutine":=by grind
 have b:fn.body≠af:=by grind
 constructor
 .simp[aw,j,resolve,i,Deferred.ofValue,invoke,callFunc,d,c,b,h]
 .simp[aw,j,resolve,i,Deferred.ofValue,invoke,callFunc,d,c,b]
def iw.Ci{P:ar}{ι:Type}{X:Cx P}{N:Nat}{all rest:List au}{Q:Fr->List aR->Prop}{φ:Fr}{σ:List aR}{o:au}{B:aq}{xs:Array aq}{G:Array aj}(hg:∀σ s a,cu N σ s φ a->bg o (yielded all.toArray a.tmps)=ab)(T:o.op=.call {callee:=.value B,args:=xs,argTypes:=G}){f:aJ}{cap:List C}(A:eQ (bU φ B)=aa (f,cap))(ks:List Nat){e:List D}{r:List aR}{σ1:ι->List aR}{res:ι->D}(x:ef X f e r res σ1)(p:∀s vs,cp σ s vs (xs.toList.map (bU φ)++fP cap)->cp σ s vs (fU ks e))(E:lE ks.length e=ab)(O:j3 ks σ=aa r)(U:cx r=ab)(M:∀j,cx (σ1 j)=ab)(Z:dH ks=ab)(F:∀j,ks.length<=(σ1 j).length)(d:Option Nat)(W:o.dst=d)(V:∀t,d=aa t->t<N)(k:∀j,iw X N all rest Q (kH d (iu (ks++k9 σ.length ((σ1 j).length-ks.length)) (res j)) φ) (dW ks (σ1 j) σ)):iw X N all (o::rest) Q φ σ:=by
 subst W;intro s a h hh b kk cs S idx hb jE hQ;cases idx with
 |nil=>exact jE.elim
 |cons i idx =>
 obtain⟨hi,jE⟩:=jE;have z:=dg h B;unfold eQ at A;split at A
 case h_2=>cases A
 case h_1 f' NW he =>
  cases A;rw[he]at z;have l:=e9 z;generalize R:a.eval B=fv at l;cases l with
  |fn fs nG hl Ed f1 f2 h1 h2 r1 r2 =>
   have H:fs=[]:=jv hl;subst H;have n:cp σ s nG (fP cap):=nN (λj c hj=>⟨f2 j,h2 j (by grind),r2 j c hj⟩) Ed;have y:cp σ s (xs.toList.map a.eval++nG) (fU ks e):=by exact p _ _ ((lX (dg h) xs.toList).append n)
   obtain⟨fn,u,m,g⟩:=x.1;refine tR hb hi (hg _ _ _ h) hh (λw=>(jK T u m g R w).1) (λw=>(jK T u m g R w).2) x y E O U M Z F λj v s' hr jh st=>?_;refine k j s' _ ?_ jh b kk cs S idx hb jE λJ K s3 a3 q f3 Y I=>hQ J K s3 a3 q f3 Y (st.trans I);cases L:o.dst with
   |none=>exact h.mono st hh.len
   |some t=>exact(h.mono st hh.len).put (V t L) hr
def iw.Qy{P:ar}{ι:Type}{X:Cx P}{N:Nat}{all rest:List au}{Q:Fr->List aR->Prop}{φ:Fr}{σ:List aR}{o:au}{q:aq}{xs:Array aq}{i:Array aj}(x:∀σ s a,cu N σ s φ a->bg o (yielded all.toArray a.tmps)=ab)(v:o.op=.call {callee:=.value q,args:=xs,argTypes:=i}){f:aJ}{cap:List C}(u:eQ (bU φ q)=aa (f,cap))(ks:List Nat){b:List D}{c:List aR}{σ1:ι->List aR}{res:ι->D}(l:ef X f b c res σ1)(e:mS (xs.toList.map (bU φ)++fP cap)=fU ks b)(m:lE ks.length b=ab)(n:j3 ks σ=aa c)(r:cx c=ab)(g:∀j,cx (σ1 j)=ab)(y:dH ks=ab)(p:∀j,ks.length<=(σ1 j).length)(d:Option Nat)(w:o.dst=d)(z:∀t,d=aa t->t<N)(k:∀j,iw X N all rest Q (kH d (iu (ks++k9 σ.length ((σ1 j).length-ks.length)) (res j)) φ) (dW ks (σ1 j) σ)):iw X N all (o::rest) Q φ σ :=
 iw.Ci x v u ks l (λs vs h=>by grind[pA]) m n r g y p d w z k
theorem iw.call{P:ar}{X:Cx P}{N:Nat}{all rest:List au}{Q:Fr->List aR->Prop}{φ:Fr}{σ:List aR}{o:au}{n:aq}{xs:Array aq}{h:Array aj}(v:∀σ s a,cu N σ s φ a->bg o (yielded all.toArray a.tmps)=ab)(r:o.op=.call {callee:=.value n,args:=xs,argTypes:=h}){f:aJ}{cap:List C}(q:eQ (bU φ n)=aa (f,cap))(ks:List Nat){b:List D}{e σ1:List aR}{res:D}(i:Ev X f b e res σ1)(c:mS (xs.toList.map (bU φ)++fP cap)=fU ks b)(j:lE ks.length b=ab)(l:j3 ks σ=aa e)(p:cx e=ab)(g:cx σ1=ab)(w:dH ks=ab)(m:ks.length<=σ1.length)(d:Option Nat)(u:o.dst=d)(x:∀t,d=aa t->t<N)(k:iw X N all rest Q (kH d (iu (ks++k9 σ.length (σ1.length-ks.length)) res) φ) (dW ks σ1 σ)):iw X N all (o::rest) Q φ σ :=
 iw.Qy v r q ks i.tQ c j l p (λ_=>g) w (λ_=>m) d u x (λ_=>k)
def Names.range(all:List au):Names all (bh all.toArray.size) all:=by
 have key:∀(l:List au) (n:Nat),(∀j o,l[j]?=aa o->all[n+j]?=aa o)->Names all (List.range' n l.length) l:=by
  intro l;induction l with
  |nil=>intro n _;trivial
  |cons o r a =>
   intro n h;rw[fb,List.range'_succ];refine⟨by simpa using h 0 o rfl,a (n+1) λj b hj=>?_⟩;have:=h (j+1) b (by grind);grind
 grind[List.range_eq_range']
theorem AW.region{P:ar}{X:Cx P}{N:Nat}{Q:Post}{φ:Fr}{σ:List aR}{id:Nat}{ops:Array au}(h:iw X N ops.toList ops.toList (λφ σ=>Q .normal φ σ) φ σ):AW X N (.region id ops ae) Q φ σ:=by intro s a f hh b k cs S g c;refine .ctl hh rfl (λ_=>qx) λe h1=>?_;have:=h e a (f.rely h1 hh) (hh.rely h1) b k cs S (bh ops.size) g (by simpa using Names.range ops.toList) λφ' σ' s' a' q d i st=>c .normal φ' σ' s' a' q d i (h1.stepW.trans st);simpa using this
def iw.nil{P:ar}{X:Cx P}{N:Nat}{all:List au}{Q:Fr->List aR->Prop}{φ:Fr}{σ:List aR}(h:Q φ σ):iw X N all [] Q φ σ:=by
 intro s a f hh b k cs S idx _ c d;cases idx with
 |cons i idx=>exact c.elim
 |nil=>exact .ctl hh rfl (λ_=>jg) λe h1=>d φ σ e a h (f.rely h1 hh) (hh.rely h1) h1.stepW
def iw.mono{P:ar}{X:Cx P}{N:Nat}{all rest:List au}{Q c:Fr->List aR->Prop}{φ:Fr}{σ:List aR}(h:iw X N all rest Q φ σ)(g:∀φ σ,Q φ σ->c φ σ):iw X N all rest c φ σ :=
 λs a f hh b k cs S idx hb hi hQ=>h s a f hh b k cs S idx hb hi λφ' σ' s' a' q d e st=>hQ φ' σ' s' a' (g _ _ q) d e st
def iw.le{P:ar}{X:Cx P}{N:Nat}{all rest:List au}{Q:Fr->List aR->Prop}{φ φ':Fr}{σ:List aR}(h:iw X N all rest Q φ' σ)(hl:oB φ φ'):iw X N all rest Q φ σ :=
 λs a f hh b k cs S idx hb hi hQ=>h s a (f.le hl) hh b k cs S idx hb hi hQ
def ji:Nat->List D->Fr
 |_,[]=>[]
 |i,d::r=>(i,d)::ji (i+1) r
def oC:∀(ds:List D)(i t:Nat),look (ji i ds) t=if i<=t then(ds[t-i]?).getD .any else .any
 |[],i,t=>by simp[ji,look]
 |d::r,i,t=>by
  simp only[ji,look];by_cases e:i=t
  .grind [Nat.beq_refl]
  .have:aB i t=ae:=by grind[Nat.eq_of_beq_eq_true]
   rw[this];simp only[cond,oC r (i+1) t];grind
theorem cp.get{σ:List aR}{s:St}:∀{vs:List ah}{ds:List D},cp σ s vs ds->vs.length=ds.length/\∀(j:Nat),dt σ s ((vs[j]?).getD ai) ((ds[j]?).getD .any)
 |[],[],_=>⟨rfl,λj=>by simp[dt]⟩
 |[],_::_,h=>h.elim
 |_::_,[],h=>h.elim
 |v::vs,d::ds,h=>by
  obtain⟨h1,h2⟩:=cp.get h.2;refine⟨by grind,λj=>?_⟩;cases j with
  |zero=>simpa using h.1
  |succ j=>grind
def yy(φ:Fr):List ResultVar->Option (List D)
 |[]=>aa []
 |.tmp t::r=>match yy φ r with
  |some q=>aa (look φ t::q)
  |none=>af
 |.cell _ _::_=>af
def uN:List D->Option (List E1)
 |[]=>aa []
 |.e x::r=>match uN r with
  |some q=>aa (x::q)
  |none=>af
 |_::_=>af
def sG:List D->Option D
 |[d]=>aa d
 |ds=>match uN ds with
  |some es=>aa (.fa es)
  |none=>af
def gv(a:Act):ResultVar->Sem ah
 |ResultVar.tmp t=>pure (a.tmps.getD t ai)
 |ResultVar.cell ad t=>do loadVar t (<-asAddr (a.tmps.getD ad ai))
def Gv(P:ar){N:Nat}{σ:List aR}{s:St}{φ:Fr}{a:Act}(f:cu N σ s φ a):∀{rs:List ResultVar}{ds:List D},yy φ rs=aa ds ->
  ∃vs,(∀w,(rs.mapM (gv a)).run P w=Result.ok vs w)/\cp σ s vs ds/\di P (rs.mapM (gv a))
 |[],ds,h=>by cases h;exact⟨[],by simp,ay,by rw[List.mapM_nil];exact .pure⟩
 |.tmp t::r,ds,h=>by
  simp only[yy]at h;cases b:yy φ r with
  |none=>grind
  |some q =>
   simp[b]at h;subst h;obtain⟨vs,d,e,c⟩:=Gv P f b;refine⟨a.tmps.getD t ai::vs,?_,⟨f.slot t,e⟩,?_⟩
   .intro w;simp only[lT,bT,gv,dx,b5,d]
   .rw[lT];exact .bind .pure λ_=>.bind c λ_=>.pure
 |.cell ad t::r,ds,h=>by simp[yy]at h
def Cj{σ:List aR}{s:St}:∀{vs:List ah}{ds:List D}{es:List E1},uN ds=aa es->cp σ s vs ds->hY σ s vs es
 |[],[],es,h,_=>by cases h;trivial
 |[],_::_,_,_,h=>h.elim
 |_::_,[],_,_,h=>h.elim
 |v::vs,.e x::r,es,h,a=>by
  simp only[uN]at h;cases b:uN r with
  |none=>grind
  |some q=>simp[b]at h;subst h;exact⟨a.1,Cj b a.2⟩
 |_::_,.fa _::_,es,h,_=>by simp[uN]at h
 |_::_,.any::_,es,h,_=>by simp[uN]at h
def Ck{σ:List aR}{s:St}{vs:List ah}{ds:List D}{d:D}(h:sG ds=aa d)(a:cp σ s vs ds):dt σ s (if h:vs.length=1 then vs[0]else .tuple vs.toArray) d:=by
 unfold sG at h;split at h
 .rename_i g;cases h
  match vs,a with
  |[v],a=>simpa using a.1
 .rename_i f;cases b:uN ds with
  |none=>grind
  |some es =>
   simp[b]at h;subst h;have c:vs.length≠1:=by
    intro e;rw[(cp.get a).1]at e
    match ds,e with
    |[x],_=>grind
   rw[dif_neg c];exact⟨vs,rfl,Cj b a⟩
def Am(P:ar)(fn:Func)(φ:Fr)(d:D):Prop:=∀{N:Nat}{σ:List aR}{s:St}{a:Act},cu N σ s φ a->∃v,dt σ s v d/\∀w,(∀b o u,s.M b o=aa u->w.cell? ⟨b,o,af⟩=aa u)->(results fn a.tmps).run P w=.ok v w/\∀e∈(results fn a.tmps).events P w #[],∃b o u,e=⟨.cell ⟨b,o,af⟩,ae,ae⟩/\s.M b o=aa u
def uO{P:ar}{N:Nat}{σ:List aR}{s:St}{φ:Fr}{a:Act}(f:cu N σ s φ a){fn:Func}{ds:List D}{d:D}(h:yy φ fn.results.toList=aa ds)(c:sG ds=aa d):
  ∃v,(∀w,(results fn a.tmps).run P w=.ok v w)/\dt σ s v d/\di P (results fn a.tmps):=by
 obtain⟨vs,i,g,b⟩:=Gv P f h;refine⟨_,λw=>?_,Ck c g,?_⟩
 .have e:(fn.results.mapM (gv a)).run P w=Result.ok vs.toArray w:=by grind[Array.mapM_eq_mapM_toList,Sem.run_map,Go.Result.andThen_ok]
  unfold results;rw[bT];refine(dJ (λr=>Result.andThen r _) (Eq.trans ?_ e)).trans ?_
  .congr 2
  .simp
 .unfold results;have e:di P (fn.results.mapM (gv a)):=by rw[rv];exact .map b
  exact .bind e λ_=>.pure
theorem Am.of{P:ar}{fn:Func}{φ:Fr}{ds:List D}{d:D}(h:yy φ fn.results.toList=aa ds)(hj:sG ds=aa d):Am P fn φ d:=by intro N σ s a f;obtain⟨v,h1,h2,b⟩:=uO (P:=P) f h hj;exact⟨v,h2,λw _=>⟨h1 w,λe c=>by rw[b w #[]]at c;grind⟩⟩
section
def aF.lW{σ:List aR}{s:St}(h:aF σ s):aF (σ.map λ_=>.dead) s:=by
 refine⟨h.mem,by simp[h.len],λl B L hB hL=>?_,h.eO,h.lt,h.own⟩;simp only[nk]at hB;cases a:σ[l]? with
 |none=>grind
 |some x=>rw[a]at hB;cases hB;trivial
structure QA(ls:List Nat)(s s':St):Prop where
 β:s'.β=s.β
 M:s'.M=s.M
 own:s'.own=s.own
 size:s.w.heap.size<=s'.w.heap.size
 fy:∀b,(s.own b∨∃(l:Nat) (L:Loc),s.β[l]?=aa L/\l∉ls/\b∈L.bs)->s'.w.heap[b]?=s.w.heap[b]?
 mem:∀b o v,s.M b o=aa v->s'.w.cell? ⟨b,o,af⟩=aa v
 os:s'.w.os=s.w.os
 tape:s'.w.tape=s.w.tape
 output:s'.w.output=s.w.output
def cv.unR{s s':St}(h:cv s s')(ls:List Nat):QA ls s s' :=
 ⟨h.β,h.M,h.own,h.size,λb c=>h.fy b (c.imp id λ⟨l,L,h1,_,a⟩=>⟨L,bP h1,a⟩),h.mem,h.os,h.tape,h.output⟩
theorem QA.cat{l:Nat}{ls:List Nat}{s a s2:St}(h:QA [l] s a)(k:QA ls a s2):QA (l::ls) s s2:=by refine⟨k.β.trans h.β,k.M.trans h.M,k.own.trans h.own,iZ h.size k.size,λb e=>?_,λb o v c=>k.mem b o v (by rw[h.M];exact c),k.os.trans h.os,k.tape.trans h.tape,k.output.trans h.output⟩;rw[k.fy b,h.fy b (e.imp id λ⟨l',L,h1,h2,d⟩=>⟨l',L,h1,λf=>h2 (by grind),d⟩)];rw[h.own,h.β];grind
def JW{P:ar}{w:aA}{r:Nat}(a:w.heap[r]?=aa (.deferred (aa []))):
  (Instr.takeDeferred r).run P w=.ok [] {w with heap:=w.heap.setIfInBounds r (.deferred af)}/\(Instr.takeDeferred r).events P w #[]=#[⟨.obj r,ae,ae⟩,⟨.obj r,ab,ae⟩]:=by
 have b:(getObj r).run P w=.ok (.deferred (aa [])) w:=by simp only[getObj,Sem.run,a]
 have e:(setObj r (.deferred af)).run P w=.ok () {w with heap:=w.heap.setIfInBounds r (.deferred af)}:=by simp only[setObj,Sem.run,a]
 have d:∀es,(getObj r).events P w es=es.push ⟨.obj r,ae,ae⟩:=λes=>by simp only[getObj,Sem.events,Sem.runT,a];rfl
 have c:∀es,(setObj r (.deferred af)).events P w es=es.push ⟨.obj r,ab,ae⟩:=λes=>by simp only[setObj,Sem.events,Sem.runT,a];rfl
 constructor
 .simp[Instr.takeDeferred,b,e]
 .simp[Instr.takeDeferred,b,d,c]
variable {P:ar}{X:Cx P}{S:av->St->Prop}{cs:List aU}{main:Bool}
def Od{a:aU}{r:Nat}{ds:List Deferred}{w:aA}(c:a.mode=.returning)(e:a.defers={target:=.collected r,args:=#[]}::ds)(b:w.heap[r]?=aa (.deferred (aa []))):
  aH P main (G a cs) w=.go (G {a with defers:=ds} cs) {w with heap:=w.heap.setIfInBounds r (.deferred af)} (seen P a.fn #[⟨.obj r,ae,ae⟩,⟨.obj r,ab,ae⟩]):=by obtain⟨d,f⟩:=JW (P:=P) b;simp[G,aH,unwind,c,e,d,f,GStep.after]
def wM(s:St):List Deferred->List Nat->Prop
 |[],[]=>True
 |d::ds,l::ls=>(∃r:Nat,s.β[l]?=aa ⟨.int .i64 r,[r]⟩/\s.w.heap[r]?=aa (.deferred (aa []))/\(∀o,s.M r o=af)/\d={target:=.collected r,args:=#[]})/\l∉ls/\wM s ds ls
 |_,_=>False
def pe.taken{σ:List aR}{s:St}(hh:aF σ s):∀{ds:List Deferred}{ls:List Nat},pe σ s ds ls->wM s ds ls
 |[],[],_=>trivial
 |[],_::_,r=>r.elim
 |_::_,[],r=>r.elim
 |d::ds,l::ls,⟨⟨h1,L,r,h2,h,c⟩,b,a⟩=>by
  obtain⟨r',k1,f,g⟩:=hh.box l _ L h1 h2;subst k1;simp at h;have e:r'=r:=by omega
  subst e;exact⟨⟨r',h2,f,g,c⟩,b,pe.taken hh a⟩
def wM.mono{s s':St}{b:Nat}(h:QA [b] s s'):∀{ds:List Deferred}{ls:List Nat},b∉ls->wM s ds ls->wM s' ds ls
 |[],[],_,_=>trivial
 |[],_::_,_,r=>r.elim
 |_::_,[],_,r=>r.elim
 |d::ds,l::ls,a,⟨⟨r,h1,h2,g,f⟩,e,c⟩=>by simp only[eB,not_or]at a;refine⟨⟨r,by rw[h.β];exact h1,by rw[h.fy r (.inr ⟨l,_,h1,by grind,by simp⟩)];exact h2,λo=>by rw[h.M];grind,f⟩,e,wM.mono h a.2 c⟩
def rI:∀(ls:List Nat)(g:aU)(s:St)(σ:List aR),aF σ s->(∀B∈σ,B=.dead)->g.mode=.returning->wM s g.defers ls ->
  (∀s',QA ls s s'->fL X S (G {g with defers:=[]} cs) s')->fL X S (G g cs) s
 |[],g,s,σ,t,n,E,m,k=>by
  have p:g.defers=[]:=by
   cases p:g.defers with
   |nil=>rfl
   |cons d ds=>rw[p]at m;exact m.elim
  have:=k s ((cv.refl t).unR _);have e:{g with defers:=[]}=g:=by cases g;simp_all
  grind
 |l::ls,g,s,σ,t,n,E,m,k=>by
  cases p:g.defers with
  |nil=>rw[p]at m;exact m.elim
  |cons d ds =>
   rw[p]at m;obtain⟨⟨r,y,I,Q,O⟩,N,K⟩:=m;subst O;refine .next rfl λi F=>?_;have f:=X.iH F;have a:=t.rely f;have C:i.β[l]?=aa ⟨.int .i64 r,[r]⟩:=by rw[f.β];exact y
   have z:i.w.heap[r]?=aa (.deferred (aa [])):=by rw[f.fy r (.inr ⟨_,bP y,by simp⟩)];exact I
   have H:∀o,i.M r o=af:=λo=>by rw[f.M];grind
   let s2:St:={i with w:={i.w with heap:=i.w.heap.setIfInBounds r (.deferred af)}}
   have hk:∀b,b≠r->s2.w.heap[b]?=i.w.heap[b]?:=λb c=>by grind
   have j:∀b o v,i.M b o=aa v->s2.w.cell? ⟨b,o,af⟩=aa v:=by
    intro b o v A;have x:b≠r:=by grind
    rw[<-a.mem b o v A];simp only[aV];grind
   have q:aF σ s2:=by
    refine⟨j,a.len,λl' B L hB hL=>?_,a.eO,λL hL b c=>?_,λb c=>⟨?_,(a.own b c).2⟩⟩
    .rw[n B (bP hB)];trivial
    .have:=a.lt L hL b c;grind
    .have:=(a.own b c).1;grind
   have u:∃L∈i.β,r∈L.bs:=⟨_,bP C,by simp⟩
   have st:Step σ i σ s2:=by refine⟨by grind,λb _ c=>hk b ?_,λ_ _ _ h=>h,λ_ _ _ _=>rfl,λL hL b c=>.inr ⟨L,hL,c⟩,λ_ B L h J=>⟨B,L,h,J,.refl _ _⟩,rfl,rfl,rfl,rfl⟩;grind
   have un:QA [l] s s2:=by
    refine⟨f.β,f.M,f.own,iZ f.size (by grind),λb c=>?_,λb o v A=>j b o v (by rw[f.M];exact A),f.os,f.tape,f.output⟩;have x:b≠r:=by
     rintro rfl;rcases c with c|⟨l',L',D,p2,p3⟩
     .exact(t.own b c).2 _ (bP y) (by simp)
     .exact p2 (by simp;exact t.eO l' l L' _ D y b p3 (by simp))
    rw[hk b x];exact f.fy b (c.imp id λ⟨l',L',D,_,p3⟩=>⟨L',bP D,p3⟩)
   refine⟨_,s2,_,Od E p z,⟨⟨σ,σ,a,q,st⟩,fg.seen (.two ?_ ?_)⟩,?_⟩
   .exact⟨rfl,.inr u⟩
   .exact⟨rfl,.inr u⟩
   refine rI ls {g with defers:=ds} s2 σ q n E (K.mono un N) λs' hu=>?_;exact k s' (un.cat hu)
end
def cA(n:Nat)(f g:Nat->List C):Prop:=∀i,i<n->f i=g i
def Flat.Ei{M:Mem}{k n:Nat}{es es':Nat->List C}{vs:List ah}(h:Flat M k n es vs)(a:cA n es es'):Flat M k n es' vs :=
 ⟨h.len,λi hi=>by rw[<-a i hi];exact h.width i hi,λi hi j c hj=>h.rd i hi j c (by rw[a i hi];exact hj)⟩
def Za:C->C->Option (List Prop)
 |.int k n,.int k' n'=>match Ia k k' with|true=>aa [n=n']|false=>af
 |.bool b,.bool b'=>aa [b=b']
 |.str s,.str s'=>aa [s=s']
 |.sl t k n es,.sl t' k' n' es'=>match aB k k' with
  |true=>match t,t' with
   |false,ab=>af
   |_,_=>aa [n=n',cA n es es']
  |false=>match t,t' with
   |true,_=>aa [n=0,n'=0]
   |_,_=>af
 |.val x,.val y=>aa [x=y]
 |x,y=>aa [x=y]
def Su{M:Mem}{v:ah}{x y:C}{ps:List Prop}(h:Za x y=aa ps)(c:az ps)(r:Rd M v x):Rd M v y:=by
 unfold Za at h;split at h
 .rename_i k n k' n';cases hk:Ia k k'<;>simp[hk]at h
  subst h;cases AJ hk;cases(show n=n' from c);exact r
 .cases h;rename_i b d;cases(show b=d from c);exact r
 .cases h;rename_i b d;cases(show b=d from c);exact r
 .rename_i t k n es t' k' n' es';cases hk:aB k k' with
  |true =>
   simp only[hk]at h;have e:=bX hk;subst e;cases t<;>cases t'<;>simp at h
   all_goals (subst h;obtain⟨rfl,f⟩:=(show n=n'/\cA n es es' from c);first|exact r.Ei f|exact r.loose.Ei f)
  |false =>
   simp only[hk]at h;cases t<;>simp at h
   subst h;obtain⟨rfl,rfl⟩:=(show n=0/\n'=0 from c)
   obtain⟨a,cap,vs,rfl,_,_,g,_⟩:=r.flat;grind[Rd.jY]
 .cases h;rename_i x y;cases(show x=y from c);exact r
 .cases h;cases c;exact r
def Vy:A->A->Option (List Prop)
 |.c x,.c y=>Za x y
 |.vec _ k n es,.c (.sl ae k' n' es')=>match aB k k' with|true=>aa [n=n',cA n es es']|false=>af
 |.vec l k n es,.vec l' k' n' es'=>match aB l l' with
  |true=>match aB k k' with|true=>aa [n=n',cA n es es']|false=>af
  |false=>af
 |.ptr l o,.ptr l' o'=>match aB l l' with|true=>(match aB o o' with|true=>aa []|false=>af)|false=>af
 |.ref l,.ref l'=>match aB l l' with|true=>aa []|false=>af
 |.bp l w,.bp l' w'=>match aB l l' with|true=>aa [w=w']|false=>af
 |_,.any=>aa []
 |_,_=>af
def KA{σ:List aR}{s:St}{v:ah}{x y:A}{ps:List Prop}(h:Vy x y=aa ps)(b:az ps)(r:gB σ s v x):gB σ s v y:=by
 unfold Vy at h;split at h
 .exact Su h b r
 .rename_i k n es k' n' es';cases hk:aB k k'<;>simp[hk]at h
  subst h;have e:=bX hk;subst e;obtain⟨rfl,d⟩:=(show n=n'/\cA n es es' from b)
  exact r.1.Ei d
 .rename_i l k n es l' k' n' es';cases a:aB l l'<;>simp[a]at h
  cases hk:aB k k'<;>simp[hk]at h
  subst h;have e:=bX hk;have c:=bX a;subst e c;obtain⟨rfl,d⟩:=(show n=n'/\cA n es es' from b)
  exact⟨r.1.Ei d,r.2.1,r.2.2⟩
 .grind [Nat.eq_of_beq_eq_true]
 .grind [Nat.eq_of_beq_eq_true]
 .rename_i l w l' w';cases a:aB l l'<;>simp[a]at h
  have c:=bX a;subst c;subst h;cases(show w=w' from b);exact r
 .exact gB.cell r
 grind
def la:List Prop->List Prop->List Prop
 |[],q=>q
 |p::r,q=>p::la r q
@[simp] theorem az.cat{p q:List Prop}:az (la p q)↔az p/\az q:=by
 induction p with
 |nil=>simp[la]
 |cons x r a=>simp only[la,az.cons,a,and_assoc]
def QU:List A->List A->Option (List Prop)
 |[],[]=>aa []
 |a::al,b::bs=>match Vy a b with
  |some p=>match QU al bs with
   |some q=>aa (la p q)
   |none=>af
  |none=>af
 |_,_=>af
def EM{σ:List aR}{s:St}:∀{vs:List ah}{xs ys:List A}{ps:List Prop},QU xs ys=aa ps->az ps->ei σ s vs xs->ei σ s vs ys
 |[],[],[],_,_,_,_=>trivial
 |_::_,[],_,_,_,_,h=>h.elim
 |[],_::_,_,_,_,_,h=>h.elim
 |[],[],_::_,_,h,_,_=>by simp[QU]at h
 |_::_,_::_,[],_,h,_,_=>by simp[QU]at h
 |v::vs,a::al,b::bs,ps,h,c,e=>by
  simp only[QU]at h;cases f:Vy a b with
  |none=>grind
  |some p =>
   cases d:QU al bs with
   |none=>grind
   |some q =>
    simp[f,d]at h;subst h;rw[az.cat]at c;exact⟨KA f c.1 e.1,EM d c.2 e.2⟩
def Vz:E1->E1->Option (List Prop)
 |.one a,.one b=>Vy a b
 |.agg al,.agg bs=>QU al bs
 |_,_=>af
def KB{σ:List aR}{s:St}{v:ah}{x y:E1}{ps:List Prop}(h:Vz x y=aa ps)(a:az ps)(r:nC σ s v x):nC σ s v y:=by
 cases x<;>cases y<;>simp only[Vz,reduceCtorEq]at h
 .exact KA h a r
 .obtain⟨vs,c,b⟩:=r;exact⟨vs,c,EM h a b⟩
def EO:List E1->List E1->Option (List Prop)
 |[],[]=>aa []
 |a::al,b::bs=>match Vz a b with
  |some p=>match EO al bs with
   |some q=>aa (la p q)
   |none=>af
  |none=>af
 |_,_=>af
def GO{σ:List aR}{s:St}:∀{vs:List ah}{xs ys:List E1}{ps:List Prop},EO xs ys=aa ps->az ps->hY σ s vs xs->hY σ s vs ys
 |[],[],[],_,_,_,_=>trivial
 |_::_,[],_,_,_,_,h=>h.elim
 |[],_::_,_,_,_,_,h=>h.elim
 |[],[],_::_,_,h,_,_=>by simp[EO]at h
 |_::_,_::_,[],_,h,_,_=>by simp[EO]at h
 |v::vs,a::al,b::bs,ps,h,c,e=>by
  simp only[EO]at h;cases f:Vz a b with
  |none=>grind
  |some p =>
   cases d:EO al bs with
   |none=>grind
   |some q =>
    simp[f,d]at h;subst h;rw[az.cat]at c;exact⟨KB f c.1 e.1,GO d c.2 e.2⟩
def Ee:D->D->Option (List Prop)
 |.e x,.e y=>Vz x y
 |.fa xs,.fa ys=>EO xs ys
 |_,.any=>aa []
 |_,_=>af
theorem oE{σ:List aR}{s:St}{v:ah}{x y:D}{ps:List Prop}(h:Ee x y=aa ps)(a:az ps)(r:dt σ s v x):dt σ s v y:=by
 cases x<;>cases y<;>simp only[Ee,reduceCtorEq]at h
 .exact KB h a r
 .trivial
 .obtain⟨vs,c,b⟩:=r;exact⟨vs,c,GO h a b⟩
 .trivial
 .trivial
def nV(φ:Fr):Fr->Option (List Prop)
 |[]=>aa []
 |(i,d)::r=>match Ee (look φ i) d with
  |some p=>match nV φ r with
   |some q=>aa (la p q)
   |none=>af
  |none=>af
def cD{φ:Fr}:∀{φ':Fr}{ps:List Prop},nV φ φ'=aa ps->az ps->oB φ φ'
 |[],_,_,_=>λ_ _ _ _ _=>trivial
 |(i,d)::r,ps,h,a=>by
  simp only[nV]at h;cases e:Ee (look φ i) d with
  |none=>grind
  |some p =>
   cases b:nV φ r with
   |none=>grind
   |some q =>
    simp[e,b]at h;subst h;rw[az.cat]at a;intro σ s v t c;simp only[look];cases f:aB i t with
    |true =>
     grind[Nat.eq_of_beq_eq_true,oE]
    |false=>exact cD b a.2 σ s v t c
def kJ(σ:List aR):Bool:=match cx σ with|true=>lM σ|false=>ae
def y3{σ:List aR}(h:kJ σ=ab):cx σ=ab/\lM σ=ab:=by unfold kJ at h;grind
def pe.CC{σ:List aR}{s:St}:∀{ds:List Deferred}{ls:List Nat},pe σ s ds ls->∀l∈ls,σ[l]?=aa .qY
 |[],[],_,l,hl=>by grind
 |[],_::_,r,_,_=>r.elim
 |_::_,[],r,_,_=>r.elim
 |d::ds,b::ls,⟨⟨h1,_⟩,_,a⟩,l,hl=>by
  rcases eB.1 hl with rfl|hl
  .exact h1
  .exact pe.CC a l hl
def cw(fn:Func)(a:Nat)(res:D)(σ':List aR):Post:=λe φ σ1 =>
 (e=.ret∨e=.normal)/\∃ks ds d ps,yy φ fn.results.toList=aa ds/\sG ds=aa d/\Ee d (iu ks res)=aa ps/\az ps/\wD ks.length res=ab /\
  j3 ks σ1=aa σ'/\kJ σ'=ab/\dH ks=ab/\(∀j,j<a->ks[j]?=aa j)
def rE(P:ar)(fn:Func)(a:Nat)(res:D)(σ':List aR):Post:=λe φ σ1 =>
 (e=.ret∨e=.normal)/\∃ks d ps,Am P fn φ d/\Ee d (iu ks res)=aa ps/\az ps/\wD ks.length res=ab /\
  j3 ks σ1=aa σ'/\kJ σ'=ab/\dH ks=ab/\(∀j,j<a->ks[j]?=aa j)
def cw.toJ{P:ar}{fn:Func}{a:Nat}{res:D}{σ':List aR}{e:Exit}{φ:Fr}{σ1:List aR}(h:cw fn a res σ' e φ σ1):rE P fn a res σ' e φ σ1:=by obtain⟨c,ks,ds,d,ps,h1,h2,b⟩:=h;exact⟨c,ks,d,ps,Am.of h1 h2,b⟩
def ef.EI{P:ar}{ι:Type}{X:Cx P}{f:aJ}{fn:Func}{c:Code}{args:List D}{σ:List aR}{σ':ι->List aR}{res:ι->D}(hf:P.funcs[f]?=aa fn)(K:(fn.name== "runtime.NumGoroutine")=ae)(m:fn.body=aa c)(W:args.length<=fn.ntmps)(h:∀s a,cu fn.ntmps σ s (ji 0 args) a->aF σ s->∀(b:aU) (k:List Item) (cs:List aU) (S:av->St->Prop),b.kind≠.early->b.roundOf=af ->
  (∀e φ' σ1 s' a',(∃j,rE P fn σ.length (res j) (σ' j) e φ' σ1)->cu fn.ntmps σ1 s' φ' a'->aF σ1 s'->cY σ s σ1 s'->ends X S b k cs e a' s')->fL X S (G (b.aT a (.code c::k)) cs) s):ef X f args σ res σ':=by
 refine⟨⟨fn,hf,K,by grind⟩,λs vs hr hh S cs hS=>?_⟩;obtain⟨hl,hg⟩:=cp.get hr;let b:aU:={fn:=f,tmps:=#[],todo:=[],defers:=[],mode:=.run,kind:=.normal,roundOf:=af}
 have z:Frame.enter P f vs.toArray .normal=b.aT {tmps:=vs.toArray++Array.replicate (fn.ntmps-vs.toArray.size) ai,defers:=[]} [.code c]:=by simp[Frame.enter,Frame.aT,hf,m,b]
 rw[z];refine h s {tmps:=vs.toArray++Array.replicate (fn.ntmps-vs.toArray.size) ai,defers:=[]} ⟨by grind,⟨[],ay⟩,λt=>?_⟩ hh b [] cs S (by simp[b]) rfl ?_
 .rw[oC];simp only[kD,cq,lU];have:=hg t;rcases cM t vs.length with tN|Ux
  .have e:(vs.toArray++Array.replicate (fn.ntmps-vs.toArray.size) ai).getD t ai=(vs[t]?).getD ai:=by simp only[dZ];grind
   grind
  .rw[sd (by omega)];trivial
 .rintro e φ' σ1 s1 a1 ⟨Q,V,ks,d,ps,h1,h3,h4,h5,O,U,h8,h9⟩ f' N st;obtain⟨h7,R⟩:=y3 U;have fin:∀(fr:aU) s2,cv s1 s2->fr.fn=f->fr.tmps=a1.tmps->fr.defers=a1.defers->fr.mode=.returning->fr.kind=.normal->fL X S (G fr cs) s2:=by
   intro fr s2 tI e1 e2 e3 e4 e5;have Z:=f'.rely tI N;have n:=N.rely tI;have g:=st.trans tI.stepW;obtain⟨v,r2,r1⟩:=h1 Z;obtain⟨i,r⟩:=wA (l':=s2.β) O n.len;have r4:=(oE h3 h4 r2).sub O r h5;obtain⟨c1,c2⟩:=iT O;obtain⟨d1,d2⟩:=iT r;have A:∀L∈i,L∈s2.β:=Al r;have E:aF (σ' Q) {s2 with β:=i}:=by obtain⟨C,_⟩:=n.sub O r h7 h8;refine⟨C.mem,C.len,λj B L hB hL=>?_,C.eO,C.lt,λb m=>⟨(n.own b m).1,λL hL=>(n.own b m).2 L (A L hL)⟩⟩;exact eE.plain (σ:=σ' Q) (s:={s2 with β:=i,own:=wF s2 i}) (s':={s2 with β:=i}) rfl rfl (k8 h7 B (bP hB)) (C.box j B L hB hL)
   have T:cY σ s (σ' Q) {s2 with β:=i}:=by refine⟨g.size,g.fy,g.mem,g.je,λL hL b m=>g.vK _ (A L hL) b m,λl B L hB hL=>?_,g.os,g.tape,g.output,g.own⟩;have hl:l<σ.length:=(b6.1 hB).1;obtain⟨B',L',p1,p2,p3⟩:=g.box l B L hB hL;grind
   obtain⟨ls,H⟩:=Z.defers;refine rI ls fr s2 _ n.lW (by simp) e4 (by rw[e3];exact H.taken n) λJ p=>?_;have q:cv {s2 with β:=i} {J with β:=i}:=by
    refine⟨rfl,p.M,p.own,p.size,λb m=>p.fy b (m.imp id ?_),p.mem,p.os,p.tape,p.output⟩;rintro⟨L,hL,m⟩;obtain⟨j,hj,rfl⟩:=dG hL;have F:j<ks.length:=by grind
    obtain⟨y,Y,y2⟩:=d2 j _ (br F);obtain⟨x,x1,x2⟩:=c2 j _ (br F);rw[br hj]at Y;cases Y;refine⟨_,_,y2,λhc=>?_,m⟩;rw[H.CC _ hc]at x2;cases x2;exact nQ R _ (bP x1) rfl
   have hG:eF J {J with β:=i}:=⟨rfl,λ_ _ _ h=>h,λ_ _ _=>rfl,λb o v hv=>p.mem b o v (by rw[<-p.M];exact hv),λb m=>m.imp id λ⟨L,hL,m⟩=>⟨L,by rw[p.β];grind,m⟩⟩
   refine .ghost hG (hS Q _ v _ ⟨e1,e4,rfl,e5,fn,by grind,λw hw=>?_⟩ (r4.mono q.stepW.ext E.len) (E.rely q) (T.trans q.stepW));show(results fn fr.tmps).run P w=_/\∀e∈(results fn fr.tmps).events P w #[],_;rw[e2];have I:∀b o u,s2.M b o=aa u->w.cell? ⟨b,o,af⟩=aa u:=λb o u h=>hw b o u (by show J.M b o=aa u;rw[p.M];exact h);refine⟨(r1 w I).1,λe V=>?_⟩;obtain⟨b,o,u,q1,q2⟩:=(r1 w I).2 e V;exact⟨b,o,u,q1,by show J.M b o=aa u;rw[p.M];exact q2⟩
  rcases V with rfl|rfl
  .intro pre;exact .ctl N rfl (λ_=>El rfl) λs2 tI=>fin _ s2 tI rfl rfl (iD _) rfl rfl
  .exact .ctl N rfl (λ_=>Em rfl) λs2 tI=>fin _ s2 tI rfl rfl (iD _) rfl rfl
def ef.QT{P:ar}{ι:Type}{X:Cx P}{f:aJ}{fn:Func}{c:Code}{args:List D}{σ:List aR}{σ':ι->List aR}{res:ι->D}(i:P.funcs[f]?=aa fn)(g:(fn.name== "runtime.NumGoroutine")=ae)(l:fn.body=aa c)(d:args.length<=fn.ntmps)(h:∀s a,cu fn.ntmps σ s (ji 0 args) a->aF σ s->∀(b:aU) (k:List Item) (cs:List aU) (S:av->St->Prop),b.kind≠.early->b.roundOf=af ->
  (∀e φ' σ1 s' a',(∃j,cw fn σ.length (res j) (σ' j) e φ' σ1)->cu fn.ntmps σ1 s' φ' a'->aF σ1 s'->cY σ s σ1 s'->ends X S b k cs e a' s')->fL X S (G (b.aT a (.code c::k)) cs) s):ef X f args σ res σ' :=
 ef.EI i g l d λs a f hh b k cs S h1 h2 hQ=>h s a f hh b k cs S h1 h2 λe φ' σ1 s' a' ⟨j,q⟩=>hQ e φ' σ1 s' a' ⟨j,q.toJ⟩
def ef.JS{P:ar}{ι:Type}{X:Cx P}{f:aJ}{fn:Func}{c:Code}{args:List D}{σ:List aR}{σ':ι->List aR}{res:ι->D}(l:P.funcs[f]?=aa fn)(g:(fn.name== "runtime.NumGoroutine")=ae)(m:fn.body=aa c)(d:args.length<=fn.ntmps)(h:AW X fn.ntmps c (λe φ σ1=>∃j,rE P fn σ.length (res j) (σ' j) e φ σ1) (ji 0 args) σ):ef X f args σ res σ' :=
 ef.EI l g m d λs a f hh b k cs S hk _ i=>h s a f hh b k cs S hk i
def ef.intro{P:ar}{ι:Type}{X:Cx P}{f:aJ}{fn:Func}{c:Code}{args:List D}{σ:List aR}{σ':ι->List aR}{res:ι->D}(l:P.funcs[f]?=aa fn)(g:(fn.name== "runtime.NumGoroutine")=ae)(m:fn.body=aa c)(d:args.length<=fn.ntmps)(h:AW X fn.ntmps c (λe φ σ1=>∃j,cw fn σ.length (res j) (σ' j) e φ σ1) (ji 0 args) σ):ef X f args σ res σ' :=
 ef.QT l g m d λs a f hh b k cs S hk _ i=>h s a f hh b k cs S hk i
def Ev.intro{P:ar}{X:Cx P}{f:aJ}{fn:Func}{c:Code}{args:List D}{σ σ':List aR}{res:D}(d:P.funcs[f]?=aa fn)(b:(fn.name== "runtime.NumGoroutine")=ae)(e:fn.body=aa c)(a:args.length<=fn.ntmps)(h:AW X fn.ntmps c (cw fn σ.length res σ') (ji 0 args) σ):Ev X f args σ res σ' :=
 (ef.intro d b e a (AW.mono h λ_ _ _ q=>⟨(),q⟩)).Cg
inductive It where
 |code (c:Code)
 |blk (id:Nat)
 |ops (all rest:List au)
def AK{P:ar}(X:Cx P)(N:Nat)(Qf:Post):List It->Post
 |[],e,φ,σ=>Qf e φ σ
 |.code c::K,.normal,φ,σ=>AW X N c (AK X N Qf K) φ σ
 |.code _::K,e,φ,σ=>AK X N Qf K e φ σ
 |.blk id::K,.exit Jx,φ,σ=>if Jx=id then AK X N Qf K .normal φ σ else AK X N Qf K (.exit Jx) φ σ
 |.blk _::K,e,φ,σ=>AK X N Qf K e φ σ
 |.ops all rest::K,.normal,φ,σ=>iw X N all rest (AK X N Qf K .normal) φ σ
 |.ops _ _::K,e,φ,σ=>AK X N Qf K e φ σ
section
variable {P:ar}{X:Cx P}{N:Nat}{Qf:Post}{K:List It}{φ:Fr}{σ:List aR}
def AK.of_code{c:Code}(h:AK X N Qf [.code c] .normal φ σ):AW X N c Qf φ σ:=h
theorem AK.skip(h:AK X N Qf K .normal φ σ):AK X N Qf (.code .skip::K) .normal φ σ:=AW.skip h
theorem AK.seq{x y:Code}(h:AK X N Qf (.code x::.code y::K) .normal φ σ):AK X N Qf (.code (.seq x y)::K) .normal φ σ:=by refine AW.seq (AW.mono h ?_);intro e φ' σ' q;cases e<;>exact q
theorem AK.block{id:Nat}{c:Code}(h:AK X N Qf (.code c::.blk id::K) .normal φ σ):AK X N Qf (.code (.block id c)::K) .normal φ σ:=by refine AW.block (AW.mono h ?_);intro e φ' σ' q;cases e<;>exact q
theorem AK.SH{id:Nat}(h:AK X N Qf K .normal φ σ):AK X N Qf (.blk id::K) .normal φ σ:=h
theorem AK.region{id:Nat}{ops:Array au}(h:AK X N Qf (.ops ops.toList ops.toList::K) .normal φ σ):AK X N Qf (.code (.region id ops ae)::K) .normal φ σ:=AW.region h
theorem AK.KU{all:List au}(h:AK X N Qf K .normal φ σ):AK X N Qf (.ops all []::K) .normal φ σ:=iw.nil h
def AK.sZ:∀{K:List It},Qf .ret φ σ->AK X N Qf K .ret φ σ
 |[],h=>h
 |.code _::K,h=>AK.sZ (K:=K) h
 |.blk _::K,h=>AK.sZ (K:=K) h
 |.ops _ _::K,h=>AK.sZ (K:=K) h
def AK.ret(h:Qf .ret φ σ):AK X N Qf (.code .ret::K) .normal φ σ:=AW.ret (AK.sZ h)
def j9(id:Nat):List It->Option (List It)
 |[]=>af
 |.blk i::K=>match aB id i with|true=>aa K|false=>j9 id K
 |_::K=>j9 id K
def AK.xd{id:Nat}:∀{K a:List It},j9 id K=aa a->AK X N Qf a .normal φ σ->AK X N Qf K (.exit id) φ σ
 |[],_,h,_=>by cases h
 |.blk i::K,a,h,q=>by
  simp only[j9]at h;cases b:aB id i with
  |true =>
   simp[b]at h;subst h;have e:=bX b;simp only[AK,e,cq];exact q
  |false =>
   simp[b]at h;have c:id≠i:=λe=>by grind[Nat.beq_refl]
   simp only[AK,c,ck];exact AK.xd h q
 |.code _::K,a,h,q=>AK.xd (K:=K) h q
 |.ops _ _::K,a,h,q=>AK.xd (K:=K) h q
theorem AK.exit{id:Nat}{a:List It}(hk:j9 id K=aa a)(h:AK X N Qf a .normal φ σ):AK X N Qf (.code (.exit id)::K) .normal φ σ:=AW.exit (AK.xd hk h)
theorem AK.cond{c:aq}{x y:Code}{b:Bool}{t:Nat}(f:c=.tmp t)(hl:look φ t=.e (.one (.c (.bool b))))(a:b=ab->AK X N Qf (.code x::K) .normal φ σ)(d:b=ae->AK X N Qf (.code y::K) .normal φ σ):AK X N Qf (.code (.cond c x y)::K) .normal φ σ:=AW.cond f hl a d
def AK.loop{S:Type}{c:Code}(I:S->Prop)(fr:S->Fr)(st:S->List aR)(b:S->Nat)(x:S)(f:I x)(a:oB φ (fr x))(d:st x=σ)(round:∀x,I x->AK X N (λe φ' σ'=>match e with
   |.normal=>∃y,I y/\b y<b x/\oB φ' (fr y)/\σ'=st y
   |e=>AK X N Qf K e φ' σ') [.code c] .normal (fr x) (st x)):AK X N Qf (.code (.loop c)::K) .normal φ σ:=by refine AW.loop I fr st b x f a d λy g=>AW.mono (round y g) ?_;intro e φ' σ' q;cases e<;>exact q
end
def dD{α a:Type}:List α->(List α->Option a)->Option a
 |[],k=>k []
 |x::r,k=>dD r λq=>k (x::q)
theorem dh{α b:Type}(l:List α)(k:List α->Option b):dD l k=k l:=by
 induction l generalizing k with
 |nil=>rfl
 |cons x r a=>simp[dD,a]
def Ay(φ:Fr)(all:List au)(j:Nat):Option (Option Bool) :=
 match dC j all with
 |some oj=>match oj.dst with
  |some d=>match look φ d with
   |.e (.one (.c (.bool ab)))=>aa (aa ab)
   |.e (.one (.c (.bool ae)))=>aa (aa ae)
   |.fa []=>aa af
   |_=>af
  |none=>af
 |none=>af
def qF{N:Nat}{φ:Fr}{all:List au}{j:Nat}{r:Option Bool}(h:Ay φ all j=aa r){σ:List aR}{s:St}{a:Act}(f:cu N σ s φ a):yielded all.toArray a.tmps j=r:=by
 unfold Ay at h;rw[fC]at h;unfold yielded;cases k:all[j]? with
 |none=>grind
 |some oj =>
  simp only[k]at h;simp only[iB,k,oq];cases m:oj.dst with
  |none=>grind
  |some d =>
   simp only[m]at h;simp only[oq];have c:=f.slot d;have key:∀v,a.tmps.getD d ai=v->v≠ai->a.tmps[d]?=aa v:=by intro v e o;simp only[dZ]at e;grind
   split at h
   .rename_i g;cases h;rw[g]at c;have b:=e9 c;generalize e:a.tmps.getD d ai=v at b;cases b;rw[key _ e (by simp[ai])]
   .rename_i g;cases h;rw[g]at c;have b:=e9 c;generalize e:a.tmps.getD d ai=v at b;cases b;rw[key _ e (by simp[ai])]
   .rename_i g;cases h;rw[g]at c;obtain⟨vs,l,n⟩:=c;have i:vs=[]:=by cases vs with
     |nil=>rfl
     |cons _ _=>exact n.elim
    subst i;simp only[dZ]at l;grind
   grind
def XJ(T:List (Nat×TI))(φ:Fr)(σ:List aR)(o:au):Option (D×List aR×List Prop) :=
 match o.op with
 |.move x|.assign x=>aa (bU φ x,σ,[])
 |.pick c a b=>match bU φ c with
  |.e (.one (.c (.bool ab)))=>aa (bU φ a,σ,[])
  |.e (.one (.c (.bool ae)))=>aa (bU φ b,σ,[])
  |_=>af
 |.binOp op _ x y _=>match bU φ x,bU φ y with
  |.e (.one (.c a)),.e (.one (.c b))=>match Oh op a b with
   |some (c,obs)=>aa (.e (.one (.c c)),σ,obs)
   |none=>af
  |_,_=>af
 |.unOp op _ x=>match bU φ x with
  |.e (.one (.c a))=>match XI op a with
   |some c=>aa (.e (.one (.c c)),σ,[])
   |none=>af
  |_=>af
 |.extract x j=>match bU φ x with
  |.fa xs=>match dC j xs with
   |some e=>aa (.e e,σ,[])
   |none=>af
  |_=>af
 |.alloc E=>match bG T E with
  |some i=>dD (σ++[.cells E (i.zero.map A.c)]) λσ'=>aa (.e (.one (.ptr σ.length 0)),σ',[])
  |none=>af
 |.box E x=>match kI (bU φ x)with
  |some cs=>dD (σ++[.cells E cs]) λσ'=>aa (.e (.one (.ptr σ.length 0)),σ',[])
  |none=>af
 |.load t x=>match bG T t with
  |some i=>match bU φ x with
   |.e (.one (.ptr l off))=>match dC l σ with
    |some (.cells _ cs)=>match lb i (fV off cs)with
     |some e=>aa (.e e,σ,[])
     |none=>af
    |_=>af
   |.e (.one (.c (.rp cs)))=>match lb i (cs.map A.c)with
    |some e=>aa (.e e,σ,[])
    |none=>af
   |_=>af
  |none=>af
 |.store t x y=>match bG T t with
  |some i=>match bU φ x with
   |.e (.one (.ptr l off))=>match dC l σ with
    |some (.cells E cs)=>match kI (bU φ y)with
     |some new=>match aB new.length i.size with
      |true=>match fH off new cs with
       |some nG=>dD (dW.qV l (.cells E nG) σ) λσ'=>aa (.any,σ',[])
       |none=>af
      |false=>af
     |none=>af
    |_=>af
   |_=>af
  |none=>af
 |.fieldAddr t x f=>match j5 T t f with
  |some (k,_)=>match bU φ x with
   |.e (.one (.ptr l off))=>aa (.e (.one (.ptr l (off+k))),σ,[])
   |.e (.one (.c (.rp cs)))=>aa (.e (.one (.c (.rp (fV k cs)))),σ,[])
   |_=>af
  |none=>af
 |.field t x f=>match j5 T t f with
  |some (k,j)=>match bU φ x with
   |.e (.agg cs)=>match lb j (fV k cs)with
    |some e=>aa (.e e,σ,[])
    |none=>af
   |_=>af
  |none=>af
 |.nilCheck x=>match bU φ x with
  |.e (.one (.ptr l off))=>aa (.e (.one (.ptr l off)),σ,[])
  |.e (.one (.c (.rp cs)))=>aa (.e (.one (.c (.rp cs))),σ,[])
  |_=>af
 |.build t parts=>match Aw T (bU φ) t parts.toList with
  |some cs=>aa (.e (.agg cs),σ,[])
  |none=>af
 |.buildSlice t n parts=>match Oi T (bU φ) t n parts.toList with
  |some (k,es)=>aa (.e (.one (.c (.sl ab k n λi=>es.getD i []))),σ,[])
  |none=>af
 |_=>af
theorem EC{P:ar}{T:List (Nat×TI)}(hT:cW P T){φ:Fr}{σ σ':List aR}{o:au}{x:D}{obs:List Prop}(h:XJ T φ σ o=aa (x,σ',obs))(m:az obs):bM P o (bU φ) σ x σ':=by
 unfold XJ at h;split at h
 .grind [bM.move]
 .grind [bM.assign]
 .rename_i c a b d;split at h
  .rename_i e;cases h;exact bM.pick d e
  .rename_i e;cases h;exact bM.pick d e
  grind
 .grind [bM.binOp]
 .grind [bM.unOp]
 .grind [bM.extract,b9]
 .grind [dh,bM.alloc]
 .grind [dh,bM.box]
 .rename_i t y d;split at h
  .grind [bM.GD,b9,bM.Ke]
  grind
 .rename_i t y z d;split at h
  .rename_i i hi;split at h
   .rename_i l off hx;split at h
    .grind [dh,jq,bM.store,b9,Nat.eq_of_beq_eq_true]
    grind
   grind
  grind
 .rename_i t y f d;split at h
  .rename_i k j g;split at h
   .rename_i l off hx;cases h;exact bM.sU hT d hx g
   .grind [bM.uQ]
   grind
  grind
 .grind [bM.field]
 .grind [bM.uR,bM.wZ]
 .grind [bM.build]
 .grind [bM.buildSlice]
 grind
def gg(N:Nat):Option Nat->Bool
 |some d=>bA (d+1) N
 |none=>ab
def gK{N:Nat}{d:Option Nat}(h:gg N d=ab):∀t,d=aa t->t<N:=by intro t a;subst a;exact db h
theorem dK{all:List au}{o:au}(h:o.guard=af){a:Act}:bg o (yielded all.toArray a.tmps)=ab:=by simp[bg,h]
section
variable {P:ar}{T:List (Nat×TI)}{o:au}{g:aq->D}{σ:List aR}
def rJ(g:aq->D):Option aq->Option (Option Int)
 |none=>aa af
 |some x=>match g x with
  |.e (.one (.c (.int _ j)))=>aa (aa j)
  |_=>af
def gE{s:St}{a:aq->ah}(d:∀y,dt σ s (a y) (g y)){x:Option aq}{b:Option Int}(h:rJ g x=aa b):(x.map a=af/\b=af)∨∃k j,x.map a=aa (.int k j)/\b=aa j:=by
 cases x with
 |none=>cases h;grind
 |some y =>
  right;simp only[rJ]at h;split at h
  .rename_i k j c;cases h;have:=d y;rw[c]at this;have:=e9 this;generalize e:a y=v at this;cases this;grind
  grind
def dj(d:Nat):Option Int->Nat
 |none=>d
 |some j=>j.toNat
def fY(n:Nat):Option Int->Option Int->List Prop
 |none,af=>[]
 |some l,af=>[0<=l,l<=n]
 |none,aa h=>[0<=h,h<=n]
 |some l,aa h=>[0<=l,l<=h,h<=n]
def md{isS:Bool}{n cap:Nat}(q:n<=cap){lo hi:Option ah}{l h:Option Int}(i:(lo=af/\l=af)∨∃k j,lo=aa (.int k j)/\l=aa j)(m:(hi=af/\h=af)∨∃k j,hi=aa (.int k j)/\h=aa j)(b:az (fY n l h))(w:aA):(bd isS n cap lo hi af).run P w=.ok (dj 0 l,dj n h,cap) w/\dj 0 l<=dj n h/\dj n h<=n:=by
 rcases i with⟨rfl,rfl⟩|⟨f,l,rfl,rfl⟩<;>rcases m with⟨rfl,rfl⟩|⟨d,h,rfl,rfl⟩
 .exact⟨by simp[bd,dj],by simp[dj],by simp[dj]⟩
 .obtain⟨a,c⟩:0<=h/\h<=(n:Int):=b;refine⟨?_,by simp[dj],by simp only[dj];omega⟩;simp[bd,dj,run_sliceBound (P:=P) w d h cap _ a (by omega)]
 .obtain⟨a,c⟩:0<=l/\l<=(n:Int):=b;refine⟨?_,by simp only[dj];omega,by simp[dj]⟩;simp[bd,dj,run_sliceBound (P:=P) w f l n _ a c]
 .obtain⟨a,c,p⟩:0<=l/\l<=h/\h<=(n:Int):=b;have e:((h.toNat:Nat):Int)=h:=se (by omega);refine⟨?_,by simp only[dj];omega,by simp only[dj];omega⟩;simp[bd,dj,run_sliceBound (P:=P) w d h cap _ (by omega) (by omega),run_sliceBound (P:=P) w f l h.toNat _ a (by omega)]
def dO(w:aA)(k:IntKind)(i:Int)(y:Nat)(code:BoundsCode)(b:0<=i)(a:i<=(y:Int))(es:Array Event):(Instr.sliceBound (.int k i) y code).events P w es=es:=by simp[Instr.sliceBound,asIntOf,b,a]
def nI{isS:Bool}{n cap:Nat}{lo hi:Option ah}{l h:Option Int}(s:n<=cap)(m:(lo=af/\l=af)∨∃k j,lo=aa (.int k j)/\l=aa j)(p:(hi=af/\h=af)∨∃k j,hi=aa (.int k j)/\h=aa j)(c:az (fY n l h))(w:aA)(es:Array Event):(bd isS n cap lo hi af).events P w es=es:=by
 have q:∀(isS:Bool) (v:Option ah) (d:Nat) (w:aA) (es:Array Event),v=af->(bd isS n cap af af af).events P w es=es:=λisS v d w es _=>by simp[bd]
 rcases m with⟨rfl,rfl⟩|⟨i,l,rfl,rfl⟩<;>rcases p with⟨rfl,rfl⟩|⟨b,h,rfl,rfl⟩
 .simp[bd]
 .obtain⟨a,f⟩:0<=h/\h<=(n:Int):=c;simp[bd,dO (P:=P) w b h cap _ a (by omega)]
 .obtain⟨a,f⟩:0<=l/\l<=(n:Int):=c;simp[bd,dO (P:=P) w i l n _ a f]
 .obtain⟨a,f,r⟩:0<=l/\l<=h/\h<=(n:Int):=c;have e:((h.toNat:Nat):Int)=h:=se (by omega);simp[bd,run_sliceBound (P:=P) w b h cap _ (by omega) (by omega),dO (P:=P) w b h cap _ (by omega) (by omega),dO (P:=P) w i l h.toNat _ a (by omega)]
def sS(s:List UInt8):Option Int->Option Int->List UInt8
 |none,af=>s
 |some l,af=>s.drop l.toNat
 |none,aa h=>s.take h.toNat
 |some l,aa h=>(s.take h.toNat).drop l.toNat
theorem bM.Kb(hT:cW P T){t:aj}{x:aq}{lo hi:Option aq}(h:o.op=.slice t x lo hi af){i:TI}(k:bG T t=aa i)(z:i.desc=.string){s:List UInt8}{l u:Option Int}(v:g x=.e (.one (.c (.str s))))(hl:rJ g lo=aa l)(q:rJ g hi=aa u)(A:az (fY s.length l u)):bM P o g σ (.e (.one (.c (.str (sS s l u))))) σ:=by
 refine .quiet λst ρ hh hr=>?_;have h1:=hr x;rw[v]at h1;replace h1:=e9 h1;generalize j:ρ x=vx at h1;cases h1 with
 |@str sb _ r p =>
 have b:sb.size=s.length:=by rw[<-r];exact jA.symm
 obtain⟨y,d,f⟩:=md (P:=P) (isS:=ae) (n:=sb.size) (cap:=sb.size) (bc _) (gE hr hl) (gE hr q) (by grind) st.w;have a:=(hT t i k).run_underlying (w:=st.w);rw[z]at a;have m:=nI (P:=P) (isS:=ae) (n:=sb.size) (cap:=sb.size) (bc _) (gE hr hl) (gE hr q) (by grind) st.w;refine⟨.string (sb.extract (dj 0 l) (dj sb.size u)),?_,Rd.str ?_ ?_,by simp[aw,h,j,Instr.sliceAt,a,Instr.slice,m]⟩
 .simp[aw,h,j,Instr.sliceAt,a,Instr.slice,y]
 .rw[Lib.extract_data,r,b];rw[b]at d f;cases l<;>cases u<;>simp only[sS,dj]at d f⊢
  .simp
  .simp
  .grind [List.take_of_length_le]
  .rw[List.drop_take]
 .cases l<;>cases u<;>simp only[sS,si,List.length_take]<;>omega
def mf(l:Nat)(f:Nat->List C):Nat->List C:=λi=>f (l+i)
def R3(tt:Bool):Option Int->Bool
 |none=>tt
 |some _=>ae
theorem bM.Ou(hT:cW P T){t:aj}{x:aq}{lo hi:Option aq}(h:o.op=.slice t x lo hi af){i p:TI}{E:aj}(r:bG T t=aa i)(J:i.desc=.slice E)(G:bG T E=aa p){tt:Bool}{n:Nat}{es:Nat->List C}{l u:Option Int}(H:∀s v,dt σ s v (g x)->Rd s.M v (.sl tt p.size n es))(hl:rJ g lo=aa l)(B:rJ g hi=aa u)(A:az (fY n l u)):
  bM P o g σ (.e (.one (.c (.sl (R3 tt u) p.size (dj n u-dj 0 l) (mf (dj 0 l) es))))) σ:=by
 refine .quiet λst ρ hh hr=>?_;have h1:=H st _ (hr x);obtain⟨a,cap,vs,q,k,K,I,N,O⟩:=h1.flat;rw[q]at h1;obtain⟨z,F,L⟩:=md (P:=P) (isS:=ab) k (gE hr hl) (gE hr B) A st.w;have d:=(hT t i r).run_underlying (w:=st.w);rw[J]at d;refine⟨.slice (if cap=dj 0 l then a else a.map (·.add (dj 0 l*p.size))) (dj n u-dj 0 l) (cap-dj 0 l),?_,?_,by simp[aw,h,q,Instr.sliceAt,d,Instr.slice,z,nI (P:=P) (isS:=ab) k (gE hr hl) (gE hr B) A st.w]⟩
 .simp[aw,h,q,Instr.sliceAt,d,Instr.slice,z,(hT E p G).run_sizeOf]
 .cases h1 with
  |sl b off f _ _ _ hk ha hm' NG =>
   refine Rd.sl b (off+dj 0 l*p.size) (λi j=>f (dj 0 l+i) j) (by omega) (by omega) ?_ (λi hi=>hk _ (by omega)) (λy=>?_) (λi hi j c hj=>?_) (λi hi j c hj=>NG _ (by omega) j c hj)
   .intro m;cases u with
    |none=>simp only[R3]at m;have:=I m;simp only[dj];omega
    |some u=>cases m
   .rw[aY (by omega),ha (by omega)];simp[du]
   .have:=hm' (dj 0 l+i) (by omega) j c hj;grind
def bM.Oq(hT:cW P T){b dst:aj}{x:aq}(h:o.op=.convert b dst x){i i2:TI}{k k':IntKind}{j:Int}(hi:bG T b=aa i)(l:bG T dst=aa i2)(p:i2.desc=.int k')(n:g x=.e (.one (.c (.int k j))))(m:bD k' j):
  bM P o g σ (.e (.one (.c (.int k' j)))) σ:=by refine .quiet λst ρ hh hr=>?_;have h1:=hr x;rw[n]at h1;replace h1:=e9 h1;generalize d:ρ x=vx at h1;cases h1;have f:=(hT b i hi).run_underlying (w:=st.w);have a:=(hT dst i2 l).run_underlying (w:=st.w);rw[p]at a;exact⟨.int k' j,by simp[aw,h,d,convert,f,a,Conv.intToInt,mQ m],Rd.int m,by simp[aw,h,d,convert,f,a,Conv.intToInt]⟩
theorem bM.Ot(hT:cW P T){b dst:aj}{x:aq}(h:o.op=.convert b dst x){i i2:TI}{s:List UInt8}(hi:bG T b=aa i)(k:bG T dst=aa i2)(m:i2.desc=.string)(l:g x=.e (.one (.c (.str s)))):
  bM P o g σ (.e (.one (.c (.str s)))) σ:=by refine .quiet λst ρ hh hr=>?_;have h1:=hr x;rw[l]at h1;have d:=e9 h1;generalize f:ρ x=vx at d;cases d;have j:=(hT b i hi).run_underlying (w:=st.w);have a:=(hT dst i2 k).run_underlying (w:=st.w);rw[m]at a;exact⟨_,by simp[aw,h,f,convert,j,a];rfl,by grind,by simp[aw,h,f,convert,j,a]⟩
def wV(f:Nat->List C):Nat->Nat->Option (List UInt8)
 |_,0=>aa []
 |i,n+1=>match f i with
  |[.int .u8 v]=>match wV f (i+1) n with
   |some r=>aa (UInt8.ofNat v.toNat::r)
   |none=>af
  |_=>af
def y9{M:Mem}{f:Nat->List C}:∀{n i:Nat}{r:List UInt8}{vs:List ah},wV f i n=aa r->vs.length=n->(∀j,j<n->∀c,(f (i+j))[0]?=aa c->∃v,vs[j]?=aa v/\Rd M v c) ->
  ∃xs:List Int,vs=xs.map (Value.int .u8)/\r=xs.map (λx=>UInt8.ofNat x.toNat)
 |0,i,r,vs,h,b,_=>by cases h;exact⟨[],by grind,rfl⟩
 |n+1,i,r,[],h,b,_=>by grind
 |n+1,i,r,v::vs,h,b,a=>by
  simp only[wV]at h;split at h
  .rename_i x m;split at h
   .rename_i q e;cases h;obtain⟨u,d,k⟩:=a 0 (by omega) (.int .u8 x) (by grind)
    simp at d;subst d;cases k;obtain⟨xs,t,p⟩:=y9 (vs:=vs) e (by grind) (λj l c s=>by
     have:=a (j+1) (by omega) c (by grind)
     simpa using this)
    exact⟨x::xs,by grind,by grind⟩
   grind
  grind
def oZ{P:ar}(w:aA){F:ah->ByteArray->Sem (ForInStep ByteArray)}(a:∀x s,F (.int .u8 x) s=pure (.yield (s.push (UInt8.ofNat x.toNat)))):∀(xs:List Int)(s:ByteArray),
  (forIn (m:=Sem) (xs.map (Value.int .u8)) s F).run P w=.ok ⟨s.data++(xs.map λx=>UInt8.ofNat x.toNat).toArray⟩ w
 |[],s=>by simp
 |x::xs,s=>by simp only[qu,List.forIn_cons,a,bT,dx,b5];rw[oZ w a xs];congr 2;apply Array.ext';simp[ByteArray.push]
end
def KP(P:ar):List TypeDesc->List Field->Nat->Prop
 |[],[],_=>True
 |d::ds,f::fs,i=>f.name≠ "_"/\f.offset=i/\P.underlying f.type=aa d/\(match d with|.int _|.string|.bool=>True|_=>False)/\KP P ds fs (i+1)
 |_,_,_=>False
def VD(d:Nat)(xs ys:Array ah)(f:Field)(_:Option Bool×Unit):Sem (ForInStep (Option Bool×Unit)) :=
 if f.name= "_" then pure (ForInStep.yield (af,()))
 else do
  let a<-part f.type xs f.offset;let b<-part f.type ys f.offset;let r<-aZ d f.type a b
  if r=ae then pure (ForInStep.done (aa ae,()))else pure (ForInStep.yield (af,()))
def tb{P:ar}(w:aA)(d:Nat)(xs ys:Array ah):∀{ds:List TypeDesc}{fs:List Field}{i:Nat}{vs ws:List ah}{b:Bool},KP P ds fs i->kh ds vs ws=aa b->(∀j v,vs[j]?=aa v->xs[i+j]?=aa v)->(∀j v,ws[j]?=aa v->ys[i+j]?=aa v) ->
  (Op.eqFields (d+1) xs ys fs).run P w=.ok b w/\∀es,(forIn fs (af,()) (VD (d+1) xs ys)).events P w es=es
 |[],[],i,[],[],b,_,h,_,_=>by cases h;simp[Op.eqFields]
 |[],[],i,_::_,_,b,_,h,_,_=>by cases h
 |[],[],i,[],_::_,b,_,h,_,_=>by cases h
 |[],_::_,i,_,_,b,r,_,_,_=>r.elim
 |_::_,[],i,_,_,b,r,_,_,_=>r.elim
 |t::ds,f::fs,i,[],_,b,_,h,_,_=>by cases h
 |t::ds,f::fs,i,_::_,[],b,_,h,_,_=>by cases h
 |t::ds,f::fs,i,v::vs,u::us,b,⟨F,C,s,J,I⟩,h,B,G=>by
  simp only[kh]at h;cases n:rN t v u with
  |none=>grind
  |some a =>
   cases A:kh ds vs us with
   |none=>grind
   |some b' =>
    simp[n,A]at h;subst h;obtain⟨K,x⟩:=tb w d xs ys I A (λj v H=>by have:=B (j+1) v (by grind);grind) (λj v H=>by have:=G (j+1) v (by grind);grind);have c:xs[i]?=aa v:=by simpa using B 0 v rfl
    have k:ys[i]?=aa u:=by simpa using G 0 u rfl
    have l:(isAgg f.type).run P w=.ok ae w:=by unfold isAgg underlying;cases t<;>simp at J<;>simp[s]
    have p:∀(e:Array ah) (z:ah),e[i]?=aa z->(part f.type e f.offset).run P w=.ok z w:=by intro e z y;unfold part;simp[l,C,y]
    have m:∀(e:Array ah) (z:ah),e[i]?=aa z->∀es,(part f.type e f.offset).events P w es=es:=by intro e z y es;unfold part;simp[l,C,y]
    have q:∀es,(aZ (d+1) f.type v u).events P w es=es:=by
     intro es;unfold rN at n;split at n<;>first
      |(cases n;done)
      |(unfold aZ;simp[underlying,s];done)
      |(unfold aZ;simp[underlying,s];split<;>rfl)
    have E:(aZ (d+1) f.type v u).run P w=.ok a w:=by unfold rN at n;grind[run_equalIn_int,run_equalIn_string,run_equalIn_bool]
    refine⟨?_,λes=>?_⟩
    .rw[Op.eqFields.eq_2,bl F];simp only[bT,p xs v c,p ys u k,E,b5];cases a
     .simp
     grind
    .rw[List.forIn_cons];simp only[VD,F,ck,aM,bT,p xs v c,p ys u k,E,b5,aP,m xs v c,m ys u k,q];cases a
     .simp
     .simpa using x es
def ll{P:ar}{t:aj}{fs:List Field}{ds:List TypeDesc}(d:P.underlying t=aa (.struct fs.toArray))(c:P.stoodInHeld t=ae)(k:P.eqGuardType P.depth t=ae)(f:KP P ds fs 0):
  P.eqGuardType P.depth t=ae/\∀(w:aA) (vs ws:List ah) (b:Bool),kh ds vs ws=aa b->(Op.equal t (.agg vs.toArray) (.agg ws.toArray)).run P w=.ok b w/\∀es,(Op.equal t (.agg vs.toArray) (.agg ws.toArray)).events P w es=es:=by
 refine⟨k,λw vs ws b h=>?_⟩;have i:P.fieldsOf t=fs.toArray:=by unfold Program.fieldsOf;rw[d]
 have key:=tb w 9998 vs.toArray ws.toArray f h (λj v e=>by grind) (λj v e=>by grind);refine⟨?_,λes=>?_⟩
 rotate_left
 .show (aZ (9999+1) t _ _).events P w es=es;have l:=key.2 es;unfold aZ;simp[underlying,d,c];show Result.evThen ((forIn fs (af,()) (VD 9999 vs.toArray ws.toArray)).run P w) ((forIn fs (af,()) (VD (9998+1) vs.toArray ws.toArray)).events P w es) _=es;rw[l];cases(forIn fs (af,()) (VD 9999 vs.toArray ws.toArray)).run P w with
  |ok a w'=>obtain⟨o,_⟩:=a;cases o<;>rfl
  |halt x w'=>rfl
 show(aZ (9999+1) t _ _).run P w=_;grind[run_equalIn_agg]
def QG:List TypeDesc->List A->List A->Option Bool
 |[],[],[]=>aa ab
 |.int _::ds,.c (.int k a)::cs,.c (.int k' b)::es=>match Ia k k' with
  |true=>match QG ds cs es with
   |some r=>aa ((a==b)&&r)
   |none=>af
  |false=>af
 |.string::ds,.c (.str a)::cs,.c (.str b)::es=>match QG ds cs es with
  |some r=>aa ((a==b)&&r)
  |none=>af
 |.bool::ds,.c (.bool a)::cs,.c (.bool b)::es=>match QG ds cs es with
  |some r=>aa ((a==b)&&r)
  |none=>af
 |_,_,_=>af
def EU{σ:List aR}{s:St}:∀{ds:List TypeDesc}{cs es:List A}{b:Bool}{vs ws:List ah},QG ds cs es=aa b->ei σ s vs cs->ei σ s ws es->kh ds vs ws=aa b:=by
 intro ds;induction ds with
 |nil =>
  intro cs es b vs ws h c e;cases cs<;>cases es<;>simp only[QG,reduceCtorEq]at h
  cases vs<;>cases ws<;>first|exact c.elim|exact e.elim|(simpa[kh]using h)
 |cons d ds ih =>
  intro cs es b vs ws h c e;unfold QG at h;split at h
  .grind
  .rename_i m j k a i k' b' es' heq;cases heq;split at h
   .rename_i hk;cases AJ hk;split at h
    .rename_i r f;cases h;cases vs with
     |nil=>exact c.elim
     |cons v vs=>cases ws with
      |nil=>exact e.elim
      |cons w ws =>
       obtain⟨v1,l⟩:=c;obtain⟨w1,w2⟩:=e;cases(show Rd s.M v (.int k a)from v1);cases(show Rd s.M w (.int k b')from w1);simp[kh,rN,ih f l w2]
    grind
   grind
  .rename_i j a i b' es' heq;cases heq;split at h
   .rename_i r f;cases h;cases vs with
    |nil=>exact c.elim
    |cons v vs=>cases ws with
     |nil=>exact e.elim
     |cons w ws =>
      obtain⟨v1,l⟩:=c;obtain⟨w1,w2⟩:=e;cases(show Rd s.M v (.str a)from v1)with
      |str hx _ =>
      cases(show Rd s.M w (.str b')from w1)with
      |str hy _ =>
      simp only[kh,rN,ih f l w2];grind[ByteArray.toList_eq]
   grind
  .rename_i j a i b' es' heq;cases heq;split at h
   .rename_i r f;cases h;cases vs with
    |nil=>exact c.elim
    |cons v vs=>cases ws with
     |nil=>exact e.elim
     |cons w ws =>
      obtain⟨v1,l⟩:=c;obtain⟨w1,w2⟩:=e;cases(show Rd s.M v (.bool a)from v1);cases(show Rd s.M w (.bool b')from w1);simp[kh,rN,ih f l w2]
   grind
  grind
section
variable {P:ar}{T:List (Nat×TI)}{o:au}{g:aq->D}{σ:List aR}
def jm:BinOp->Bool->Option Bool
 |.eql,b=>aa b
 |.neq,b=>aa (!b)
 |_,_=>af
def uV{op:BinOp}{t:aj}{x y:ah}{w:aA}{b c:Bool}(a:match x,y with|.agg _,.agg _=>True|.bool _,.bool _=>True|_,_=>False)(d:(Op.equal t x y).run P w=.ok b w)(h:jm op b=aa c):
  (binOp op t x y).run P w=.ok (.bool c) w:=by
 cases op<;>simp only[jm,reduceCtorEq,dw]at h
 .subst h;cases x<;>cases y<;>simp only at a<;>simp[binOp,d]
 .subst h;cases x<;>cases y<;>simp only at a<;>simp[binOp,d]
def pQ{op:BinOp}{t:aj}{x y:ah}{w:aA}{b c:Bool}(d:match x,y with|.agg _,.agg _=>True|.bool _,.bool _=>True|_,_=>False)(e:(Op.equal t x y).run P w=.ok b w)(a:∀es,(Op.equal t x y).events P w es=es)(h:jm op b=aa c)(es:Array Event):
  (binOp op t x y).events P w es=es:=by cases op<;>simp only[jm,reduceCtorEq,dw]at h<;>(cases x<;>cases y<;>simp only at d<;>simp[binOp,a])
def xo(op:BinOp)(t:aj)(x y:aq)(xs ys:Array ah)(w:aA)(a:P.eqGuardType P.depth t=ae)(es:Array Event):(eqGuard op t x y (.agg xs) (.agg ys)).events P w es=es:=by cases op<;>simp[eqGuard,a]
theorem bM.structEq(hT:cW P T){op:BinOp}{t ty:aj}{x y:aq}(h:o.op=.binOp op t x y ty){i:TI}(hi:bG T t=aa i)(l:i.eq≠[]){cs es:List A}{b c:Bool}(u:g x=.e (.agg cs))(v:g y=.e (.agg es))(n:QG i.eq cs es=aa b)(r:jm op b=aa c):bM P o g σ (.e (.one (.c (.bool c)))) σ:=by refine .quiet λs z hh hr=>?_;have h1:=hr x;have h2:=hr y;rw[u]at h1;rw[v]at h2;obtain⟨vs,p,f⟩:=h1;obtain⟨k,q,d⟩:=h2;obtain⟨m,heq⟩:=(hT t i hi).eqs l;have a:=uV (x:=.agg vs.toArray) (y:=.agg k.toArray) ay (heq s.w vs k b (EU n f d)).1 r;have j:=pQ (x:=.agg vs.toArray) (y:=.agg k.toArray) ay (heq s.w vs k b (EU n f d)).1 (heq s.w vs k b (EU n f d)).2 r;refine⟨.bool c,?_,Rd.bool,by simp only[aw,h,p,q,aM,run_eqGuard_agg s.w op t x y _ _ m,xo op t x y _ _ s.w m,aP,bT,b5,a,j,Sem.events_pure]⟩;simp only[aw,h,p,q,bT,run_eqGuard_agg s.w op t x y _ _ m,b5,a,dx]
theorem bM.R8(hT:cW P T){op:BinOp}{t ty:aj}{x y:aq}(h:o.op=.binOp op t x y ty){i:TI}(hi:bG T t=aa i)(r:i.desc=.bool){a b c:Bool}(q:g x=.e (.one (.c (.bool a))))(u:g y=.e (.one (.c (.bool b))))(p:jm op (a==b)=aa c):bM P o g σ (.e (.one (.c (.bool c)))) σ:=by
 refine .quiet λs n hh hr=>?_;have h1:=hr x;have h2:=hr y;rw[q]at h1;rw[u]at h2;replace h1:=e9 h1;replace h2:=e9 h2;generalize k:n x=vx at h1;generalize j:n y=vy at h2;cases h1;cases h2;have m:P.underlying t=aa .bool:=by rw[(hT t i hi).Ut,r]
 have d:=uV (P:=P) (w:=s.w) (x:=.bool a) (y:=.bool b) ay (run_equal_bool s.w t a b m) p;have l:∀es,(Op.equal t (.bool a) (.bool b)).events P s.w es=es:=λes=>by show(aZ (9999+1) t _ _).events P s.w es=es;unfold aZ;simp[underlying,m]
 have f:=pQ (P:=P) (w:=s.w) (x:=.bool a) (y:=.bool b) ay (run_equal_bool s.w t a b m) l p;refine⟨.bool c,?_,Rd.bool,by simp only[aw,h,k,j,aM,eqGuard_at_bool,Sem.events_pure,dx,aP,bT,b5,d,f]⟩;simp only[aw,h,k,j,bT,eqGuard_at_bool,dx,b5,d]
def bM.Vh{t ty:aj}{x y:aq}(h:o.op=.binOp .xor t x y ty){a b:Int}(n:g x=.e (.one (.c (.int .i64 a))))(q:g y=.e (.one (.c (.int .i64 b))))(r:0<=a)(h1:0<=b):
  bM P o g σ (.e (.one (.c (.int .i64 ((a.toNat ^^^ b.toNat:Nat):Int))))) σ:=by
 refine .quiet λs m hh hr=>?_;have e1:=hr x;have e2:=hr y;rw[n]at e1;rw[q]at e2;replace e1:=e9 e1;replace e2:=e9 e2;generalize i:m x=vx at e1;generalize f:m y=vy at e2;cases e1 with|int ha =>
 cases e2 with|int hb =>
 have p:a.toNat ^^^ b.toNat<2 ^ 63:=by apply Nat.xor_lt_two_pow<;>simp only[bD]at ha hb<;>omega
 have k:bD .i64 ((a.toNat ^^^ b.toNat:Nat):Int):=by simp only[bD];omega
 refine⟨.int .i64 ((a.toNat ^^^ b.toNat:Nat):Int),?_,.int k,?_⟩
 rotate_left
 .simp only[aw,h,i,f,aM,gY,jZ,aP,Go.binOp,dy,ft,ck,Op.intBits,bT,b5,dx,Sem.events_pure]
 have d:((BitVec.ofInt 64 a) ^^^ (BitVec.ofInt 64 b)).toNat=a.toNat ^^^ b.toNat:=by rw[BitVec.toNat_xor,BitVec.toNat_ofInt,BitVec.toNat_ofInt];simp only[bD]at ha hb;congr 1<;>omega
 have j:(BitVec.ofInt IntKind.i64.bits a ^^^ BitVec.ofInt IntKind.i64.bits b).toNat=a.toNat ^^^ b.toNat:=d;have l:(Go.binOp .xor t (.int .i64 a) (.int .i64 b)).run P s.w=.ok (.int .i64 ((a.toNat ^^^ b.toNat:Nat):Int)) s.w:=by simp only[Go.binOp,dy,ft,ck,Op.intBits,dx];grind[mQ]
 simp only[aw,h,i,f,bT,gY,b5,l,dx]
def bM.HV(hT:cW P T){f dst:aj}{x:aq}(h:o.op=.convert f dst x){i i2 ie:TI}{E:aj}(hi:bG T f=aa i)(F:bG T dst=aa i2)(R:i.desc=.slice E)(z:i2.desc=.string)(N:bG T E=aa ie)(G:ie.desc=.int .u8){tt:Bool}{n:Nat}{es:Nat->List C}{r:List UInt8}(Q:∀s v,dt σ s v (g x)->Rd s.M v (.sl tt 1 n es))(O:wV es 0 n=aa r):bM P o g σ (.e (.one (.c (.str r)))) σ:=by
 refine .oz λs V hh hr=>?_;have h1:=Q s _ (hr x);obtain⟨vs,L,b⟩:=ek (P:=P) hh h1;obtain⟨a,cap,U,q,K,S,_⟩:=h1.flat;have J:n<=9223372036854775807:=by omega
 have B:vs.length=n:=by rw[L.len];omega
 obtain⟨xs,e1,e2⟩:=y9 (M:=s.M) (vs:=vs) O B (λj hj c X=>by
  obtain⟨v,W,p2⟩:=L.rd j hj 0 c (by grind)
  grind)
 have I:=(hT f i hi).run_underlying (w:=s.w);have k:=(hT dst i2 F).run_underlying (w:=s.w);have m:=(hT E ie N).run_underlying (w:=s.w);rw[R]at I;rw[z]at k;rw[G]at m;have H:r.length<=9223372036854775807:=by grind
 have l:∃y:ByteArray,(Conv.bytesToString (.slice a n cap)).run P s.w=.ok (.string y) s.w/\y.data.toList=r:=by
  cases a with
  |none =>
   have p:r=[]:=by
    have:vs=[]:=by rw[q]at b;have h2:=b.1;simp[Builtin.firstCells]at h2;grind
    grind
   exact⟨ByteArray.empty,by simp[Conv.bytesToString],by rw[p];rfl⟩
  |some ad =>
   rw[q]at b;have h2:=b.1;simp only[Builtin.firstCells,Nat.mul_one]at h2;refine⟨⟨#[]++(xs.map λx=>UInt8.ofNat x.toNat).toArray⟩,?_,by grind⟩;simp only[Conv.bytesToString,bT,h2,b5,e1];rw[List.forIn_toArray,oZ (P:=P) s.w (λ_ _=>rfl) xs ByteArray.empty];rfl
 obtain⟨y,t,A⟩:=l;refine⟨.string y,?_,Rd.str A H,?_⟩
 rotate_left
 .intro e d;simp only[aw,h,q,aM,convert,I,k,aP,b5,m,t,bT,events_underlying,Sem.events_pure]at d;cases a with
  |none=>simp[Conv.bytesToString]at d
  |some ad =>
   have u:=ia (P:=P) hh (h1.Ei (λ_ _=>rfl)) (w:=s.w) rfl;rw[q]at b u;have h2:=b.1;simp only[Builtin.firstCells,Nat.mul_one]at h2 u;unfold Conv.bytesToString at d;simp only at d;rw[aM,h2,aP,di.bind (P:=P) ?_ λ_=>.pure]at d
   .grind [tM]
   .rw[List.forIn_toArray];refine di.J6 (λx s=>?_) _ _;split
    .exact .pure
    .exact .bind .stuck λ_=>.pure
 simp only[aw,h,q,bT,convert,I,k,b5,m,t,dx]
end
def wW(g:aq->D):List aq->Option (List C)
 |[]=>aa []
 |x::r=>match g x with
  |.e (.one (.c c))=>match wW g r with
   |some q=>aa (c::q)
   |none=>af
  |_=>af
def xp{σ:List aR}{s:St}{a:aq->ah}{g:aq->D}(d:∀y,dt σ s (a y) (g y)):∀{xs:List aq}{cs:List C},wW g xs=aa cs->xs.length=cs.length/\∀(j:Nat)(c:C),cs[j]?=aa c->∃v,(xs.map a)[j]?=aa v/\Rd s.M v c
 |[],cs,h=>by cases h;grind
 |x::r,cs,h=>by
  simp only[wW]at h;split at h
  .rename_i c e;split at h
   .rename_i q f;cases h;obtain⟨k,l⟩:=xp d f;refine⟨by grind,λj i b=>?_⟩;cases j with
    |zero =>
     simp at b;subst b;have:=d x;rw[e]at this;exact⟨a x,by simp,e9 this⟩
    |succ j=>grind
   grind
  grind
section
variable {P:ar}{T:List (Nat×TI)}{o:au}{g:aq->D}{σ:List aR}
theorem bM.makeFunc{fn:Fn}{a b:Array aq}(h:o.op=.makeFunc fn a b){i f:List C}(l:wW g a.toList=aa i)(n:wW g b.toList=aa f):bM P o g σ (.e (.one (.c (.fn fn i f)))) σ:=by
 refine .quiet λs d hh hr=>?_;obtain⟨a1,a2⟩:=xp hr l;obtain⟨p,q⟩:=xp hr n;have m:a.map d=(a.toList.map d).toArray:=by grind
 have k:b.map d=(b.toList.map d).toArray:=by grind
 refine⟨.func fn (a.toList.map d).toArray (b.toList.map d).toArray,?_,?_,by simp only[aw,h,Instr.makeFunc];rfl⟩
 .simp only[aw,h,Instr.makeFunc,m,k];rfl
 .refine Rd.fn _ _ (by grind) (by grind) (λj=>((a.toList.map d)[j]?).getD ai) (λj=>((b.toList.map d)[j]?).getD ai) ?_ ?_ ?_ ?_
  .grind
  .grind
  .grind
  grind
def pG:TypeDesc->Bool
 |.interface _=>ab
 |_=>ae
def vT(t:aj):D->Option C
 |.e (.one (.c c))=>aa (.ifs t c)
 |.e (.agg cs)=>match gM cs with
  |some q=>aa (.Gw t q)
  |none=>af
 |_=>af
def EV{s:St}{v:ah}{t:aj}{d:D}{c:C}(h:vT t d=aa c)(r:dt σ s v d):Rd s.M (.iface t v) c:=by
 unfold vT at h;split at h
 .cases h;exact Rd.ifs (e9 r) (e9 r).cell
 .split at h
  .rename_i q k;cases h;obtain⟨vs,rfl,f⟩:=r;have b:=l6 k f;refine Rd.Gw (by have:=b.length;grind) (λj=>(vs[j]?).getD ai) (λj e=>by grind) λj c e=>?_;obtain⟨v,i,l⟩:=b.get (j:=j) (a:=.c c) (by grind);rw[i];exact l
  grind
 grind
theorem bM.makeInterface(hT:cW P T){t:aj}{x:aq}(h:o.op=.makeInterface t x){i:TI}(hi:bG T t=aa i)(b:pG i.desc=ae){c:C}(j:vT t (g x)=aa c):bM P o g σ (.e (.one (.c c))) σ:=by
 refine .quiet λs f hh hr=>?_;have d:=(hT t i hi).run_underlying (w:=s.w);refine⟨.iface t (f x),?_,EV j (hr x),?_⟩
 rotate_left
 .simp only[aw,h,Instr.makeInterface,aM,bT,d,aP,b5,events_underlying];cases a:i.desc<;>rw[a]at b<;>first|(cases b;done)|simp
 simp only[aw,h,Instr.makeInterface,bT,d,b5];cases a:i.desc<;>rw[a]at b<;>first|(cases b;done)|simp
def za(i:TI):Option E1:=match i.agg with
 |true=>aa (.agg (i.zero.map A.c))
 |false=>af
def KQ{i:TI}{t:aj}(h:bH P t i){s:St}{e:E1}(d:za i=aa e):∃z,(zeroValue t).run P s.w=.ok z s.w/\nC σ s z e:=by
 obtain⟨z,j,a⟩:=h.CK σ s;refine⟨z,j,?_⟩;obtain⟨n,f,k,u,r,l,p,⟨cs,b⟩,q⟩:=h.info;have c:f=z:=by
  have:(zeroValue t).run P s.w=.ok f s.w:=by simp[zeroValue,typeInfo,k,l]
  grind
 subst c;unfold za at d;cases m:i.agg with
 |true =>
  rw[m]at d b;simp only[cq]at b;cases d;rw[b]at a⊢;exact⟨cs.toList,by simp,by simpa[Value.cells]using a⟩
 |false=>grind
def qE(t:aj)(i:TI):C->Option (E1×Bool)
 |.ifs t' c=>match aB t' t with
  |true=>aa (.one (.c c),ab)
  |false=>match za i with
   |some e=>aa (e,ae)
   |none=>af
 |.Gw t' cs=>match aB t' t with
  |true=>aa (.agg (cs.map A.c),ab)
  |false=>match za i with
   |some e=>aa (e,ae)
   |none=>af
 |.iI=>match za i with
  |some e=>aa (e,ae)
  |none=>af
 |_=>af
theorem bM.typeAssert(hT:cW P T){x:aq}{y t:aj}(h:o.op=.typeAssert x y t ab){i:TI}(hi:bG T t=aa i)(J:pG i.desc=ae){c:C}(K:g x=.e (.one (.c c))){e:E1}{b:Bool}(k:qE t i c=aa (e,b)):
  bM P o g σ (.fa [e,.one (.c (.bool b))]) σ:=by
 refine .quiet λs B hh hr=>?_;have h1:=hr x;rw[K]at h1;replace h1:=e9 h1;generalize E:B x=vx at h1;have r:=(hT t i hi).run_underlying (w:=s.w);have key:∀(v:ah) (b:Bool),(Instr.typeAssert vx y t ab).run P s.w=.ok (.tuple #[v,.bool b]) s.w->nC σ s v e->(Instr.typeAssert vx y t ab).events P s.w #[]=#[]->∃v,(aw B o).run P s.w=.ok (.value v) s.w/\dt σ s v (.fa [e,.one (.c (.bool b))])/\(aw B o).events P s.w #[]=#[]:=by intro v b h1 h2 h3;refine⟨.tuple #[v,.bool b],?_,⟨[v,.bool b],rfl,h2,Rd.bool,ay⟩,by simp only[aw,h,E,aM,h1,h3,aP,Sem.events_pure]⟩;simp only[aw,h,E,bT,h1,b5,dx]
 have fail:∀q,za i=aa q->(∀z,(zeroValue t).run P s.w=.ok z s.w->(Instr.typeAssert vx y t ab).run P s.w=.ok (.tuple #[z,.bool ae]) s.w/\(Instr.typeAssert vx y t ab).events P s.w #[]=#[])->e=q->b=ae->∃v,(aw B o).run P s.w=.ok (.value v) s.w/\dt σ s v (.fa [e,.one (.c (.bool b))])/\(aw B o).events P s.w #[]=#[]:=by intro q p H F l;subst F l;obtain⟨z,h3,O⟩:=KQ (σ:=σ) (hT t i hi) (s:=s) p;grind
 have d:∀m,i.desc≠.interface m:=by intro m e;rw[e]at J;cases J
 cases h1 with
 |@ifs t' v c h2 hc =>
  simp only[qE]at k;cases l:aB t' t with
  |true =>
   rw[l]at k;cases k;have G:=bX l;subst G;refine key v ab ?_ h2 ?_<;>
   .unfold Instr.typeAssert;simp only[bT,r,b5,aM,aP,events_underlying];cases a:i.desc<;>first|(exact absurd a (d _))|simp
  |false =>
   rw[l]at k;have n:t'≠t:=λe=>by grind[Nat.beq_refl]
   simp only at k;split at k
   .rename_i q p;cases k;refine fail _ p (λz h3=>⟨?_,?_⟩) rfl rfl<;>
    .unfold Instr.typeAssert;simp only[bT,r,b5,aM,aP,events_underlying];cases a:i.desc<;>first|(exact absurd a (d _))|simp[n,h3]
   grind
 |@Gw t' vs cs hl f N L =>
  simp only[qE]at k;cases l:aB t' t with
  |true =>
   rw[l]at k;cases k;have G:=bX l;subst G;refine key (.agg vs.toArray) ab ?_ ⟨vs,rfl,?_⟩ ?_
   rotate_left 2
   .unfold Instr.typeAssert;simp only[r,aM,aP,events_underlying];cases a:i.desc<;>first|(exact absurd a (d _))|simp
   .unfold Instr.typeAssert;simp only[bT,r,b5];cases a:i.desc<;>first|(exact absurd a (d _))|simp
   .have go:∀(vs:List ah) (cs:List C),vs.length=cs.length->(∀(j:Nat) (c:C),cs[j]?=aa c->∃v,vs[j]?=aa v/\Rd s.M v c)->ei σ s vs (cs.map A.c):=by
     intro vs;induction vs with
     |nil=>intro cs hl _;cases cs with|nil=>trivial|cons _ _=>grind
     |cons v vs ih =>
      intro cs hl hg;cases cs with
      |nil=>grind
      |cons c cs =>
       obtain⟨u,I,p2⟩:=hg 0 c rfl;simp at I;subst I;exact⟨p2,ih cs (by grind) (λj c hj=>by simpa using hg (j+1) c (by grind))⟩
    grind
  |false =>
   rw[l]at k;have n:t'≠t:=λe=>by grind[Nat.beq_refl]
   simp only at k;split at k
   .rename_i q p;cases k;refine fail _ p (λz h3=>⟨?_,?_⟩) rfl rfl<;>
    .unfold Instr.typeAssert;simp only[bT,r,b5,aM,aP,events_underlying];cases a:i.desc<;>first|(exact absurd a (d _))|simp[n,h3]
   grind
 |iI =>
  simp only[qE]at k;split at k
  .rename_i q p;cases k;refine fail _ p (λz h3=>⟨?_,?_⟩) rfl rfl<;>
   .unfold Instr.typeAssert;simp only[bT,r,b5,aM,aP,events_underlying];cases a:i.desc<;>first|(exact absurd a (d _))|simp[h3]
  grind
 |_=>simp[qE]at k
end
def OA{P:ar}(X:Cx P)(N:Nat)(all:List au)(o:au)(φ:Fr)(σ:List aR)(x:D)(σ':List aR):Prop :=
 ∀s a,cu N σ s φ a->aF σ s->∀(b:aU) (k:List Item) (cs:List aU) (S:av->St->Prop) (i:Nat) (rest:List Nat),b.kind≠.early->all.toArray[i]?=aa o ->
  (∀v s',dt σ' s' v x->aF σ' s'->cY σ s σ' s'->fL X S (G (b.aT (a.put o.dst v) (.inRegion all.toArray rest::k)) cs) s')->fL X S (G (b.aT a (.inRegion all.toArray (i::rest)::k)) cs) s
section
variable {P:ar}{X:Cx P}{N:Nat}{all rest:List au}{φ φ':Fr}{σ σ':List aR}{o:au}{x:D}
theorem OA.kT(p:∀σ s a,cu N σ s φ a->bg o (yielded all.toArray a.tmps)=ab)(h:bM P o (bU φ) σ x σ'):OA X N all o φ σ x σ':=by
 intro s a f hh b k cs S i rest q hi hK;refine rK q hi (p _ _ _ f) λe c=>?_;have d:=hh.rely c;obtain⟨r,s',h1,h2,g,l,n⟩:=h e a.eval d (dg (f.rely c hh));have j:=c.stepW.trans (l.nF d);have m:rC e s' ((aw a.eval o).events P e.w #[]):=⟨⟨σ,σ',d,g,l⟩,n⟩;cases r with
 |value v=>exact⟨_,s',v,h1,.inl rfl,m,hK v s' h2 g j⟩
 |skip=>simp only[Sw]at h2;subst h2;exact⟨_,s',ai,h1,.inr ⟨rfl,rfl⟩,m,hK ai s' ay g j⟩
 |_=>exact h2.elim
def OA.pass(e:∀σ s a,cu N σ s φ a->bg o (yielded all.toArray a.tmps)=ae):OA X N all o φ σ (.fa []) σ:=by intro s a f hh b k cs S i rest g hi hK;exact .ctl hh rfl (λ_=>NX hi (e _ _ _ f)) λd c=>hK ai d ⟨[],rfl,ay⟩ (hh.rely c) c.stepW
def iw.AI{Q:Fr->List aR->Prop}(h:OA X N all o φ σ x σ')(e:∀t,o.dst=aa t->t<N)(k:iw X N all rest Q (kH o.dst x φ) σ'):iw X N all (o::rest) Q φ σ:=by
 intro s a f hh b kk cs S idx hb jE hQ;cases idx with
 |nil=>exact jE.elim
 |cons i idx =>
 refine h s a f hh b kk cs S i idx hb jE.1 λv s' hv jh st=>k s' _ ?_ jh b kk cs S idx hb jE.2 λc σ2 s2 a2 q d h2 mR=>hQ c σ2 s2 a2 q d h2 (st.trans mR);cases g:o.dst with
 |none=>exact f.mono st hh.len
 |some t=>exact(f.mono st hh.len).put (e t g) hv
end
abbrev dv:=List D->List aR->Option (D×List aR×List Prop)
def y4:List (Nat×dv)->Nat->Option dv
 |[],_=>af
 |(i,g)::r,f=>cond (aB i f) (aa g) (y4 r f)
def er{P:ar}(X:Cx P)(f:aJ)(g:dv):Prop:=∀args σ res σ' obs,g args σ=aa (res,σ',obs)->az obs->Ev X f args σ res σ'
def bL{P:ar}(X:Cx P)(CT:List (Nat×dv)):Prop:=∀f g,y4 CT f=aa g->er X f g
def bL.nil{P:ar}{X:Cx P}:bL X []:=λ_ _ h=>by cases h
def bL.cons{P:ar}{X:Cx P}{f:aJ}{g:dv}{CT:List (Nat×dv)}(h:er X f g)(r:bL X CT):bL X ((f,g)::CT):=by
 intro a c h2;simp only[y4]at h2;cases b:aB f a with
 |true=>grind[Nat.eq_of_beq_eq_true]
 |false=>rw[b]at h2;exact r a c h2
def bxA:A->List Nat->List Nat
 |.ptr l _,ks=>cond (iv l ks) ks (ks++[l])
 |.vec l _ _ _,ks=>cond (iv l ks) ks (ks++[l])
 |.ref l,ks=>cond (iv l ks) ks (ks++[l])
 |.bp l _,ks=>cond (iv l ks) ks (ks++[l])
 |_,ks=>ks
def bxL:List A->List Nat->List Nat
 |[],ks=>ks
 |a::r,ks=>bxL r (bxA a ks)
def bxD:D->List Nat->List Nat
 |.e (.one a),ks=>bxA a ks
 |.e (.agg cs),ks=>bxL cs ks
 |_,ks=>ks
def VB:List D->List Nat->List Nat
 |[],ks=>ks
 |a::r,ks=>VB r (bxD a ks)
def Cp(l:Nat):List Nat->Nat->Option Nat
 |[],_=>af
 |k::r,i=>match aB k l with|true=>aa i|false=>Cp l r (i+1)
def ta{l:Nat}:∀{ks:List Nat}{i j:Nat},Cp l ks i=aa j->i<=j/\ks[j-i]?=aa l
 |[],_,_,h=>by cases h
 |k::r,i,j,h=>by
  simp only[Cp]at h;cases a:aB k l with
  |true=>rw[a]at h;cases h;exact⟨bc _,by grind[Nat.eq_of_beq_eq_true]⟩
  |false =>
   rw[a]at h;obtain⟨c,b⟩:=ta h;grind
def Uy(ks:List Nat):A->Option A
 |.ptr l o=>match Cp l ks 0 with|some i=>aa (.ptr i o)|none=>af
 |.ref l=>match Cp l ks 0 with|some i=>aa (.ref i)|none=>af
 |.bp l w=>match Cp l ks 0 with|some i=>aa (.bp i w)|none=>af
 |.vec _ _ _ _=>af
 |.c x=>aa (.c x)
 |.any=>aa .any
def XU(ks:List Nat):List A->Option (List A)
 |[]=>aa []
 |a::r=>match Uy ks a with
  |some b=>match XU ks r with
   |some q=>aa (b::q)
   |none=>af
  |none=>af
def Zf(ks:List Nat):D->Option D
 |.e (.one a)=>match Uy ks a with|some b=>aa (.e (.one b))|none=>af
 |.e (.agg cs)=>match XU ks cs with|some b=>aa (.e (.agg b))|none=>af
 |.fa _=>af
 |.any=>aa .any
def Ib(ks:List Nat):List D->Option (List D)
 |[]=>aa []
 |a::r=>match Zf ks a with
  |some b=>match Ib ks r with
   |some q=>aa (b::q)
   |none=>af
  |none=>af
def KE{ks:List Nat}{a b:A}(h:Uy ks a=aa b):pd ks b=a/\HR ks.length b=ab:=by
 cases a with
 |ptr l o =>
  simp only[Uy]at h;split at h
  .rename_i i hi;cases h;obtain⟨_,d⟩:=ta hi;simp only[lU]at d;have e:i<ks.length:=(b6.1 d).1;exact⟨by simp[pd,fC,d],r9 e⟩
  grind
 |ref l =>
  simp only[Uy]at h;split at h
  .rename_i i hi;cases h;obtain⟨_,d⟩:=ta hi;simp only[lU]at d;have e:i<ks.length:=(b6.1 d).1;exact⟨by simp[pd,fC,d],r9 e⟩
  grind
 |bp l w =>
  simp only[Uy]at h;split at h
  .rename_i i hi;cases h;obtain⟨_,d⟩:=ta hi;simp only[lU]at d;have e:i<ks.length:=(b6.1 d).1;exact⟨by simp[pd,fC,d],r9 e⟩
  grind
 |vec l k n es=>cases h
 |c x=>cases h;exact⟨rfl,rfl⟩
 |any=>cases h;exact⟨rfl,rfl⟩
def KF{ks:List Nat}:∀{a b:List A},XU ks a=aa b->Cf ks b=a/\Gs ks.length b=ab
 |[],b,h=>by cases h;exact⟨rfl,rfl⟩
 |a::r,b,h=>by
  simp only[XU]at h;split at h
  .rename_i x c;split at h
   .rename_i q f;cases h;obtain⟨d,i⟩:=KE c;obtain⟨g,e⟩:=KF f;exact⟨by simp[Cf,d,g],by simp[Gs,i,e]⟩
   grind
  grind
def Sx{ks:List Nat}{a b:D}(h:Zf ks a=aa b):iu ks b=a/\wD ks.length b=ab:=by
 unfold Zf at h;split at h
 .rename_i a;split at h
  .rename_i x c;cases h;obtain⟨e,d⟩:=KE c;exact⟨by simp[iu,Ai,e],by simp[wD,HS,d]⟩
  grind
 .rename_i cs;split at h
  .rename_i x c;cases h;obtain⟨e,d⟩:=KF c;exact⟨by simp[iu,Ai,e],by simp[wD,HS,d]⟩
  grind
 .cases h
 .cases h;exact⟨rfl,rfl⟩
def GR{ks:List Nat}:∀{a b:List D},Ib ks a=aa b->fU ks b=a/\lE ks.length b=ab
 |[],b,h=>by cases h;exact⟨rfl,rfl⟩
 |a::r,b,h=>by
  simp only[Ib]at h;split at h
  .rename_i x c;split at h
   .rename_i q f;cases h;obtain⟨d,i⟩:=Sx c;obtain⟨g,e⟩:=GR f;exact⟨by simp[fU,d,g],by simp[lE,i,e]⟩
   grind
  grind
def J9(CT:List (Nat×dv))(φ:Fr)(σ:List aR)(a:aq)(xs:List aq):Option (D×List aR×List Prop) :=
 match eQ (bU φ a)with
 |none=>af
 |some (f,cap)=>match y4 CT f with
  |none=>af
  |some g =>
   let args:=mS (xs.map (bU φ)++fP cap);let ks:=VB args []
   match Ib ks args with
   |none=>af
   |some KG=>match j3 ks σ with
    |none=>af
    |some σs=>match g KG σs with
     |none=>af
     |some (res,σ1,obs)=>match cx σs,cx σ1,dH ks,bA ks.length σ1.length with
      |true,ab,ab,ab=>aa (iu (ks++k9 σ.length (σ1.length-ks.length)) res,dW ks σ1 σ,obs)
      |_,_,_,_=>af
theorem OA.QW{P:ar}{X:Cx P}{N:Nat}{all:List au}{φ:Fr}{σ:List aR}{o:au}{CT:List (Nat×dv)}(hC:bL X CT){A:aq}{xs:Array aq}{G:Array aj}(T:∀σ s a,cu N σ s φ a->bg o (yielded all.toArray a.tmps)=ab)(M:o.op=.call {callee:=.value A,args:=xs,argTypes:=G}){f:aJ}{cap:List C}(z:eQ (bU φ A)=aa (f,cap)){g:dv}(F:y4 CT f=aa g){ks:List Nat}{d:List D}{n σ1:List aR}{res:D}{obs:List Prop}(H:Ib ks (mS (xs.toList.map (bU φ)++fP cap))=aa d)(K:j3 ks σ=aa n)(t:g d n=aa (res,σ1,obs))(O:cx n=ab)(J:cx σ1=ab)(R:dH ks=ab)(E:ks.length<=σ1.length)(u:az obs):OA X N all o φ σ (iu (ks++k9 σ.length (σ1.length-ks.length)) res) (dW ks σ1 σ):=by
 obtain⟨m,B⟩:=GR H;intro s a p hh b kk cs S i rest Q hi hK;have r:=hC f g F _ _ _ _ _ t u;have y:=dg p A;unfold eQ at z;split at z
 case h_2=>cases z
 case h_1 f' NW he =>
  cases z;rw[he]at y;have h:=e9 y;generalize L:a.eval A=fv at h;cases h with
  |fn fs nG hl Ed f1 f2 h1 h2 r1 r2 =>
   have I:fs=[]:=jv hl;subst I;have l:cp σ s nG (fP cap):=nN (λj c hj=>⟨f2 j,h2 j (by grind),r2 j c hj⟩) Ed;have v:cp σ s (xs.toList.map a.eval++nG) (fU ks d):=by rw[m];exact pA ((lX (dg p) xs.toList).append l)
   obtain⟨fn,q,k,e⟩:=r.1;exact JQ Q hi (T _ _ _ p) hh (λw=>(jK M q k e L w).1) (λw=>(jK M q k e L w).2) r v B K O J R E hK
theorem OA.call{P:ar}{X:Cx P}{N:Nat}{all:List au}{φ:Fr}{σ σ':List aR}{o:au}{CT:List (Nat×dv)}(hC:bL X CT){e:aq}{xs:Array aq}{c:Array aj}{x:D}{obs:List Prop}(j:∀σ s a,cu N σ s φ a->bg o (yielded all.toArray a.tmps)=ab)(i:o.op=.call {callee:=.value e,args:=xs,argTypes:=c})(b:J9 CT φ σ e xs.toList=aa (x,σ',obs))(d:az obs):OA X N all o φ σ x σ':=by
 unfold J9 at b;split at b
 .cases b
 rename_i f cap hf;split at b
 .cases b
 rename_i g h;simp only at b;split at b
 .cases b
 grind[OA.QW,Nat.le_of_ble_eq_true]
def CF{d:D}(h:wD 0 d=ab):iu [] d=d:=by
 have g:∀{a:A},HR 0 a=ab->pd [] a=a:=by intro a b;cases a<;>simp only[HR]at b<;>first|rfl|(simp at b)
 have j:∀{l:List A},Gs 0 l=ab->Cf [] l=l:=by
  intro l;induction l with
  |nil=>intro _;rfl
  |cons a r c =>
   intro h;simp only[Gs]at h;cases b:HR 0 a with
   |false=>grind
   |true=>simp only[b]at h;simp[Cf,g b,c h]
 have i:∀{a:E1},HS 0 a=ab->Ai [] a=a:=by
  intro a b;cases a with
  |one a=>simp[Ai,g b]
  |agg cs=>simp[Ai,j b]
 have f:∀{l:List E1},yx 0 l=ab->yV [] l=l:=by
  intro l;induction l with
  |nil=>intro _;rfl
  |cons a r c =>
   intro h;simp only[yx]at h;cases b:HS 0 a with
   |false=>grind
   |true=>simp only[b]at h;simp[yV,i b,c h]
 cases d with
 |e x=>simp[iu,i h]
 |fa xs=>simp[iu,f h]
 |any=>rfl
def Cn(CT:List (Nat×dv))(φ:Fr)(a:aq)(xs:List aq):Option (D×List Prop) :=
 match eQ (bU φ a)with
 |none=>af
 |some (f,cap)=>match y4 CT f with
  |none=>af
  |some g=>match Ib [] (mS (xs.map (bU φ)++fP cap))with
   |none=>af
   |some KG=>match g KG []with
    |some (res,[],obs)=>match wD 0 res with
     |true=>aa (res,obs)
     |false=>af
    |_=>af
theorem OA.Cn{P:ar}{X:Cx P}{N:Nat}{all:List au}{φ:Fr}{σ:List aR}{o:au}{CT:List (Nat×dv)}(hC:bL X CT){k:aq}{xs:Array aq}{e:Array aj}{x:D}{obs:List Prop}(m:∀σ s a,cu N σ s φ a->bg o (yielded all.toArray a.tmps)=ab)(l:o.op=.call {callee:=.value k,args:=xs,argTypes:=e})(b:AM.Cn CT φ k xs.toList=aa (x,obs))(c:az obs):OA X N all o φ σ x σ:=by
 unfold AM.Cn at b;split at b
 .cases b
 rename_i f cap hf;split at b
 .cases b
 rename_i g i;split at b
 .cases b
 rename_i d j;split at b
 case h_2=>cases b
 rename_i res adS Zg;split at b
 case h_2=>cases b
 rename_i h;cases b;have:=OA.QW (σ:=σ) hC m l hf i j rfl Zg rfl rfl rfl (bc _) c;simpa[k9,CF h,dW]using this
def pH(i:Nat)(ci:List C)(es:Nat->List C):Nat->List C:=λj=>if j=i then ci else es j
def tU(lo hi:Nat)(z:List C)(es:Nat->List C):Nat->List C:=λj=>if lo<=j/\j<hi then z else es j
section
variable {P:ar}{T:List (Nat×TI)}{o:au}{B:aq->D}{σ:List aR}{s:St}{l g:Nat}{E:aj}{k n:Nat}{es:Nat->List C}
def K2(q:aF σ s)(e:σ[l]?=aa (.buf E k n es)){k' i f:Nat}{v:ah}(j:gB σ s v (.bp l (.el g k' i f)))(u:g=n):
  ∃b c vs zs,s.β[l]?=aa ⟨.slice (aa ⟨b,0,af⟩) 0 c,[b]⟩/\v=.pointer (aa ⟨b,i*k'+f,af⟩)/\s.w.heap[b]?=aa (.cells (vs++zs).toArray E (0,0))/\(vs++zs).length=c*k/\n<=c/\c<=9223372036854775807/\Flat s.M k n es vs/\∀o,s.M b o=af:=by
 obtain⟨G,⟨b,c,d,A⟩,_,m⟩:=j;obtain⟨L,h,a⟩:=(m _ _ _ _ e).2 u;rw[d]at a;rcases q.box l _ L e h with⟨_,rfl⟩|⟨F,c1,vs,zs,rfl,y,t,r,p,z,x⟩
 .cases a
 .cases a;exact⟨b,c,vs,zs,h,A,y,t,r,p,z,x⟩
def EX{g:Nat->ah}:∀{ds:List C}{m:Nat},(∀j c,ds[j]?=aa c->Rd s.M (g (m+j)) c)->ei σ s ((bh ds.length).map λj=>g (m+j)) (ds.map A.c)
 |[],m,_=>trivial
 |d::ds,m,h=>by rw[fb,vE];refine⟨h 0 d rfl,?_⟩;have:=EX (ds:=ds) (m:=m+1) (λj c a=>by have:=h (j+1) c (by grind);rwa [show m+1+j=m+(j+1) by omega]);grind[Function.comp_def]
theorem bM.YC(hT:cW P T){t:aj}{x y:aq}(h:o.op=.indexAddr t x y){i f:TI}{E:aj}(hi:bG T t=aa i)(R:i.desc=.slice E)(N:bG T E=aa f){q m:Nat}{j:Int}{kk:IntKind}(O:B x=.e (.one (.bp l (.sl g f.size q m))))(S:B y=.e (.one (.c (.int kk j))))(U:0<=j)(h1:j<m):bM P o B σ (.e (.one (.bp l (.el g f.size (q+j.toNat) 0)))) σ:=by
 refine .quiet λs H hh hr=>?_;have p:=hr x;rw[O]at p;have h2:=hr y;rw[S]at h2;replace h2:=e9 h2;generalize u:H y=vy at h2;cases h2;have d:=p;change gB σ s (H x) (.bp l _)at d;obtain⟨lv,⟨a,a0,cap,Q,J,L,M,K,v,A⟩,G,F⟩:=d;obtain⟨b,rfl,rfl⟩:=A (by omega);have I:=(hT t i hi).run_underlying (w:=s.w);rw[R]at I;obtain⟨r,rfl⟩:∃r:Nat,j=r:=⟨j.toNat,by omega⟩
 have z:r<m:=by omega
 refine⟨.pointer (aa ⟨b,(q+r)*f.size,af⟩),?_,⟨lv,⟨b,Q,v,by simp⟩,G,F⟩,?_⟩<;>
 simp[aw,h,J,u,Instr.indexAt,asIntOf,I,(hT E f N).run_sizeOf,du,z,iF]
def bM.Sa(hT:cW P T){t:aj}{x:aq}{f:Nat}(h:o.op=.fieldAddr t x f){c i q off:Nat}{j:TI}(v:B x=.e (.one (.bp l (.el g c i q))))(u:j5 T t f=aa (off,j)):bM P o B σ (.e (.one (.bp l (.el g c i (q+off))))) σ:=by refine .quiet λs w hh hr=>?_;have h1:=hr x;rw[v]at h1;have a:=h1;change gB σ s (w x) (.bp l _)at a;obtain⟨lv,⟨b,y,d,r⟩,p,m⟩:=a;exact⟨.pointer (aa ⟨b,i*c+q+off,af⟩),by simp[aw,h,r,mY hT u],⟨lv,⟨b,y,d,by grind⟩,p,m⟩,by simp[aw,h,r,oJ hT u]⟩
theorem bM.YD{x:aq}(h:o.op=.nilCheck x){f i q:Nat}(m:B x=.e (.one (.bp l (.el g f i q)))):bM P o B σ (.e (.one (.bp l (.el g f i q)))) σ:=by refine .quiet λs j hh hr=>?_;have h1:=hr x;rw[m]at h1;have c:=h1;have a:=h1;change gB σ s (j x) (.bp l _)at a;obtain⟨lv,⟨b,u,p,d⟩,t,r⟩:=a;exact⟨j x,by simp[aw,h,d],c,by simp[aw,h,d]⟩
theorem bM.YE(hT:cW P T){x:aq}{b:Array aj}{t:aj}(h:o.op=.call {callee:=.builtin .len,args:=#[x],argTypes:=b})(v:b[0]?=aa t){i:TI}{E:aj}(hi:bG T t=aa i)(F:i.desc=.slice E){y q m:Nat}(r:B x=.e (.one (.bp l (.sl g y q m)))):bM P o B σ (.e (.one (.c (.int .i64 m)))) σ:=by
 refine .quiet λs z hh hr=>?_;have h1:=hr x;rw[r]at h1;have d:=h1;change gB σ s (z x) (.bp l _)at d;obtain⟨lv,⟨a,a0,cap,K,j,J,u,G,A,H⟩,p,I⟩:=d;have f:=(hT t i hi).run_underlying (w:=s.w);rw[F]at f;refine⟨.int .i64 m,?_,Rd.int (by simp only[bD];omega),?_⟩<;>
 simp[aw,h,resolve,invoke,builtin,Builtin.len_,j,f,goInt,v]
theorem bM.sliceB(hT:cW P T){t:aj}{x:aq}{lo hi:Option aq}(h:o.op=.slice t x lo hi af){i f:TI}{E:aj}(r:bG T t=aa i)(R:i.desc=.slice E)(N:bG T E=aa f){q m:Nat}{d u:Option Int}(O:B x=.e (.one (.bp l (.sl g f.size q m))))(hl:rJ B lo=aa d)(K:rJ B hi=aa u)(J:az (fY m d u)):bM P o B σ (.e (.one (.bp l (.sl g f.size (q+dj 0 d) (dj m u-dj 0 d))))) σ:=by
 refine .quiet λst ρ hh hr=>?_;have h1:=hr x;rw[O]at h1;have p:=h1;change gB σ st (ρ x) (.bp l _)at p;obtain⟨lv,⟨a,a0,cap,Q,G,j,L,v,y,z⟩,F,A⟩:=p;obtain⟨I,M,S⟩:=md (P:=P) (isS:=ab) j (gE hr hl) (gE hr K) J st.w;have c:=(hT t i r).run_underlying (w:=st.w);rw[R]at c;refine⟨.slice (if cap=dj 0 d then a else a.map (·.add (dj 0 d*f.size))) (dj m u-dj 0 d) (cap-dj 0 d),?_,⟨lv,⟨_,a0,_,Q,rfl,by omega,by omega,v,y,λH=>?_⟩,F,A⟩,by simp[aw,h,G,Instr.sliceAt,c,Instr.slice,I,nI (P:=P) (isS:=ab) j (gE hr hl) (gE hr K) J st.w]⟩
 .simp[aw,h,G,Instr.sliceAt,c,Instr.slice,I,(hT E f N).run_sizeOf]
 .obtain⟨b,rfl,rfl⟩:=z (by omega);refine⟨b,rfl,?_⟩;rw[aY (by omega)];simp[du,iF]
def bM.Vi(hT:cW P T){t:aj}{x:aq}(h:o.op=.load t x){i f:Nat}{F:TI}{e:E1}(S:B x=.e (.one (.bp l (.el g k i f))))(z:g=n)(hl:σ[l]?=aa (.buf E k n es))(hi:bG T t=aa F)(L:lb F ((fV f (es i)).map A.c)=aa e)(q:i<n):bM P o B σ (.e e) σ:=by
 refine .oz λs O hh hr=>?_;have h1:=hr x;rw[S]at h1;obtain⟨b,X,vs,V,U,I,d,N,Q,R,J,Y⟩:=K2 hh hl h1 z;have Z:=J.width i q;let g:Nat->ah:=λj=>vs.getD (i*k+j) ai;have z:∀j c,(fV f (es i))[j]?=aa c->vs[i*k+(f+j)]?=aa (g (f+j))/\Rd s.M (g (f+j)) c:=by intro j c hj;rw[mo,pt]at hj;obtain⟨v,v1,W⟩:=J.rd i q (f+j) c hj;grind
 have H:=EX (σ:=σ) (s:=s) (g:=g) (ds:=fV f (es i)) (m:=f) (λj c hj=>(z j c hj).2);have a:∀(j:Nat) (v:ah),((bh (fV f (es i)).length).map λj=>g (f+j))[j]?=aa v->s.w.cell? ⟨b,i*k+f+j,af⟩=aa v:=by
  intro j v hj;simp only[nk]at hj;by_cases u:j<(fV f (es i)).length
  .simp[u]at hj;subst hj;have h2:=(z j _ (br u)).1;simp only[aV,d];grind
  grind
 obtain⟨v,r,G⟩:=iL (s:=s) (σ:=σ) (P:=P) (hT t F hi) (b:=b) (off:=i*k+f) (e:=e) a H L;refine⟨v,by simp[aw,h,I,Instr.loadAt,bq,r],G,λK y=>?_⟩;have p:K∈(loadVar t ⟨b,i*k+f,af⟩).events P s.w #[]:=by
  have e:aw O o=(do pure (.value (<-loadVar t ⟨b,i*k+f,af⟩))):=by simp[aw,h,I,Instr.loadAt,bq]
  rw[e]at y;simpa[r]using y
 obtain⟨j,hj,rfl⟩:=gu (hT t F hi) (n:=(fV f (es i)).length) (λj hj=>⟨_,a j (g (f+j)) (by grind)⟩) (by have:=ld L;grind) K p;exact j0 (bP U) (by simp)
def Flat.put{M:Mem}{vs pb:List ah}{i f:Nat}{cc ci:List C}(h:Flat M k n es vs)(hi:i<n)(r:fH f cc (es i)=aa ci)(hl:pb.length=cc.length)(t:∀(j:Nat)(c:C),cc[j]?=aa c->∃v,pb[j]?=aa v/\Rd M v c):
  i*k+f+pb.length<=vs.length/\Flat M k n (pH i ci es) (vs.take (i*k+f)++pb++vs.drop (i*k+f+pb.length)):=by
 obtain⟨h1,h2⟩:=qJ r;have z:=h.width i hi;have F:i*k+k<=n*k:=by have:=eP k (show i+1<=n by omega);grind
 have x:=h.len;have q:i*k+f+pb.length<=vs.length:=by omega
 have d:∀p,(vs.take (i*k+f)++pb++vs.drop (i*k+f+pb.length))[p]?=if p<i*k+f then vs[p]? else if p<i*k+f+pb.length then pb[p-(i*k+f)]? else vs[p]?:=by
  intro p;have A:(vs.take (i*k+f)).length=i*k+f:=by grind
  by_cases c1:p<i*k+f
  .grind
  .rw[aY c1];by_cases c2:p<i*k+f+pb.length
   .grind
   .rw[aY c2,gk (by grind),pt];grind
 refine⟨q,⟨by grind,λb a=>?_,λb a j c hj=>?_⟩⟩
 .simp only[pH];split
  .grind
  .exact h.width b a
 .simp only[pH]at hj;rw[d];split at hj
  .rename_i e;subst e;rw[h2]at hj;by_cases c1:j<f
   .rw[l8,jy (by grind),iX,bl c1]at hj;rw[bl (by omega)];exact h.rd b hi j c hj
   .by_cases c2:j<f+cc.length
    .rw[l8,gk (by grind),jy (by grind)]at hj;obtain⟨v,v1,y⟩:=t _ c hj;refine⟨v,?_,y⟩;rw[aY (by omega),bl (by omega),<-v1];congr 1;grind
    .rw[gk (by grind),pt]at hj;rw[aY (by omega),aY (by omega)];refine h.rd b hi j c ?_;grind
  .rename_i e;have u:j<k:=by have:=(b6.1 hj).1;have:=h.width b a;omega
   rcases cM b i with m|w
   .have:(b+1)*k<=i*k:=eP k m;rw[iF,Nat.one_mul]at this;rw[bl (by omega)];exact h.rd b a j c hj
   .have:(i+1)*k<=b*k:=eP k (by omega);rw[iF,Nat.one_mul]at this;rw[aY (by omega),aY (by omega)];exact h.rd b a j c hj
def aF.dW(hh:aF σ s)(hl:σ[l]?=aa (.buf E k n es)){b:Nat}{vs zs Ak:List ah}{d:Nat}(A:s.β[l]?=aa ⟨.slice (aa ⟨b,0,af⟩) 0 d,[b]⟩)(t:(vs++zs).length=d*k)(j:n<=d)(m:d<=9223372036854775807){es':Nat->List C}(e:s.w.heap[b]?=aa (.cells (vs++zs).toArray E (0,0)))(r:Flat s.M k n es' Ak)(x:Ak.length=vs.length)(z:∀o,s.M b o=af):
  aF (σ.set l (.buf E k n es')) {s with w:=s.w.setRow b (Ak++zs).toArray}/\Step σ s (σ.set l (.buf E k n es')) {s with w:=s.w.setRow b (Ak++zs).toArray}:=by
 have i:(s.w.setRow b (Ak++zs).toArray).heap[b]?=aa (.cells (Ak++zs).toArray E (0,0)):=setRow_heap s.w b _ _ E _ e;have f:∀a,a≠b->(s.w.setRow b (Ak++zs).toArray).heap[a]?=s.w.heap[a]?:=λa c=>setRow_other s.w b a _ c;have p:s.β.set l ⟨.slice (aa ⟨b,0,af⟩) 0 d,[b]⟩=s.β:=by apply iY;grind
 obtain⟨F,G⟩:=hh.gJ (M':=s.M) (w':=s.w.setRow b (Ak++zs).toArray) (B':=.buf E k n es') (L':=⟨.slice (aa ⟨b,0,af⟩) 0 d,[b]⟩) hl A ⟨λ_=>rfl,bc _⟩ (by simp[World.setRow])
  (λa c H=>f a (by grind)) (λ_ _ _ _=>rfl) (λ_ _ _ h=>h) (λa u v q=>by
   have y:a≠b:=by grind
   have:=hh.mem a u v q;rw[<-this];simp only[aV]
   grind) (λa c=>⟨.inl c,by grind⟩) rfl rfl rfl
  (.inr ⟨b,d,Ak,zs,rfl,i,by grind,j,m,r,z⟩)
 grind
def sV{α:Type}:∀{new l:List α},new.length=l.length->fH 0 new l=aa new
 |[],[],_=>rfl
 |[],_::_,h=>by grind
 |_::_,[],h=>by grind
 |n::ns,c::cs,h=>by simp only[fH,sV (new:=ns) (l:=cs) (by grind)]
def bM.Kd(hT:cW P T){t:aj}{x y:aq}(h:o.op=.store t x y){i f:Nat}{J:TI}{new:List A}{cc ci:List C}(Z:B x=.e (.one (.bp l (.el g k i f))))(hg:g=n)(hl:σ[l]?=aa (.buf E k n es))(hi:bG T t=aa J)(hy:kI (B y)=aa new)(hn:new.length=J.size)(Q:gM new=aa cc)(L:(es i).length=k->fH f cc (es i)=aa ci)(u:i<n):
  bM P o B σ .any (σ.set l (.buf E k n (pH i ci es))):=by
 intro s c hh hr;have h1:=hr x;rw[Z]at h1;obtain⟨b,c0,vs,z,W,R,a,M,N,O,S,V⟩:=K2 hh hl h1 hg;have m:=l4 hy (hr y);have G:=l6 Q m;have K:=ei.closed G;have p:(c y).cells.toList.length=cc.length:=by have:=G.length;grind
 replace L:=L (S.width i u);obtain⟨q1,q2⟩:=S.put u L p K;have I:(c y).cells.size=J.size:=by rw[<-hn,<-m.length,jA]
 obtain⟨X,Y⟩:=hh.dW hl W M N O a q2 (by grind) V;have F:=run_storeCells_at P b (i*k+f) E (c y).cells.toList 0 (vs++z).toArray s.w a (by grind) m.cell;have H:((vs++z).toArray.toList.take (i*k+f+0)++(c y).cells.toList++(vs++z).toArray.toList.drop (i*k+f+0+(c y).cells.toList.length))=vs.take (i*k+f)++(c y).cells.toList++vs.drop (i*k+f+(c y).cells.toList.length)++z:=by grind
 rw[H]at F;refine⟨.skip,_,?_,rfl,X,Y,?_⟩
 .simp[aw,h,R,Instr.storeAt,bq,storeVar,(hT t J hi).run_sizeOf,I,F]
 .intro U d;have e:aw c o=(do storeVar t ⟨b,i*k+f,af⟩ (c y);pure .skip):=by simp[aw,h,R,Instr.storeAt,bq]
  rw[e]at d;have q:U∈(storeCells ⟨b,i*k+f,af⟩ (c y).cells.toList).events P s.w #[]:=by
   simp only[storeVar,aM,(hT t J hi).run_sizeOf,I,aP,events_sizeOf,dy,ft,ck,bT,b5,Sem.events_pure]at d;generalize(storeCells ⟨b,i*k+f,af⟩ (c y).cells.toList).run P s.w=r at d;cases r with
   |ok v w'=>simpa using d
   |halt x w'=>simpa using d
  rcases dN (c y).cells.toList 0 (vs++z).toArray s.w #[] a (by grind) m.cell U q with JK|⟨j,_,_,rfl⟩
  .grind
  .exact jX (bP W) (by simp) (V _)
end
section
variable {σ:List aR}
def aF.Ab{s:St}(hh:aF σ s){b:Nat}{vs:List ah}(g:∀o,s.M b o=af)(h:∀o v,vs[o]?=aa v->s.w.cell? ⟨b,o,af⟩=aa v):
  aF (σ.map λ_=>.dead) {s with M:=λa o=>if a=b then vs[o]? else s.M a o}/\∀a o v,s.M a o=aa v->(if a=b then vs[o]? else s.M a o)=aa v:=by
 have c:=hh.lW;refine⟨⟨λa o v f=>?_,c.len,λl B L hB hL=>?_,c.eO,c.lt,c.own⟩,λa o v f=>?_⟩
 .by_cases e:a=b
  .grind
  .simp only[e,ck]at f;exact c.mem a o v f
 .have:=bP hB;simp at this;rw[<-this.2];trivial
 grind
def fg.wu{s:St}{M':Mem}{b:Nat}{es:Array Event}(h:fg {s with M:=M'} es){L:Loc}(l:L∈s.β)(m:b∈L.bs)(k:∀c o v,s.M c o=aa v->M' c o=aa v)(f:∀c o v,M' c o=aa v->c=b∨s.M c o=aa v):fg s es:=by
 intro e i;have h1:=h e i;unfold ox at h1⊢;split at h1
 .obtain⟨a1,a2,a3⟩:=h1;refine⟨a1,a2,?_⟩;rcases a3 with a3|⟨a3,a4⟩|⟨a3,v,a4⟩
  .grind
  .refine .inr (.inl ⟨a3,λg=>?_⟩);have:=a4 g;rename_i a _;cases j:s.M a.block a.off with
   |none=>rfl
   |some v=>grind
  grind
 all_goals exact h1
end
def Jp(k:Nat)(f:Nat->Nat->ah):Nat->List C:=λi=>(bh k).map λj=>.val (f i j)
theorem qv{k:Nat}{f:Nat->Nat->ah}{i j:Nat}{c:C}(h:(Jp k f i)[j]?=aa c):j<k/\c=.val (f i j):=by
 have a:j<k:=by have:=(b6.1 h).1;simpa[Jp]using this
 simp[Jp,a]at h;grind
def Ej{k:Nat}{f:Nat->Nat->ah}{i j:Nat}(h:j<k):(Jp k f i)[j]?=aa (.val (f i j)):=by simp[Jp,h]
def Rd.exact{M:Mem}{v:ah}{t:Bool}{k n:Nat}{es:Nat->List C}(h:Rd M v (.sl t k n es)):
  ∃f:Nat->Nat->ah,Rd M v (.sl t k n (Jp k f))/\(∀i,i<n->(es i).length=k)/\∀i,i<n->∀j c,(es i)[j]?=aa c->Rd M (f i j) c:=by
 cases h with
 |sl b off f a m l hk ha hm hr =>
  have e:∀i,i<n->∀j,j<k->∃c,(es i)[j]?=aa c:=λi hi j hj=>⟨_,br (by grind)⟩
  refine⟨f,.sl b off f a m l (λi _=>by simp[Jp]) ha (λi hi j c hj=>?_) (λi hi j c hj=>?_),hk,hr⟩
  .grind [qv]
  .obtain⟨h1,rfl⟩:=qv hj;obtain⟨g,h2⟩:=e i hi j h1;exact .val (hr i hi j g h2).cell
def AU{σ:List aR}{s:St}{l:Nat}{E:aj}{k n:Nat}{es:Nat->List C}{L:Loc}{a c:Option Addr}{cap:Nat}(hB:σ[l]?=aa (.buf E k n es))(f:s.β[l]?=aa L)(e:L.v=.slice c 0 cap)(g:n<=cap)(i:cap<=9223372036854775807)(m:0<cap->∃b,c=aa ⟨b,0,af⟩/\a=aa ⟨b,0,af⟩):gB σ s (.slice a n cap) (.bp l (.sl n k 0 n)) :=
 ⟨L.v,⟨a,c,cap,cap,rfl,g,by omega,i,e,λh=>by grind⟩,(b6.1 hB).1,λj k' n' es' he=>by rw[hB]at he;cases he;exact⟨bc _,λ_=>⟨L,f,rfl⟩⟩⟩
def sv{P:ar}{o:au}{σ:List aR}{x y:aq}{E:aj}{g:TI}(h:lL P o x y E g){l n p:Nat}{tx:Bool}{es es':Nat->List C}{s:St}{ρ:aq->ah}(r:aF σ s)(h1:gB σ s (ρ x) (.bp l (.sl n g.size 0 n)))(hl:σ[l]?=aa (.buf E g.size n es))(W:Rd s.M (ρ y) (.sl tx g.size p es'))(K:(n+p)*g.bytes<=140737488355328):
  ∃nx s',(aw ρ o).run P s.w=.ok nx s'.w/\Sw (σ.set l (.buf E g.size (n+p) (cK n es es'))) s' nx (.e (.one (.bp l (.sl (n+p) g.size 0 (n+p)))))/\aF (σ.set l (.buf E g.size (n+p) (cK n es es'))) s'/\Step σ s (σ.set l (.buf E g.size (n+p) (cK n es es'))) s'/\fg s ((aw ρ o).events P s.w #[]):=by
 obtain⟨t,t2,i,i2,ho,hi,hd,z,A⟩:=h.op;have J:l<σ.length:=(b6.1 hl).1;obtain⟨lv,⟨a,a0,cap,u,hv,N,Up,Q,HL,X6⟩,_,Xs⟩:=h1;obtain⟨L,hL,XW⟩:=(Xs _ _ _ _ hl).2 rfl;rw[HL]at XW;have Qw:u=cap:=by omega
 subst Qw;have R:0<u->∃b,a0=aa ⟨b,0,af⟩/\a=aa ⟨b,0,af⟩:=λh=>by grind
 have S:l<s.β.length:=(b6.1 hL).1;have UM:=bP hL;have V:=r.box l _ L hl hL;rw[dn ho,hv];have row:0<u->∃b vs zs,a=aa ⟨b,0,af⟩/\L=⟨.slice (aa ⟨b,0,af⟩) 0 u,[b]⟩/\s.w.heap[b]?=aa (.cells (vs++zs).toArray E (0,0))/\(vs++zs).length=u*g.size/\Flat s.M g.size n es vs/\∀o,s.M b o=af:=by
  intro G;obtain⟨b,e1,e2⟩:=R G;rcases V with⟨_,rfl⟩|⟨q,c1,vs,zs,rfl,h3,h4,h5,h6,h7,h8⟩
  .grind
  grind
 by_cases h0:p=0
 .subst h0;have m:=jo (P:=P) (ty:=o.type) hi hd z A h.elem r (a:=a) N W;simp only[iE];have ha:cA n es (cK n es es'):=λi hi=>by simp[cK,hi]
  have Xw:eE (σ.set l (.buf E g.size n (cK n es es'))) ⟨s.β.set l L,s.M,s.w,s.own⟩ (.buf E g.size n (cK n es es')) L:=by
   rcases V with h3|⟨q,c1,vs,zs,W,h3,h4,h5,h6,h7,h8⟩
   .exact .inl h3
   .exact .inr ⟨q,c1,vs,zs,W,h3,h4,h5,h6,h7.Ei ha,h8⟩
  have Jv:=r.gJ (M':=s.M) (w':=s.w) (B':=.buf E g.size n (cK n es es')) (L':=L) hl hL ⟨λ_=>rfl,bc _⟩ (bc _) (λ_ _ _=>rfl) (λ_ _ _ _=>rfl) (λ_ _ _ h=>h) r.mem
   (λb K=>⟨.inl K,r.lt L UM b K⟩) rfl rfl rfl Xw
  refine⟨.value (.slice a n u),_,?_,?_,Jv.1,Jv.2,eU (jW hi hd z A h.elem r N W)⟩
  .simp[m]
  .exact AU (E:=E) (by rw[gn J]) (by grind) XW N Q R
 .by_cases k:n+p<=u
  .obtain⟨b,vs,zs,rfl,rfl,hw,I,hF,hM⟩:=row (by omega);obtain⟨f,NB,m⟩:=kE (P:=P) (ty:=o.type) hi hd z A h.elem r hw I W k;have Qx:vs.length=n*g.size:=hF.len;have Uq:f.length=p*g.size:=NB.len;have hnc:n*g.size+p*g.size<=u*g.size:=by rw[<-iF];exact eP _ k
   have X:((vs++zs).take (n*g.size)++f++(vs++zs).drop (n*g.size+f.length))=(vs++f)++zs.drop f.length:=by rw[<-Qx];simp[List.drop_append]
   rw[X]at m;have N3:=setRow_heap s.w b _ ((vs++f)++zs.drop f.length).toArray E _ hw;have Eo:∀q,q≠b->(s.w.setRow b ((vs++f)++zs.drop f.length).toArray).heap[q]?=s.w.heap[q]?:=λq O=>setRow_other s.w b q _ O;obtain⟨t1,UO⟩:=r.gJ (M':=s.M) (w':=s.w.setRow b ((vs++f)++zs.drop f.length).toArray) (B':=.buf E g.size (n+p) (cK n es es')) (L':=⟨.slice (aa ⟨b,0,af⟩) 0 u,[b]⟩) hl hL ⟨λ_=>rfl,by omega⟩ (by simp[World.setRow])
    (λq O hn=>Eo q (by grind)) (λ_ _ _ _=>rfl) (λ_ _ _ h=>h) (λq o' v hmv=>by
     have B6:q≠b:=by grind
     have:=r.mem q o' v hmv;rw[<-this];simp only[aV]
     grind) (λq O=>⟨.inl O,by grind⟩) rfl rfl rfl
    (.inr ⟨b,u,vs++f,zs.drop f.length,rfl,N3,by grind,k,Q,hF.append NB,hM⟩)
   refine⟨.value (.slice (aa ⟨b,0,af⟩) (n+p) u),_,?_,?_,t1,UO,eU (ma hi hd z A h.elem r hw I W k UM (by simp) (λo _=>hM o))⟩
   .simp[m]
   .exact AU (E:=E) (by rw[gn J]) (by simp only;rw[gn S]) rfl k Q λ_=>⟨b,rfl,rfl⟩
  .have hg:u<n+p:=by omega
   obtain⟨f2,h2x,YW,tI⟩:=W.exact;have gA:∃(M':Mem) (f0:Nat->Nat->ah),aF (σ.map λ_=>.dead) {s with M:=M'}/\(∀q o v,s.M q o=aa v->M' q o=aa v)/\Rd M' (.slice a n u) (.sl ae g.size n (Jp g.size f0))/\(∀{es},fg {s with M:=M'} es->fg s es) /\
     (∀i,i<n->(es i).length=g.size)/\∀i,i<n->∀j c,(es i)[j]?=aa c->Rd s.M (f0 i j) c:=by
    by_cases G:0<u
    .obtain⟨b,vs,zs,rfl,rfl,hw,I,hF,hM⟩:=row G;obtain⟨c1,c2⟩:=r.Ab (b:=b) (vs:=vs) hM (λo v ho=>by
      simp only[aV,hw]
      grind)
     have U:∀i,i<n->∀j c,(es i)[j]?=aa c->vs[i*g.size+j]?=aa (vs.getD (i*g.size+j) ai)/\Rd s.M (vs.getD (i*g.size+j) ai) c:=by intro i hi j c F;obtain⟨v,v1,v2⟩:=hF.rd i hi j c F;grind
     have Ur:∀i,i<n->∀j,j<g.size->∃c,(es i)[j]?=aa c:=λi hi j F=>⟨_,br (by rw[hF.width i hi];exact F)⟩
     refine⟨_,λi j=>vs.getD (i*g.size+j) ai,c1,c2,.sl b 0 (λi j=>vs.getD (i*g.size+j) ai) N Q (by simp) (λi _=>by simp[Jp]) (λ_=>rfl) (λi hi j c F=>?_) (λi hi j c F=>?_),λhe=>?_,hF.width,λi hi j c F=>(U i hi j c F).2⟩
     .obtain⟨e1,_⟩:=qv F;grind
     .obtain⟨e1,rfl⟩:=qv F;obtain⟨c',e2⟩:=Ur i hi j e1;exact .val (U i hi j c' e2).2.cell
     .exact he.wu (b:=b) UM (by simp) c2 λq o v hv=>by grind
    .have e1:u=0:=by omega
     have e2:n=0:=by omega
     subst e1 e2;have B:=r.lW;exact⟨s.M,λ_ _=>ai,⟨B.mem,B.len,B.box,B.eO,B.lt,B.own⟩,λ_ _ _ h=>h,Rd.jY,λh=>h,λi hi=>by omega,λi hi=>by omega⟩
   obtain⟨M',f0,c1,c2,hR,XA,hw0,hr0⟩:=gA;have Yh:Rd ({s with M:=M'}:St).M (ρ y) (.sl tx g.size p (Jp g.size f2)):=h2x.mono c2;obtain⟨Y,zs,H,NT,Xx,Xy,hlen,m⟩:=iG (P:=P) (s:={s with M:=M'}) (ty:=o.type) hi hd z A h.elem c1 hR Yh hg K h.bytes;have JE:=jf (P:=P) (s:={s with M:=M'}) (ty:=o.type) hi hd z A h.elem c1 hR Yh hg K h.bytes;have hFs:Flat s.M g.size (n+p) (cK n es es') Y:=by
    refine⟨NT.len,λi hi=>?_,λi hi j c F=>?_⟩
    .by_cases e:i<n
     .simp only[cK,e,cq];grind
     .simp only[cK,e,ck];grind
    .by_cases e:i<n
     .simp only[cK,e,cq]at F;have Z:j<g.size:=by grind
      obtain⟨v,v1,v2⟩:=NT.rd i hi j (.val (f0 i j)) (by simp only[cK,e,cq];exact Ej Z);grind[Rd.en]
     .simp only[cK,e,ck]at F;have Z:j<g.size:=by grind
      obtain⟨v,v1,v2⟩:=NT.rd i hi j (.val (f2 (i-n) j)) (by simp only[cK,e,ck];exact Ej Z);grind[Rd.en]
   have nM:∀o,s.M s.w.heap.size o=af:=λo=>by
    cases hm:s.M s.w.heap.size o with
    |none=>rfl
    |some v=>have:=r.block hm;omega
   obtain⟨t1,UO⟩:=r.gJ (M':=s.M) (w':=s.w.drew.alloc (.cells (Y++zs).toArray E)) (B':=.buf E g.size (n+p) (cK n es es')) (L':=⟨.slice (aa ⟨s.w.heap.size,0,af⟩) 0 H,[s.w.heap.size]⟩) hl hL
    ⟨λe=>absurd e (by omega),by omega⟩ (by simp) (λb K _=>cR s.w.drew _ K) (λ_ _ _ _=>rfl) (λ_ _ _ h=>h) (λb o v hm=>by
     have tN:=r.block hm;rw[<-r.mem b o v hm];simp only[aV];rw[cR s.w.drew _ tN];rfl) (λb K=>by simp at K;subst K;exact⟨.inr (bc _),by simp⟩) rfl rfl rfl (.inr ⟨s.w.heap.size,H,Y,zs,rfl,dT s.w.drew _,hlen,Xx,Xy,hFs,nM⟩)
   refine⟨.value (.slice (aa ⟨s.w.heap.size,0,af⟩) (n+p) H),_,?_,?_,t1,UO,eU (XA JE)⟩
   .simp only at m;simp[m]
   .exact AU (E:=E) (by rw[gn J]) (by simp only;rw[gn S]) rfl Xx Xy λ_=>⟨_,rfl,rfl⟩
def bM.On{P:ar}{o:au}{d:aq->D}{σ:List aR}{x y:aq}{E:aj}{a:TI}(h:lL P o x y E a){l n b:Nat}{tx:Bool}{es es':Nat->List C}(c:d x=.e (.one (.bp l (.sl n a.size 0 n))))(hl:σ[l]?=aa (.buf E a.size n es))(g:∀s v,dt σ s v (d y)->Rd s.M v (.sl tx a.size b es'))(f:(n+b)*a.bytes<=140737488355328):
  bM P o d σ (.e (.one (.bp l (.sl (n+b) a.size 0 (n+b))))) (σ.set l (.buf E a.size (n+b) (cK n es es'))) :=
 λs i hh hr=>sv h hh (by have:=hr x;rw[c]at this;exact this) hl (g s _ (hr y)) f
section
variable {P:ar}{T:List (Nat×TI)}{o:au}{d:aq->D}{σ:List aR}
def bM.YF(hT:cW P T){x:aq}{b:Array aj}{t:aj}(h:o.op=.call {callee:=.builtin .len,args:=#[x],argTypes:=b})(k:b[0]?=aa t){i:TI}{E:aj}(hi:bG T t=aa i)(l:i.desc=.slice E){a:Option Addr}{n cap:Nat}(j:d x=.e (.one (.c (.val (.slice a n cap)))))(p:n<=9223372036854775807):bM P o d σ (.e (.one (.c (.int .i64 n)))) σ:=by
 refine .quiet λs m hh hr=>?_;have h1:=hr x;rw[j]at h1;have g:=Rd.en (e9 h1);have f:=(hT t i hi).run_underlying (w:=s.w);rw[l]at f;refine⟨.int .i64 n,?_,Rd.int (by simp only[bD];omega),?_⟩<;>
 simp[aw,h,resolve,invoke,builtin,Builtin.len_,g,f,goInt,k]
theorem bM.Cp(hT:cW P T){t:aj}{x y:aq}(h:o.op=.indexAddr t x y){i f:TI}{E:aj}(hi:bG T t=aa i)(u:i.desc=.slice E)(v:bG T E=aa f){b off n cap:Nat}{j:Int}{kk:IntKind}(q:d x=.e (.one (.c (.val (.slice (aa ⟨b,off,af⟩) n cap)))))(z:d y=.e (.one (.c (.int kk j))))(A:0<=j)(h1:j<n):bM P o d σ (.e (.one (.c (.val (.pointer (aa ⟨b,off+j.toNat*f.size,af⟩)))))) σ:=by
 refine .quiet λs r hh hr=>?_;have a:=hr x;rw[q]at a;have p:=Rd.en (e9 a);have h2:=hr y;rw[z]at h2;replace h2:=e9 h2;generalize k:r y=vy at h2;cases h2;have m:=(hT t i hi).run_underlying (w:=s.w);rw[u]at m;obtain⟨g,rfl⟩:∃g:Nat,j=g:=⟨j.toNat,by omega⟩
 have l:g<n:=by omega
 refine⟨.pointer (aa ⟨b,off+g*f.size,af⟩),?_,Rd.val rfl,?_⟩<;>
 simp[aw,h,p,k,Instr.indexAt,asIntOf,m,(hT E f v).run_sizeOf,du,l]
def bM.Sb(hT:cW P T){t:aj}{x:aq}{f:Nat}(h:o.op=.fieldAddr t x f){b off k:Nat}{j:TI}(i:d x=.e (.one (.c (.val (.pointer (aa ⟨b,off,af⟩))))))(a:j5 T t f=aa (k,j)):bM P o d σ (.e (.one (.c (.val (.pointer (aa ⟨b,off+k,af⟩)))))) σ:=by refine .quiet λs l hh hr=>?_;have h1:=hr x;rw[i]at h1;have g:=Rd.en (e9 h1);exact⟨.pointer (aa ⟨b,off+k,af⟩),by simp[aw,h,g,mY hT a],Rd.val rfl,by simp[aw,h,g,oJ hT a]⟩
def bM.slice3(hT:cW P T){t:aj}{x y z:aq}(h:o.op=.slice t x af (aa y) (aa z)){i I:TI}{E:aj}(G:bG T t=aa i)(Q:i.desc=.slice E)(N:bG T E=aa I){tt:Bool}{k n:Nat}{es:Nat->List C}{r u:IntKind}{j m:Int}(O:∀s v,dt σ s v (d x)->Rd s.M v (.sl tt k n es))(V:d y=.e (.one (.c (.int r j))))(S:d z=.e (.one (.c (.int u m))))(H:0<=j)(h1:j<=m)(h2:m<=n):bM P o d σ (.e (.one (.c (.sl ae k j.toNat es)))) σ:=by
 refine .quiet λst ρ hh hr=>?_;have q:=O st _ (hr x);have p:=hr y;rw[V]at p;replace p:=e9 p;generalize A:ρ y=vy at p;cases p;have g:=hr z;rw[S]at g;replace g:=e9 g;generalize B:ρ z=vz at g;cases g;obtain⟨a,cap,vs,F,J,U,X,W,Y⟩:=q.flat;rw[F]at q;have l:=(hT t i G).run_underlying (w:=st.w);rw[Q]at l;have em:((m.toNat:Nat):Int)=m:=se (by omega);have L:(bd ab n cap af (aa (.int r j)) (aa (.int u m))).run P st.w=.ok (0,j.toNat,m.toNat) st.w:=by simp[bd,run_sliceBound (P:=P) st.w u m cap _ (by omega) (by omega),run_sliceBound (P:=P) st.w r j m.toNat _ H (by omega)]
 have R:(bd ab n cap af (aa (.int r j)) (aa (.int u m))).events P st.w #[]=#[]:=by simp[bd,run_sliceBound (P:=P) st.w u m cap _ (by omega) (by omega),run_sliceBound (P:=P) st.w r j m.toNat _ H (by omega),dO (P:=P) st.w u m cap _ (by omega) (by omega),dO (P:=P) st.w r j m.toNat _ H (by omega)]
 refine⟨.slice a j.toNat m.toNat,?_,?_,by simp[aw,h,F,A,B,Instr.sliceAt,l,Instr.slice,L,R]⟩
 .simp[aw,h,F,A,B,Instr.sliceAt,l,Instr.slice,L,(hT E I N).run_sizeOf];intro _;rcases a with _|⟨b,off,sp⟩<;>simp[Addr.add]
 .cases q with
  |sl b off f _ _ _ hk ha hm' NG =>
   exact Rd.sl b off f (by omega) (by omega) (by simp) (λi hi=>hk i (by omega)) (λK=>ha (by omega)) (λi hi j c hj=>hm' i (by omega) j c hj) (λi hi j c hj=>NG i (by omega) j c hj)
end
structure Jq(N:Nat)(σ:List aR)(s:St)(V:Nat->D)(a:Act):Prop where
 size:a.tmps.size=N
 defers:∃ls,pe σ s a.defers ls
 slot:∀t,dt σ s (a.tmps.getD t ai) (V t)
def Jq.JX{N:Nat}{σ:List aR}{s:St}{V:Nat->D}{φ:Fr}{a:Act}(f:Jq N σ s V a)(h:∀t σ s v,dt σ s v (V t)->dt σ s v (look φ t)):cu N σ s φ a :=
 ⟨f.size,f.defers,λt=>h t _ _ _ (f.slot t)⟩
def dr(e:Edge):Bool:=Region.binds .any e
structure wN{P:ar}(X:Cx P)(N:Nat)(ops:Array au)(φ:Fr)(S:Nat->List aR)(x:Nat->D)(p:Nat->Fr)(free c:Nat->Bool)(m:Nat->Nat->Prop)(idx:Nat->Option Nat)(φ':Fr):Prop where
 jk:P.follows Departure.mixedOrders=ab
 back:∀i o,ops[i]?=aa o->∀e∈o.after,dr e=ab->e.on<i
 JY:∀i o d,ops[i]?=aa o->o.dst=aa d->idx d=aa i/\d<N
 yz:∀d i,idx d=aa i->∃o,ops[i]?=aa o/\o.dst=aa d
 quiet:∀i,c i=ae->S (i+1)=S i
 one:∀i o,ops[i]?=aa o->free i=ae->OA X N ops.toList o (p i) (S i) (x i) (S (i+1))
 all:∀i o,ops[i]?=aa o->free i=ab->c i=ae/\∀k,OA X N ops.toList o (p i) (S k) (x i) (S k)
 cl:∀L:Nat->Prop,(∀i o,ops[i]?=aa o->L i->∀e∈o.after,dr e=ab->L e.on)->∀i j,m i j->(L i->L j)/\∃o,ops[i]?=aa o/\((∀e∈o.after,dr e=ab->L e.on)->L j)
 comp:∀i f,i<ops.size->f<ops.size->c f=ab->i≠f->free i=ae->(f<i/\m i f)∨(i<f/\m f i)
 Uu:∀i o,ops[i]?=aa o->∀t σ s v,dt σ s v (match idx t with|some j=>(if ∃e∈o.after,dr e=ab/\e.on=j then x j else if ∃oj,ops[j]?=aa oj/\∃e∈oj.after,dr e=ab/\e.on=i then look φ t else .any)|none=>look φ t)->dt σ s v (look (p i) t)
 fin:∀t σ s v,dt σ s v (match idx t with|some j=>x j|none=>look φ t)->dt σ s v (look φ' t)
open Classical in
noncomputable def gz(φ:Fr)(x:Nat->D)(idx:Nat->Option Nat)(L:Array Bool)(t:Nat):D :=
 match idx t with
 |some j=>if L.getD j ae=ab then x j else look φ t
 |none=>look φ t
theorem mem_ready{ops:Array au}{L:Array Bool}{i:Nat}:i∈ba .any ops L↔∃o,ops[i]?=aa o/\L.getD i ab=ae/\∀e∈o.after,dr e=ab->L.getD e.on ae=ab:=by
 unfold ba;simp only[jS,mM,bR,jQ];constructor
 .rintro⟨a,g,b⟩;rw[gm a]at b;simp only[lS,ij,Array.all_eq_true',jU,jQ]at b;refine⟨ops[i],gm a,g,λe j f=>?_⟩;rcases b e j with h|h
  .unfold dr at f;grind
  grind
 .rintro⟨o,a,g,b⟩;have d:i<ops.size:=(iA.1 a).1;refine⟨d,g,?_⟩;rw[a];simp only[lS,ij,Array.all_eq_true',jU,jQ];intro e j;cases f:Region.binds .any e with
  |false=>grind
  |true=>exact .inr (b e j f)
section
variable {P:ar}{X:Cx P}{N:Nat}{ops:Array au}{φ φ':Fr}{S:Nat->List aR}{x:Nat->D}{p:Nat->Fr}{free c:Nat->Bool}{m:Nat->Nat->Prop}{idx:Nat->Option Nat}
def wN.chain(h:wN X N ops φ S x p free c m idx φ'){i:Nat}:∀{k:Nat},i<=k->(∀g,i<=g->g<k->c g=ae)->S k=S i
 |0,hk,_=>by grind
 |k+1,hk,a=>by
  rcases cM k i with hl|hl
  .grind
  .rw[h.quiet k (a k hl (by omega)),h.chain (k:=k) hl (λg h1 h2=>a g h1 (by omega))]
def wN.last(h:wN X N ops φ S x p free c m idx φ'){L:Array Bool}(l:∀i,i<ops.size->L.getD i ae=ab){k:Nat}{s0 s:St}{a:Act}(hk:k<=ops.size)(n:∀f,f<ops.size->c f=ab->(L.getD f ae=ab↔f<k))(b:Jq N (S k) s (gz φ x idx L) a)(hh:aF (S k) s)(st:cY (S 0) s0 (S k) s):
  cu N (S ops.size) s φ' a/\aF (S ops.size) s/\cY (S 0) s0 (S ops.size) s:=by
 have d:S ops.size=S k:=h.chain hk (λg h1 h2=>by grind)
 rw[<-d]at b hh st;refine⟨b.JX λt σ s v e=>h.fin t σ s v ?_,hh,st⟩;unfold gz at e;cases hi:idx t with
 |none=>grind
 |some j =>
  simp only[hi]at e⊢;obtain⟨o,q,_⟩:=h.yz _ _ hi;grind
theorem eW{L:Array Bool}{i j:Nat}(hi:i<L.size):(L.setIfInBounds i ab).getD j ae=ab↔j=i∨L.getD j ae=ab:=by simp only[dZ];grind
theorem count_set:∀{l:List Bool}{i:Nat},l[i]?=aa ae->((l.set i ab).filter (λb=>!b)).length+1=(l.filter (λb=>!b)).length
 |[],_,h=>by grind
 |b::r,0,h=>by grind
 |b::r,i+1,h=>by simp at h;have:=count_set (l:=r) h;cases b<;>simp[List.set_cons_succ]<;>omega
theorem wO(t:Nat)(L:Array Bool):Region.linearise.go .any ops 0 t L []=[]:=by simp[Region.linearise.go]
theorem pD(n t:Nat)(L:Array Bool):Region.linearise.go .any ops (n+1) t L []=match(ba .any ops L)[t % (ba .any ops L).length]? with
  |some i=>i::Region.linearise.go .any ops n (t / (ba .any ops L).length) (L.setIfInBounds i ab) []
  |none=>[]:=by
 simp only[Region.linearise.go]
 change (match(ba .any ops L)[t % (ba .any ops L).length]? with
   |some i=>Region.linearise.go .any ops n (t / (ba .any ops L).length) (L.setIfInBounds i ab) [i]
   |none=>[].reverse)=_
 grind[linearise_go_acc]
def wN.arr(h:wN X N ops φ S x p free c m idx φ'){U:av->St->Prop}{b:aU}{kk:List Item}{cs:List aU}(hb:b.kind≠.early){s0:St}(hQ:∀s a,cu N (S ops.size) s φ' a->aF (S ops.size) s->cY (S 0) s0 (S ops.size) s->fL X U (G (b.aT a kk) cs) s):
  ∀(l:Nat) (L:Array Bool),L.size=ops.size->(L.toList.filter (λb=>!b)).length<=l ->
   (∀i o,ops[i]?=aa o->L.getD i ae=ab->∀e∈o.after,dr e=ab->L.getD e.on ae=ab) ->
   ∀(k:Nat) (s:St) (a:Act),k<=ops.size->(∀f,f<ops.size->c f=ab->(L.getD f ae=ab↔f<k))->Jq N (S k) s (gz φ x idx L) a->aF (S k) s->cY (S 0) s0 (S k) s ->
   ∀t,fL X U (G (b.aT a (.inRegion ops (Region.linearise.go .any ops l t L [])::kk)) cs) s:=by
 have fin:∀(s:St) (a:Act),cu N (S ops.size) s φ' a->aF (S ops.size) s->cY (S 0) s0 (S ops.size) s->fL X U (G (b.aT a (.inRegion ops []::kk)) cs) s :=
  λs a a1 a2 a3=>.ctl a2 rfl (λ_=>jg) λs1 J=>hQ s1 a (a1.rely J a2) (a2.rely J) (a3.trans J.stepW)
 intro l;induction l with
 |zero =>
  intro L hs hf T k s a hk XE yW hh st;have A:∀i,i<ops.size->L.getD i ae=ab:=by
   intro i hi;have hm:L[i]'(by omega)∈L.toList:=by simp
   cases hb:L[i]'(by omega)with
   |true=>simp[dZ,gm (by omega:i<L.size),hb]
   |false =>
    have:L[i]'(by omega)∈L.toList.filter (λb=>!b):=jS.2 ⟨hm,by grind⟩;grind
  intro t;rw[wO];obtain⟨a1,a2,a3⟩:=h.last A hk XE yW hh st;grind
 |succ l ih =>
  intro L hs hf T k s a hk XE yW hh st;intro t;rw[pD];cases V:(ba .any ops L)[t % (ba .any ops L).length]? with
  |none =>
   have hr:ba .any ops L=[]:=by
    cases hr:ba .any ops L with
    |nil=>rfl
    |cons y ys =>
     grind[Nat.mod_lt]
   have A:∀i,i<ops.size->L.getD i ae=ab:=by
    intro i;induction i using Nat.strongRecOn with
    |_ i ihi =>
     intro hi;cases hb:L.getD i ae with
     |true=>rfl
     |false =>
      have hm:i∈ba .any ops L:=mem_ready.2 ⟨ops[i],gm hi,by
       grind,λe R hbe=>by
       have:=h.back i _ (gm hi) e R hbe
       grind⟩
      grind
   obtain⟨a1,a2,a3⟩:=h.last A hk XE yW hh st;grind
  |some i =>
   have hi:=bP V;obtain⟨o,Z,Yj,RX⟩:=mem_ready.1 hi;have O:i<ops.size:=(iA.1 Z).1;have I:¬L.getD i ae=ab:=by grind
   have Yk:=h.cl (λj=>L.getD j ae=ab) T;have aaD:∀g,m g i->¬L.getD g ae=ab:=λg hg hL=>I ((Yk g i hg).1 hL);have hup:∀g,m i g->L.getD g ae=ab:=λg hg=>by grind
   have C:(L.setIfInBounds i ab).size=ops.size:=by grind
   have B:((L.setIfInBounds i ab).toList.filter (λb=>!b)).length<=l:=by
    have h1:L.toList[i]?=aa ae:=by rw[zZ,gm (by omega:i<L.size)];simpa[dZ,gm (by omega:i<L.size)]using I
    grind[count_set]
   have Yl:∀j o',ops[j]?=aa o'->(L.setIfInBounds i ab).getD j ae=ab->∀e∈o'.after,dr e=ab->(L.setIfInBounds i ab).getD e.on ae=ab:=by grind[eW]
   have hfi:cu N (S k) s (p i) a:=yW.JX λt σ s v Q=>h.Uu i o Z t σ s v (by
    unfold gz at Q;cases r:idx t with
    |none=>grind
    |some j =>
     simp only[r]at Q⊢;split
     .grind
     .split
      .grind
      .trivial)
   have K:∀(σ':List aR) (s':St) (v:ah),cY (S k) s σ' s'->dt σ' s' v (x i)->Jq N σ' s' (gz φ x idx (L.setIfInBounds i ab)) (a.put o.dst v):=by
    intro σ' s' v q Q;cases hd:o.dst with
    |none =>
     refine⟨yW.size,yW.defers.imp λ_ h1=>h1.mono q.ext,λt=>?_⟩;have w:=(yW.slot t).mono q.ext hh.len;simp only[Act.put];unfold gz at w⊢;cases r:idx t with
     |none=>grind
     |some j =>
      simp only[r]at w⊢;obtain⟨oj,Ym,Yn⟩:=h.yz _ _ r;grind[eW]
    |some d =>
     obtain⟨hid,hdN⟩:=h.JY i o d Z hd;refine⟨by simp[Act.put,yW.size],yW.defers.imp λ_ h1=>h1.mono q.ext,λt=>?_⟩;simp only[Act.put];by_cases e:d=t
     .subst e;have hs2:d<a.tmps.size:=by rw[yW.size];exact hdN
      simp only[dZ,wo hs2,ij];unfold gz;simp only[hid];rw[bl ((eW (by omega)).2 (.inl rfl))];exact Q
     .have w:=(yW.slot t).mono q.ext hh.len;simp only[dZ]at w⊢;rw[wq e];unfold gz at w⊢;cases r:idx t with
      |none=>grind
      |some j =>
       simp only[r]at w⊢;obtain⟨oj,Ym,Yn⟩:=h.yz _ _ r;grind[eW]
   have z:∀(k':Nat),k'<=ops.size->OA X N ops.toList o (p i) (S k) (x i) (S k')->(∀f,f<ops.size->c f=ab->((L.setIfInBounds i ab).getD f ae=ab↔f<k')) ->
     fL X U (G (b.aT a (.inRegion ops (i::Region.linearise.go .any ops l (t / (ba .any ops L).length) (L.setIfInBounds i ab) [])::kk)) cs) s:=by intro k' U3 hoa Yo;have:=hoa s a hfi hh b kk cs U i (Region.linearise.go .any ops l (t / (ba .any ops L).length) (L.setIfInBounds i ab) []) hb (by grind);simp only[pr]at this;exact this λv s' Q jh q=>ih _ C B Yl k' s' _ U3 Yo (K _ _ _ q Q) jh (st.trans q) _
   have same:c i=ae->∀f,f<ops.size->c f=ab->((L.setIfInBounds i ab).getD f ae=ab↔f<k):=by grind[eW]
   cases n:free i with
   |true =>
    obtain⟨hq,W⟩:=h.all i o Z n;exact z k hk (W k) (same hq)
   |false =>
    have u:=h.one i o Z n;have E:S i=S k:=by
     rcases Nat.le_total k i with M|M
     .refine h.chain M λg h1 h2=>?_;cases R:c g with
      |false=>rfl
      |true =>
       exfalso;rcases h.comp i g O (by omega) R (by omega) n with⟨_,Y⟩|⟨Y,_⟩
       .grind
       .omega
     .refine(h.chain M λg h1 h2=>?_).symm;cases R:c g with
      |false=>rfl
      |true =>
       exfalso;have hLg:=(XE g (by omega) R).2 h2;by_cases RY:g=i
       .grind
       .rcases h.comp i g O (by omega) R (λe=>RY e.symm) n with⟨Y,_⟩|⟨_,Y⟩
        .omega
        grind
    rw[E]at u;cases H:c i with
    |false =>
     rw[h.quiet i H,E]at u;exact z k hk u (same H)
    |true =>
     refine z (i+1) (by omega) u λf Uv XF=>?_;rw[eW (by omega)];by_cases F:f=i
     .grind
     .simp only[F,false_or];rcases h.comp i f O Uv XF (λe=>F e.symm) n with⟨h1,Y⟩|⟨h1,Y⟩
      .grind
      grind
end
def B7(op:BinOp)(k:IntKind)(a:Int)(k':IntKind)(b:Int):Option (Int×List Prop) :=
 match k with
 |.u64=>match op with
  |.shl=>aa (((a.toNat*2 ^ b.toNat % 18446744073709551616:Nat):Int),[0<=b,b<=64])
  |.shr=>aa (((a.toNat / 2 ^ b.toNat:Nat):Int),[0<=b,b<=64])
  |.and=>match k' with|.u64=>aa (((a.toNat &&& b.toNat:Nat):Int),[])|_=>af
  |.xor=>match k' with|.u64=>aa (((a.toNat ^^^ b.toNat:Nat):Int),[])|_=>af
  |_=>af
 |_=>af
section
variable {P:ar}{T:List (Nat×TI)}{o:au}{d:aq->D}{σ:List aR}
theorem bits_nat{a:Int}(h:bD .u64 a):(BitVec.ofInt IntKind.u64.bits a).toNat=a.toNat:=by rw[BitVec.toNat_ofInt];simp only[bD]at h;simp only[IntKind.bits];omega
def HO{op:BinOp}{k k':IntKind}{a b c:Int}{obs:List Prop}(t:aj)(g:B7 op k a k' b=aa (c,obs))(j:az obs)(h:bD k a)(n:bD k' b)(w:aA):
  bD k c/\(Go.binOp op t (.int k a) (.int k' b)).run P w=.ok (.int k c) w/\(Go.binOp op t (.int k a) (.int k' b)).events P w #[]=#[]:=by
 unfold B7 at g;split at g
 .split at g
  .cases g;obtain⟨r,l⟩:0<=b/\b<=64:=j;have s:a.toNat*2 ^ b.toNat % 18446744073709551616<18446744073709551616:=iS _ (by decide);simp only[bD]at h;refine⟨by simp only[bD];omega,?_⟩;have i:IntKind.wrap .u64 (a*2 ^ (min b.toNat IntKind.u64.bits))=((a.toNat*2 ^ b.toNat % 18446744073709551616:Nat):Int):=by
    have m:min b.toNat IntKind.u64.bits=b.toNat:=by rw[show IntKind.u64.bits=64 from rfl];omega
    have q:a=(a.toNat:Int):=by omega
    rw[m,q];simp only[IntKind.wrap,IntKind.bits,IntKind.signed,cf];grind
   simp only[Go.binOp,Op.shift,aY (show¬b<0 by omega),i];exact⟨rfl,rfl⟩
  .cases g;obtain⟨r,l⟩:0<=b/\b<=64:=j;simp only[bD]at h;have p:a.toNat / 2 ^ b.toNat<=a.toNat:=Nat.div_le_self _ _;refine⟨by simp only[bD];grind,?_⟩;have i:a.fdiv (2 ^ (min b.toNat IntKind.u64.bits))=((a.toNat / 2 ^ b.toNat:Nat):Int):=by
    have m:min b.toNat IntKind.u64.bits=b.toNat:=by rw[show IntKind.u64.bits=64 from rfl];omega
    grind
   simp only[Go.binOp,Op.shift,aY (show¬b<0 by omega),i];exact⟨rfl,rfl⟩
  .split at g
   .cases g;have l:a.toNat &&& b.toNat<=a.toNat:=Nat.and_le_left;have f:bD .u64 ((a.toNat &&& b.toNat:Nat):Int):=by simp only[bD]at h⊢;omega
    refine⟨f,?_⟩;have e:(BitVec.ofInt IntKind.u64.bits a &&& BitVec.ofInt IntKind.u64.bits b).toNat=a.toNat &&& b.toNat:=by grind[bits_nat]
    simp only[Go.binOp,dy,ft,ck,Op.intBits,e,mQ f];exact⟨rfl,rfl⟩
   grind
  .split at g
   .cases g;have f:bD .u64 ((a.toNat ^^^ b.toNat:Nat):Int):=by simp only[bD]at h n⊢;have:a.toNat ^^^ b.toNat<2 ^ 64:=Nat.xor_lt_two_pow (by omega) (by omega);omega
    refine⟨f,?_⟩;have e:(BitVec.ofInt IntKind.u64.bits a ^^^ BitVec.ofInt IntKind.u64.bits b).toNat=a.toNat ^^^ b.toNat:=by grind[bits_nat]
    simp only[Go.binOp,dy,ft,ck,Op.intBits,e,mQ f];exact⟨rfl,rfl⟩
   grind
  grind
 grind
theorem bM.bits{op:BinOp}{t ty:aj}{x y:aq}{k k':IntKind}{a b c:Int}{obs:List Prop}(h:o.op=.binOp op t x y ty)(l:d x=.e (.one (.c (.int k a))))(q:d y=.e (.one (.c (.int k' b))))(r:B7 op k a k' b=aa (c,obs))(m:az obs):
  bM P o d σ (.e (.one (.c (.int k c)))) σ:=by
 refine .quiet λs i hh hr=>?_;have h1:=hr x;have h2:=hr y;rw[l]at h1;rw[q]at h2;replace h1:=e9 h1;replace h2:=e9 h2;generalize g:i x=vx at h1;generalize f:i y=vy at h2;cases h1 with|int ha =>
 cases h2 with|int hb =>
 obtain⟨n,j,p⟩:=HO (P:=P) t r m ha hb s.w;exact⟨.int k c,by simp only[aw,h,bT,g,f,gY,b5,j,dx],.int n,by simp[aw,h,g,f,gY,jZ,j,p]⟩
end
def Flat.UK{M:Mem}{k n q m:Nat}{es Aa:Nat->List C}{vs pb:List ah}(h:Flat M k n es vs)(b:Flat M k m Aa pb)(f:q+m<=n):
  Flat M k n (λi=>if q<=i/\i<q+m then Aa (i-q)else es i) (vs.take (q*k)++pb++vs.drop (q*k+pb.length)):=by
 have hl:=h.len;have l:=b.len;have t:q*k+m*k<=n*k:=by rw[<-iF];exact eP k f
 have s:(vs.take (q*k)).length=q*k:=by grind
 have a:∀p,(vs.take (q*k)++pb++vs.drop (q*k+pb.length))[p]?=if p<q*k then vs[p]? else if p<q*k+m*k then pb[p-q*k]? else vs[p]?:=by
  intro p;by_cases c1:p<q*k
  .grind
  .rw[aY c1];by_cases c2:p<q*k+m*k
   .grind
   .rw[aY c2,gk (by grind),pt];grind
 refine⟨by grind,λi hi=>?_,λi hi j c hj=>?_⟩
 .by_cases e:q<=i/\i<q+m
  .rw[bl e];exact b.width _ (by omega)
  .rw[aY e];exact h.width i hi
 .rw[a];by_cases e:q<=i/\i<q+m
  .rw[bl e]at hj;have g:j<k:=by have:=(b6.1 hj).1;rw[b.width _ (by omega)]at this;exact this
   have e1:q*k<=i*k:=eP k e.1;have e2:i*k+k<=q*k+m*k:=by rw[<-iF,<-lD];exact eP k e.2
   rw[aY (by omega),bl (by omega)];obtain⟨v,v1,r⟩:=b.rd (i-q) (by omega) j c hj;grind[Nat.sub_mul]
  .rw[aY e]at hj;have g:j<k:=by have:=(b6.1 hj).1;rw[h.width i hi]at this;exact this
   have:i*k+j<q*k∨q*k+m*k<=i*k+j:=by
    by_cases c1:i<q
    .left;have:i*k+k<=q*k:=by rw[<-lD];exact eP k c1
     omega
    .right;have:(q+m)*k<=i*k:=eP k (by omega);grind
   rcases this with c1|c1
   .rw[bl c1];exact h.rd i hi j _ hj
   .rw[aY (by omega),aY (by omega)];exact h.rd i hi j _ hj
def vJ{s:St}{E k k':Nat}{es Xr:Nat->List C}{v:ah}{σ':List aR}{β:List Loc}{l:Nat}(g:Rd s.M v (.sl ab k' 0 Xr))(e:σ'[l]?=aa (.buf E k 0 es))(c:β[l]?=aa ⟨.slice af 0 0,[]⟩):gB σ' {s with β:=β} v (.bp l (.sl 0 k 0 0)):=by obtain⟨a,cap,vs,f,_,_,b,_,_⟩:=g.flat;have:=b rfl;subst this;refine⟨.slice af 0 0,⟨a,af,0,0,f,by omega,rfl,by omega,rfl,λh=>absurd h (by omega)⟩,(b6.1 e).1,λE2 k2 n2 Aa h=>?_⟩;rw[e]at h;cases h;exact⟨bc _,λ_=>⟨_,c,rfl⟩⟩
def fg.UL{s:St}{β:List Loc}{v:ah}{es:Array Event}(h:fg {s with β:=β++[⟨v,[]⟩]} es)(a:s.β=β):fg s es:=by
 intro e c;have h1:=h e c;have key:∀b,(∃L∈β++[(⟨v,[]⟩:Loc)],b∈L.bs)->∃L∈s.β,b∈L.bs:=λb ⟨L,f,g⟩=>by grind
 unfold ox at h1⊢;grind
def bM.HJ{P:ar}{o:au}{d:aq->D}{σ:List aR}{x y:aq}{E:aj}{a:TI}(h:lL P o x y E a){k m:Nat}{tx:Bool}{es es':Nat->List C}(n:d x=.e (.one (.c (.sl ab k 0 es))))(z:∀s v,dt σ s v (d y)->Rd s.M v (.sl tx a.size m es'))(w:(0+m)*a.bytes<=140737488355328):
  bM P o d σ (.e (.one (.bp σ.length (.sl (0+m) a.size 0 (0+m))))) (σ++[.buf E a.size (0+m) (cK 0 es es')]):=by
 intro s q hh hr;have h1:=hr x;rw[n]at h1;have h2:=z s _ (hr y);obtain⟨p,u⟩:=hh.ik (B:=.buf E a.size 0 es) (L:=⟨.slice af 0 0,[]⟩) (.refl _ _) rfl hh (.inl ⟨rfl,rfl⟩) (by simp);have f:gB (σ++[.buf E a.size 0 es]) {s with β:=s.β++[⟨.slice af 0 0,[]⟩]} (q x) (.bp σ.length (.sl 0 a.size 0 0)):=vJ (E:=E) (es:=es) (e9 h1) (by simp) (by simp[<-hh.len]);obtain⟨A,s',r,j,i,g,t⟩:=sv (P:=P) (σ:=σ++[.buf E a.size 0 es]) (s:={s with β:=s.β++[⟨.slice af 0 0,[]⟩]}) (l:=σ.length) (es:=es) h p f (by simp) h2 w;have b:(σ++[aR.buf E a.size 0 es]).set σ.length (.buf E a.size (0+m) (cK 0 es es'))=σ++[.buf E a.size (0+m) (cK 0 es es')]:=by simp
 rw[b]at j i g;exact⟨A,s',r,j,i,u.trans g,t.UL rfl⟩
def HK(i j m:Nat)(es:Nat->List C):Nat->List C:=λq=>if i<=q/\q<i+m then es (j+(q-i))else es q
def bM.JD{P:ar}{o:au}{d:aq->D}{σ:List aR}{x y:aq}{E:aj}{f:TI}(h:lL P o x y E f){l n i j m:Nat}{es:Nat->List C}(hx:d x=.e (.one (.bp l (.sl n f.size 0 i))))(hy:d y=.e (.one (.bp l (.sl n f.size j m))))(hl:σ[l]?=aa (.buf E f.size n es))(him:i+m<=n)(hjm:j+m<=n):
  bM P o d σ (.e (.one (.bp l (.sl n f.size 0 (i+m))))) (σ.set l (.buf E f.size n (HK i j m es))):=by
 intro s ρ hh hr;obtain⟨t,t2,ti,ti2,ho,hi,hd,R,S⟩:=h.op;have h1:=hr x;rw[hx]at h1;change gB σ s (ρ x) (.bp l _)at h1;have h2:=hr y;rw[hy]at h2;change gB σ s (ρ y) (.bp l _)at h2;obtain⟨lv,⟨a,a0,cap,H,hv,Q,Up,X5,HL,X6⟩,_,Xs⟩:=h1;obtain⟨L,hL,Z⟩:=(Xs _ _ _ _ hl).2 rfl;rw[HL]at Z;obtain⟨lv',⟨a',a0',k,c0',Xt,X7,ab0,ab1,X8,ab2⟩,_,X9⟩:=h2;obtain⟨L',fA,K⟩:=(X9 _ _ _ _ hl).2 rfl;rw[hL]at fA;cases fA;rw[X8,Z]at K;cases K;have UM:=bP hL;have hu:=hi.run_underlying (w:=s.w);have W:=R.run_underlying (w:=s.w);rw[hd]at hu;rw[S]at W;rw[dn ho,hv,Xt];by_cases hn0:n=0
 .have e1:i=0:=by omega
  have e2:m=0:=by omega
  subst hn0 e1 e2;have RE:σ.set l (.buf E f.size 0 (HK 0 j 0 es))=σ:=by
   have:HK 0 j 0 es=es:=by funext q;simp only[HK];grind
   rw[this];apply iY;grind
  have hz:Rd s.M (.slice a' 0 k) (.sl ae f.size 0 λ_=>[]):=.sl 0 0 (λ_ _=>ai) (by omega) (by omega) (by simp) (λi hi=>by omega) (λh=>by omega) (λi hi=>by omega) (λi hi=>by omega);have N:=jo (P:=P) (ty:=o.type) hi hd R S h.elem hh (a:=a) Q hz;rw[RE];refine⟨.value (.slice a 0 cap),s,?_,?_,hh,.refl _ _,eU (jW hi hd R S h.elem hh Q hz)⟩
  .simp[N]
  .exact⟨lv,⟨a,a0,cap,H,rfl,Q,Up,X5,HL,X6⟩,(b6.1 hl).1,Xs⟩
 rcases hh.box l _ L hl hL with⟨e,_⟩|⟨b,c1,vs,V,rfl,r,hz1,hz2,hz3,Y,hM⟩
 .grind
 cases Z;have X:0<cap:=by omega
 obtain⟨b1,e1,rfl⟩:=X6 X;cases e1;have Qw:H=cap:=by omega
 subst Qw;rw[show b=b from rfl];have Qx:vs.length=n*f.size:=Y.len;have u:i+m<=H:=by omega
 have hik:i*f.size+m*f.size<=n*f.size:=by rw[<-iF];exact eP _ him
 have hjk:j*f.size+m*f.size<=n*f.size:=by rw[<-iF];exact eP _ hjm
 obtain⟨c1,c2⟩:=hh.Ab (b:=b) (vs:=vs) hM (λq v O=>by
  simp only[aV,r]
  grind)
 let g:=(vs.drop (j*f.size)).take (m*f.size);have Uq:g.length=m*f.size:=by grind
 have hng:∀p,p<m*f.size->g[p]?=vs[j*f.size+p]?:=λp G=>by grind
 have NB:Flat s.M f.size m (λq=>es (j+q)) g:=by
  refine⟨Uq,λq O=>Y.width _ (by omega),λq O p c G=>?_⟩;have hpk:p<f.size:=by have:=(b6.1 G).1;rw[Y.width _ (by omega)]at this;exact this
  obtain⟨v,v1,v2⟩:=Y.rd (j+q) (by omega) p c G;refine⟨v,?_,v2⟩;have hq2:q*f.size+f.size<=m*f.size:=by rw[<-lD];exact eP _ O
  grind
 have z:∀v∈g,v.oneCell'=ab:=NB.cell;have Xu:Rd (λA q=>if A=b then vs[q]? else s.M A q) (.slice a' m k) (.sl ae f.size m (Jp f.size λq p=>vs.getD ((j+q)*f.size+p) ai)):=by
  refine .sl b (j*f.size) (λq p=>vs.getD ((j+q)*f.size+p) ai) X7 (by omega) (by simp) (λq _=>by simp[Jp]) (λG=>?_) (λq O p c G=>?_) (λq O p c G=>?_)
  .grind
  .obtain⟨p1,_⟩:=qv G;have hq2:q*f.size+f.size<=m*f.size:=by rw[<-lD];exact eP _ O
   grind
  .obtain⟨p1,rfl⟩:=qv G;obtain⟨c',Ya⟩:∃c',(es (j+q))[p]?=aa c':=⟨_,br (by rw[Y.width _ (by omega)];exact p1)⟩
   obtain⟨v,v1,v2⟩:=Y.rd (j+q) (by omega) p c' Ya;have e:vs.getD ((j+q)*f.size+p) ai=v:=by grind
   rw[e];exact .val v2.cell
 obtain⟨F,NT,hf,J⟩:=ek (P:=P) (s:={s with M:=λA q=>if A=b then vs[q]? else s.M A q}) c1 Xu;have hnn:F=g:=by
  apply iY;intro p;have Ed:F.length=m*f.size:=NT.len;by_cases G:p<m*f.size
  .have hk:0<f.size:=by grind
   have O:p / f.size<m:=qd (by grind);have UN:p / f.size*f.size+p % f.size=p:=qm p f.size;obtain⟨v,v1,v2⟩:=NT.rd _ O (p % f.size) _ (Ej (iS _ hk));rw[UN]at v1;rw[v1,hng p G,Rd.en v2];rw[iF,Nat.add_assoc,UN,ak,br (by omega)];rfl
  grind
 subst hnn;have JE:=ia (P:=P) (s:={s with M:=λA q=>if A=b then vs[q]? else s.M A q}) c1 Xu (w:=s.w) rfl;replace hf:(Builtin.firstCells f.size m (.slice a' m k)).run P s.w=.ok g.toArray s.w:=hf;have Yb:i*f.size+g.length<=(vs++V).length:=by grind
 have I:=run_storeCells_at P b (i*f.size) E g 0 (vs++V).toArray s.w r (by grind) z;simp only[iE]at I;have RF:((vs++V).toArray.toList.take (i*f.size)++g++(vs++V).toArray.toList.drop (i*f.size+g.length))=vs.take (i*f.size)++g++vs.drop (i*f.size+g.length)++V:=by grind
 rw[RF]at I;have q2:=Y.UK NB him;have he:(λq=>if i<=q/\q<i+m then(λq=>es (j+q)) (q-i)else es q)=HK i j m es:=rfl;rw[he]at q2;obtain⟨t1,UO⟩:=hh.dW hl hL hz1 hz2 hz3 r q2 (by grind) hM;have B:(Builtin.lenOf (.slice a' m k)).run P s.w=.ok m s.w:=by rw[J];rfl
 have UP:(Builtin.lenOf (.slice a' m k)).events P s.w #[]=#[]:=by rw[J];rfl
 refine⟨.value (.slice (aa ⟨b,0*f.size,af⟩) (i+m) H),_,?_,?_,t1,UO,eU ?_⟩
 .have N:(Builtin.append_ #[t,t2] o.type #[.slice (aa ⟨b,0*f.size,af⟩) i H,.slice a' m k]).run P s.w=.ok (.slice (aa ⟨b,0*f.size,af⟩) (i+m) H) (s.w.setRow b (vs.take (i*f.size)++g++vs.drop (i*f.size+g.length)++V).toArray):=by unfold Builtin.append_;simp only[iB,kB,oh,bT,hu,W,b5,h.elem.run_sizeOf,dx,jP,ck,B,u,cq,ow,hf,du,Nat.zero_mul,bF,I]
  grind[Go.Sem.run_bind,Go.Result.andThen_ok,Go.Sem.run_pure]
 .exact⟨.slice (aa ⟨b,0,af⟩) 0 H,⟨_,_,H,H,rfl,u,by omega,X5,rfl,λ_=>⟨b,rfl,rfl⟩⟩,by grind,λE2 k2 n2 Aa Xv=>by rw[gn (b6.1 hl).1]at Xv;cases Xv;exact⟨bc _,λ_=>⟨_,hL,rfl⟩⟩⟩
 .intro e U;unfold Builtin.append_ at U;simp only[iB,kB,oh,aM,bT,hu,W,aP,h.elem.run_sizeOf,dx,jP,ck,B,UP,u,cq,ow,hf,du,Nat.zero_mul,bF,I,
   su,Sem.events_ite,events_underlying,events_sizeOf,Sem.events_pure]at U
  rcases dN g 0 (vs++V).toArray s.w _ r (by grind) z e U with h3|⟨p,_,_,rfl⟩
  .have h4:fg {s with M:=λA q=>if A=b then vs[q]? else s.M A q} #[e]:=fg.one (tM (JE e h3))
   exact h4.wu (b:=b) UM (by simp) c2 (λA q v hv=>by grind) e (by simp)
  grind[jX]
section
variable {P:ar}{T:List (Nat×TI)}{o:au}{d:aq->D}{σ:List aR}
theorem bM.slice3B(hT:cW P T){t:aj}{x w y z:aq}(h:o.op=.slice t x (aa w) (aa y) (aa z)){I G:TI}{E:aj}(H:bG T t=aa I)(S:I.desc=.slice E)(Q:bG T E=aa G){l g k q n:Nat}{u v A:IntKind}{i j m:Int}(R:d x=.e (.one (.bp l (.sl g k q n))))(X:d w=.e (.one (.c (.int u i))))(Y:d y=.e (.one (.c (.int v j))))(V:d z=.e (.one (.c (.int A m))))(h0:0<=i)(h1:i<=j)(h2:j<=m)(h3:m<=n):bM P o d σ (.e (.one .any)) σ:=by
 refine .quiet λst ρ hh hr=>?_;have s:=hr x;rw[R]at s;change gB σ st (ρ x) (.bp l _)at s;obtain⟨lv,⟨a,a0,cap,Z,J,M,N,L,O,W⟩,_,_⟩:=s;have p:=hr w;rw[X]at p;replace p:=e9 p;generalize C:ρ w=vw at p;cases p;have r:=hr y;rw[Y]at r;replace r:=e9 r;generalize B:ρ y=vy at r;cases r;have b:=hr z;rw[V]at b;replace b:=e9 b;generalize F:ρ z=vz at b;cases b;have f:=(hT t I H).run_underlying (w:=st.w);rw[S]at f;have K:(bd ab n cap (aa (.int u i)) (aa (.int v j)) (aa (.int A m))).run P st.w=.ok (i.toNat,j.toNat,m.toNat) st.w:=by simp[bd,run_sliceBound (P:=P) st.w A m cap _ (by omega) (by omega),run_sliceBound (P:=P) st.w v j m.toNat _ (by omega) (by omega),run_sliceBound (P:=P) st.w u i j.toNat _ (by omega) (by omega)]
 have U:(bd ab n cap (aa (.int u i)) (aa (.int v j)) (aa (.int A m))).events P st.w #[]=#[]:=by
  simp[bd,run_sliceBound (P:=P) st.w A m cap _ (by omega) (by omega),run_sliceBound (P:=P) st.w v j m.toNat _ (by omega) (by omega),run_sliceBound (P:=P) st.w u i j.toNat _ (by omega) (by omega),
   dO (P:=P) st.w A m cap _ (by omega) (by omega),dO (P:=P) st.w v j m.toNat _ (by omega) (by omega),dO (P:=P) st.w u i j.toNat _ (by omega) (by omega)]
 refine⟨.slice (if m.toNat=i.toNat then a else a.map (·.add (i.toNat*G.size))) (j.toNat-i.toNat) (m.toNat-i.toNat),?_,rfl,by simp[aw,h,J,C,B,F,Instr.sliceAt,f,Instr.slice,K,U]⟩;simp[aw,h,J,C,B,F,Instr.sliceAt,f,Instr.slice,K,(hT E G Q).run_sizeOf]
end
section drop
variable {σ1 rest:List aR}{s:St}
def St.cut(s:St)(n:Nat):St:={s with β:=s.β.take n}
def gB.drop{v:ah}{a:A}(r:gB (σ1++rest) s v a)(d:HR σ1.length a=ab):gB σ1 (s.cut σ1.length) v a:=by
 have lt:∀{l:Nat},bA (l+1) σ1.length=ab->l<σ1.length:=λh=>db h;cases a with
 |c x=>exact r
 |any=>exact r
 |ptr l o =>
  have hl:=lt d;obtain⟨g,L,b,m,f⟩:=r;refine⟨λB p=>g B (by grind),L,b,?_,f⟩;simp only[St.cut,iX,hl,cq];exact m
 |ref l =>
  have hl:=lt d;obtain⟨g,L,m,f⟩:=r;refine⟨λB p=>g B (by grind),L,?_,f⟩;simp only[St.cut,iX,hl,cq];exact m
 |bp l w =>
  have hl:=lt d;obtain⟨lv,g,_,f⟩:=r;refine⟨lv,g,hl,λE k' n' es' p=>?_⟩;obtain⟨h1,h2⟩:=f E k' n' es' (by grind);refine⟨h1,λe=>?_⟩;obtain⟨L,j,i⟩:=h2 e;refine⟨L,?_,i⟩;simp only[St.cut,iX,hl,cq];exact j
 |vec l k n es =>
  have hl:=lt d;obtain⟨g,_,f⟩:=r;refine⟨g,hl,λE k' n' es' p=>?_⟩;obtain⟨h1,h2⟩:=f E k' n' es' (by grind);refine⟨h1,λe=>?_⟩;obtain⟨L,j,i⟩:=h2 e;refine⟨L,?_,i⟩;simp only[St.cut,iX,hl,cq];exact j
def ei.sQ:∀{vs:List ah}{cs:List A},ei (σ1++rest) s vs cs->Gs σ1.length cs=ab->ei σ1 (s.cut σ1.length) vs cs
 |[],[],_,_=>trivial
 |[],_::_,r,_=>r.elim
 |_::_,[],r,_=>r.elim
 |v::vs,c::cs,r,h=>by
  simp only[Gs]at h;cases a:HR σ1.length c with
  |false=>grind
  |true=>simp only[a]at h;exact⟨r.1.drop a,ei.sQ r.2 h⟩
def nC.sQ{v:ah}{e:E1}(r:nC (σ1++rest) s v e)(h:HS σ1.length e=ab):nC σ1 (s.cut σ1.length) v e:=by
 cases e with
 |one a=>exact gB.drop r h
 |agg cs=>obtain⟨vs,h1,h2⟩:=r;exact⟨vs,h1,ei.sQ h2 h⟩
def hY.sQ:∀{vs:List ah}{cs:List E1},hY (σ1++rest) s vs cs->yx σ1.length cs=ab->hY σ1 (s.cut σ1.length) vs cs
 |[],[],_,_=>trivial
 |[],_::_,r,_=>r.elim
 |_::_,[],r,_=>r.elim
 |v::vs,c::cs,r,h=>by
  simp only[yx]at h;cases a:HS σ1.length c with
  |false=>grind
  |true=>simp only[a]at h;exact⟨nC.sQ r.1 a,hY.sQ r.2 h⟩
def dt.drop{v:ah}{d:D}(r:dt (σ1++rest) s v d)(h:wD σ1.length d=ab):dt σ1 (s.cut σ1.length) v d:=by
 cases d with
 |e x=>exact nC.sQ r h
 |fa xs=>obtain⟨vs,h1,h2⟩:=r;exact⟨vs,h1,hY.sQ h2 h⟩
 |any=>trivial
def cY.drop{σ0:List aR}{s0:St}(st:cY σ0 s0 (σ1++rest) s)(c:σ0.length<=σ1.length):cY σ0 s0 σ1 (s.cut σ1.length):=by refine⟨st.size,st.fy,st.mem,st.je,λL a b e=>st.vK L (fM a) b e,?_,st.os,st.tape,st.output,st.own⟩;intro l B L hB a;obtain⟨B',L',h1,h2,d⟩:=st.box l B L hB a;have hl:l<σ1.length:=c7 (b6.1 hB).1 c;rw[jy hl]at h1;exact⟨B',L',h1,by simp only[St.cut,iX,hl,cq];exact h2,d⟩
def gB.sR{σ:List aR}{v:ah}{a:A}(hl:s.β.length=σ.length)(r:gB σ s v a):HR σ.length a=ab:=by
 have ok:∀{l:Nat},l<σ.length->bA (l+1) σ.length=ab:=λh=>r9 h;have lt:∀{l:Nat} {L:Loc},s.β[l]?=aa L->l<σ.length:=λh=>by grind
 cases a with
 |c x=>rfl
 |any=>rfl
 |ptr l o=>obtain⟨_,L,b,d,_⟩:=r;exact ok (lt d)
 |ref l=>obtain⟨_,L,d,_⟩:=r;exact ok (lt d)
 |bp l w=>obtain⟨lv,_,h,_⟩:=r;exact ok h
 |vec l k n es=>exact ok r.2.1
def ei.sR{σ:List aR}(hl:s.β.length=σ.length):∀{vs:List ah}{cs:List A},ei σ s vs cs->Gs σ.length cs=ab
 |[],[],_=>rfl
 |[],_::_,r=>r.elim
 |_::_,[],r=>r.elim
 |v::vs,c::cs,r=>by simp only[Gs,r.1.sR hl];exact ei.sR hl r.2
def nC.sR{σ:List aR}(hl:s.β.length=σ.length){v:ah}{e:E1}(r:nC σ s v e):HS σ.length e=ab:=by
 cases e with
 |one a=>exact gB.sR hl r
 |agg cs=>obtain⟨vs,_,h⟩:=r;exact ei.sR hl h
def hY.sR{σ:List aR}(hl:s.β.length=σ.length):∀{vs:List ah}{cs:List E1},hY σ s vs cs->yx σ.length cs=ab
 |[],[],_=>rfl
 |[],_::_,r=>r.elim
 |_::_,[],r=>r.elim
 |v::vs,c::cs,r=>by simp only[yx,nC.sR hl r.1];exact hY.sR hl r.2
def dt.sR{σ:List aR}(hl:s.β.length=σ.length){v:ah}{d:D}(r:dt σ s v d):wD σ.length d=ab:=by
 cases d with
 |e x=>exact nC.sR hl r
 |fa xs=>obtain⟨vs,_,h⟩:=r;exact hY.sR hl h
 |any=>rfl
def Ew(n:Nat)(σ0:List aR)(l:Nat)(B:aR):Prop:=(∃E cs,B=.cells E cs/\Gs n cs=ab)∨σ0[l]?=aa B∨(∃N φ r r',B=.loop N φ r/\σ0[l]?=aa (.loop N φ r'))∨((∀E cs,B≠.cells E cs)/\∀N φ r,B≠.loop N φ r)
def aF.QD{s0:St}{σ0:List aR}(i:aF σ0 s0)(a:σ0.length=σ1.length)(w:∀(l:Nat)(B:aR),σ1[l]?=aa B->Ew σ1.length σ0 l B)(h:aF (σ1++rest) s):aF σ1 (s.cut σ1.length):=by
 have hl:σ1.length<=s.β.length:=by rw[h.len];simp
 refine⟨h.mem,by simp[St.cut,hl],?_,?_,?_,λb j=>⟨(h.own b j).1,λL d=>(h.own b j).2 L (fM d)⟩⟩
 .intro l B L hB d;have m:l<σ1.length:=(b6.1 hB).1;simp only[St.cut,iX,m,cq]at d;have c:=h.box l B L (by grind) d;have f:∃o,s0.β[l]?=aa o:=⟨_,br (by rw[i.len,a];exact m)⟩
  obtain⟨o,f⟩:=f;have C:=i.len.trans a;cases B with
  |cells E cs =>
   obtain⟨b,vs,h1,h2,u,p⟩:=c;refine⟨b,vs,h1,h2,ei.sQ u ?_,p⟩;rcases w l _ hB with⟨_,_,e,q⟩|q|⟨_,_,_,_,e,_⟩|q
   .grind
   .obtain⟨_,_,_,_,y,_⟩:=i.box l _ o q f;exact a▸y.sR i.len
   .cases e
   grind
  |vec E k n es=>exact c
  |cm H=>exact c
  |dead=>trivial
  |loop N φ r =>
   obtain⟨l',tmps,fn,A,h1,h2,u,p,z⟩:=c;have key:∃r',σ0[l]?=aa (.loop N φ r'):=by
    rcases w l _ hB with⟨_,_,e,_⟩|q|⟨_,_,_,r',e,q⟩|q
    .cases e
    .grind
    .grind
    grind
   obtain⟨r',q⟩:=key;obtain⟨_,_,_,_,_,_,_,x,_⟩:=i.box l _ o q f;exact⟨l',tmps,fn,A,h1,h2,u,λt=>(p t).drop (a▸(x t).sR i.len),z⟩
  |qY=>exact c
  |buf E k n es=>exact c
 .intro l l' L L' d g b j v;simp only[St.cut,iX]at d g;split at d<;>split at g<;>first|exact h.eO l l' L L' d g b j v|grind|grind
 .intro L d b j;exact h.lt L (fM d) b j
def aF.Vd{s0:St}(a:aF σ1 s0)(h:aF (σ1++rest) s):aF σ1 (s.cut σ1.length):=a.QD rfl (λ_ _ h=>.inr (.inl h)) h
def OA.Cl{P:ar}{X:Cx P}{N:Nat}{all:List au}{o:au}{φ:Fr}{σ:List aR}{E:aj}{k n:Nat}{es:Nat->List C}(h:OA X N all o φ σ (.e (.one (.vec σ.length k n es))) (σ++[.vec E k n es])):OA X N all o φ σ (.e (.one (.c (.sl ae k n es)))) σ:=by
 intro s a f hh b kk cs S i rest d hi hK;refine h s a f hh b kk cs S i rest d hi λv s' hv jh st=>?_;have j:eF s' (s'.cut σ.length):=⟨rfl,λ_ _ _ h=>h,λ_ _ _=>rfl,jh.mem,λb d=>d.imp id λ⟨L,g,d⟩=>⟨L,fM g,d⟩⟩
 exact .ghost j (hK v (s'.cut σ.length) hv.1 (hh.Vd jh) (st.drop (bc _)))
end drop
end Go.AM
