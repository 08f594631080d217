/- Part 1. No condition. -/
import Derived.Tactics2
import Derived.Conc.Own
import Derived.Conc.Events
import Derived.Conc.Listed
import Derived.Laws.CopyRow
import Derived.Laws.AppendOwn
import Derived.Laws.Rows
import Derived.Laws.Strings
import Derived.Laws.Cells
import Derived.Lib.Strings
import Derived.Laws.Slices
import Derived.Orders
import Derived.Laws.StructEq
set_option linter.all false
set_option maxHeartbeats 8000000
open Go.Conc (G)
open Go renaming Value → aj, TypeId → ay, undef → ah, Operand → aC, execOp → aq, World → aA, Program → aK, Oper → aB, Goroutine → ak, stepG → aG, FuncId → aP
open Option renaming some → aa, none → af
open Bool renaming true → ab, false → ae
open Go.World renaming cell? → aU
open List renaming getD_eq_getElem?_getD → ai, range → a9
open Go.Sem renaming events_bind → aJ
open Go.Result renaming evThen_ok → aO
open Go.Region renaming wanted → aX, ready → aW
open Nat renaming beq → av, ble → bn
open Go.Op renaming bytesLess → aY
set_option linter.defProp false
set_option linter.deprecated false
namespace Go
def ar:=@_root_.trivial
def bd:=@_root_.List.getElem?_eq_getElem
def bc:=@_root_.decide_eq_true_eq
def aE:=@_root_.and_true
def aF:=@_root_.true_and
def bD:=@_root_.List.mem_of_getElem?
def b8:=@_root_.List.getElem?_eq_some_iff
def bY:=@_root_.decide_eq_false_iff_not
def bT:=@_root_.Nat.eq_of_beq_eq_true
def bF:=@_root_.Int.toNat_natCast
def aZ:=@_root_.Nat.le_refl
def bo:=@_root_.Nat.zero_add
def bP:=@_root_.Bool.and_eq_true
def b9:=@_root_.List.length_append
def b6:=@_root_.Go.Result.andThen_ok
def dx:=@_root_.Array.getD_eq_getD_getElem?
def cA:=@_root_.Nat.lt_of_lt_of_le
def bL:=@_root_.Go.Sem.run_bind
def cB:=@_root_.List.take_length
def dy:=@_root_.Nat.le_of_ble_eq_true
def dz:=@_root_.List.getElem_of_mem
def dk:=@_root_.Option.some.injEq
def fh:=@_root_.List.getElem?_append_right
def dY:=@_root_.Nat.mul_le_mul_right
def cV:=@_root_.decide_eq_true
def cv:=@_root_.Nat.lt_or_ge
def fx:=@_root_.Array.getElem?_eq_getElem
def eE:=@_root_.List.length_singleton
def cK:=@_root_.Go.Sem.run_pure
def bh:=@_root_.if_neg
def eF:=@_root_.beq_eq_false_iff_ne
def bJ:=@_root_.if_false
def gN:=@_root_.Array.getElem?_eq_some_iff
def fJ:=@_root_.List.getElem?_set_self
def bt:=@_root_.if_pos
def eN:=@_root_.not_true_eq_false
def dD:=@_root_.List.mem_cons
def jo:=@_root_.List.eq_nil_of_length_eq_zero
def gO:=@_root_.List.getElem?_toArray
def eO:=@_root_.List.mem_append
def gb:=@_root_.Bool.false_eq_true
def bZ:=@_root_.if_true
def jq:=@_root_.List.getElem?_append_left
def fK:=@_root_.Option.getD_some
def gQ:=@_root_.List.mem_singleton
def gd:=@_root_.List.length_cons
def iR:=@_root_.List.take_append_drop
def eZ:=@_root_.Bool.true_and
def ig:=@_root_.List.getElem?_take
def gR:=@_root_.List.ext_getElem?
def iB:=@_root_.Array.length_toList
def gf:=@_root_.decide_eq_false
def j4:=@_root_.List.getElem?_cons_zero
def gA:=@_root_.Nat.not_lt_zero
def nH:=@_root_.List.findIdx?_eq_some_iff_getElem
def jr:=@_root_.List.mem_of_mem_take
def iC:=@_root_.Bool.not_eq_true'
def lO:=@_root_.List.pairwise_iff_getElem
def dm:=@_root_.congrArg
def j5:=@_root_.List.getElem?_set_ne
def lP:=@_root_.Array.getElem?_replicate
def js:=@_root_.List.take_add_one
def kN:=@_root_.List.mem_iff_getElem
def ju:=@_root_.List.append_assoc
def j6:=@_root_.List.mem_cons_self
def gB:=@_root_.Nat.le_trans
def iS:=@_root_.List.length_nil
def iT:=@_root_.List.foldl_cons
def jw:=@_root_.beq_self_eq_true
def mF:=@_root_.List.getElem?_cons_succ
def gT:=@_root_.Nat.add_zero
def tY:=@_root_.Array.getElem?_setIfInBounds_self_of_lt
def rn:=@_root_.Array.getElem?_setIfInBounds_ne
def gg:=@_root_.beq_iff_eq
def gU:=@_root_.Nat.add_mul
def j7:=@_root_.List.append_nil
def pC:=@_root_.Array.mapM_eq_mapM_toList
def lQ:=@_root_.bne_self_eq_false
def lR:=@_root_.Option.map_some
def lS:=@_root_.Bool.or_eq_true
def nI:=@_root_.Nat.eq_zero_or_pos
def kO:=@_root_.Prod.mk.injEq
def j8:=@_root_.Nat.succ_mul
def j9:=@_root_.Nat.beq_refl
def kP:=@_root_.Bool.not_true
def pD:=@_root_.List.mem_cons_of_mem
def pE:=@_root_.Array.toArray_toList
def nJ:=@_root_.not_false_eq_true
def mG:=@_root_.List.mem_filter
def mH:=@_root_.List.length_map
def dn:=@_root_.ne_eq
def rq:=@_root_.Option.map_eq_some_iff
def nK:=@_root_.Option.bind_some
def nL:=@_root_.Bool.not_eq_true
def jy:=@_root_.Nat.mod_lt
def pF:=@_root_.List.pairwise_cons
def mI:=@_root_.List.mapM_cons
def pG:=@_root_.List.getElem?_drop
def ru:=@_root_.List.length_filter_le
def rv:=@_root_.Nat.div_lt_of_lt_mul
def ox:=@_root_.List.pairwise_append
def mJ:=@_root_.List.getElem?_map
def lu:=@_root_.Bool.not_false
def jJ:=@_root_.Nat.zero_le
def kr:=@_root_.decide_false
def kt:=@_root_.Nat.sub_zero
def oy:=@_root_.Nat.add_sub_cancel
def ku:=@_root_.List.mem_map
def qf:=@_root_.Nat.ble_eq_true_of_le
def qg:=@_root_.List.getElem?_eq_none
def qh:=@_root_.Bool.and_eq_false_iff
def oz:=@_root_.Nat.div_add_mod'
def oA:=@_root_.List.not_mem_nil
def tm:=@_root_.Nat.lt_succ_iff_lt_or_eq
def oB:=@_root_.UInt8.toNat_inj
def oC:=@_root_.Bool.eq_iff_iff
def qi:=@_root_.Int.emod_lt_of_pos
def qj:=@_root_.Bool.not_eq_false'
def lx:=@_root_.decide_true
def tn:=@_root_.Nat.le_mul_of_pos_right
def tp:=@_root_.Array.mem_of_getElem?
def ly:=@_root_.Nat.not_lt
def qk:=@_root_.List.length_drop
def ql:=@_root_.List.getElem_mem
def xX:=@_root_.List.find?_eq_some_iff_getElem
def oE:=@_root_.List.map_cons
def qm:=@_root_.Option.some.inj
def qn:=@_root_.Int.emod_nonneg
def tq:=@_root_.Nat.mul_le_mul_left
def qp:=@_root_.List.mem_range
def qq:=@_root_.Bool.false_and
def xY:=@_root_.List.findIdx?_eq_none_iff
def xZ:=@_root_.List.drop_eq_getElem_cons
def tr:=@_root_.List.flatMap_cons
def x0:=@_root_.Nat.add_sub_cancel_left
def tu:=@_root_.List.ext_getElem
def tv:=@_root_.List.drop_length
def oF:=@_root_.bne_iff_ne
def x3:=@_root_.List.range_succ_eq_map
def x4:=@_root_.Array.getElem?_eq_none
def tw:=@_root_.List.nil_append
def x5:=@_root_.List.contains_iff_mem
def x6:=@_root_.Array.getElem?_toList
def x7:=@_root_.Array.getElem?_modify
def x8:=@_root_.Nat.add_sub_cancel'
def x9:=@_root_.List.filter_eq_self
def ya:=@_root_.Int.toNat_of_nonneg
def qt:=@_root_.Go.Sem.run_ite
end Go
namespace Go.AM
inductive C where
  | int (k:IntKind) (n:Int)
  | bool (b:Bool)
  | str (s:List UInt8)
  | sl (tight:Bool) (k n:Nat) (es:Nat->List C)
  | rp (cs:List C)
  | nQ
  | ifs (t:ay) (c:C)
  | KQ (t:ay) (cs:List C)
  | nS
  | fn (f:Fn) (first cap:List C)
  | yh
  | val (x:aj)
inductive BP where
  | sl (g k o n:Nat)
  | el (g k i f:Nat)
def BP.g:BP->Nat
  | .sl g _ _ _=>g
  | .el g _ _ _=>g
def BP.K:BP->aj->aj->Prop
  | .sl _ k o n,lv,v=>∃a a0 cap c0,v=.slice a n cap/\n<=cap/\o+cap=c0/\c0<=9223372036854775807/\lv=.slice a0 0 c0/\(0<cap->∃b,a0=aa ⟨b,0,af⟩/\a=aa ⟨b,o*k,af⟩)
  | .el _ k i f,lv,v=>∃b c0,lv=.slice (aa ⟨b,0,af⟩) 0 c0/\v=.pointer (aa ⟨b,i*k+f,af⟩)
inductive A where
  | c (x:C)
  | ptr (l off:Nat)
  | vec (l k n:Nat) (es:Nat->List C)
  | ref (l:Nat)
  | bp (l:Nat) (w:BP)
  | any
abbrev A.v(x:aj):A:=.c (.val x)
inductive E1 where
  | one (a:A)
  | agg (cs:List A)
inductive D where
  | e (x:E1)
  | fe (xs:List E1)
  | any
abbrev Fr:=List (Nat×D)
def look:Fr->Nat->D
  | [],_=>.any
  | (i,d)::r,t=>cond (av i t) d (look r t)
inductive ba where
  | cells (E:ay) (cs:List A)
  | vec (E:ay) (k n:Nat) (es:Nat->List C)
  | cp (H:aj->(Nat->Option Obj)->Prop)
  | dead
  | loop (N:Nat) (φ:Fr) (r:Loop)
  | pK
  | buf (E:ay) (k n:Nat) (es:Nat->List C)
@[simp] def ba.gr:ba->Bool
  | .vec _ _ _ _=>ab
  | .buf _ _ _ _=>ab
  | _=>ae
structure Loc where
  v:aj
  bs:List Nat
abbrev Mem:=Nat->Nat->Option aj
structure St where
  β:List Loc
  M:Mem
  w:aA
  own:Nat->Prop
def bq:IntKind->Int->Prop
  | .i8,n=>-128<=n/\n<=127
  | .i16,n=>-32768<=n/\n<=32767
  | .i32,n=>-2147483648<=n/\n<=2147483647
  | .i64,n=>-9223372036854775808<=n/\n<=9223372036854775807
  | .u8,n=>0<=n/\n<=255
  | .u16,n=>0<=n/\n<=65535
  | .u32,n=>0<=n/\n<=4294967295
  | .u64,n=>0<=n/\n<=18446744073709551615
def cO:aj->Bool
  | .agg _|.tuple _=>ae
  | _=>ab
def BP.K.cell{w:BP}{lv v:aj}(h:w.K lv v):cO v=ab:=by
  cases w with
  | sl=>obtain⟨_,_,_,_,rfl,_⟩:=h;rfl
  | el=>obtain⟨_,_,_,rfl⟩:=h;rfl
inductive Rd (M:Mem):aj->C->Prop
  | int {k:IntKind} {n:Int} (h:bq k n):Rd M (.int k n) (.int k n)
  | bool {b:Bool}:Rd M (.bool b) (.bool b)
  | str {s:ByteArray} {l:List UInt8} (h:s.data.toList=l) (hl:l.length<=9223372036854775807):Rd M (.string s) (.str l)
  | sl {a:Option Addr} {n cap:Nat} {tight:Bool} {k:Nat} {es:Nat->List C} (b off:Nat) (f:Nat->Nat->aj)
      (BQ:n<=cap) (hb:cap<=9223372036854775807) (ht:tight=ab->cap=n) (hk:∀i,i<n->(es i).length=k)
      (ha:0<n->a=aa ⟨b,off,af⟩)
      (hm:∀i,i<n->∀j c,(es i)[j]?=aa c->M b (off+i*k+j)=aa (f i j))
      (hr:∀i,i<n->∀j c,(es i)[j]?=aa c->Rd M (f i j) c):Rd M (.slice a n cap) (.sl tight k n es)
  | rp {cs:List C} (b off:Nat) (f:Nat->aj)
      (hm:∀j c,cs[j]?=aa c->M b (off+j)=aa (f j))
      (hr:∀j c,cs[j]?=aa c->Rd M (f j) c):Rd M (.pointer (aa ⟨b,off,af⟩)) (.rp cs)
  | nQ:Rd M (.pointer af) .nQ
  | ifs {t:ay} {v:aj} {c:C} (h:Rd M v c) (hc:cO v=ab):Rd M (.iface t v) (.ifs t c)
  | KQ {t:ay} {vs:List aj} {cs:List C} (hl:vs.length=cs.length)
      (f:Nat->aj) (hf:∀j,j<vs.length->vs[j]?=aa (f j)) (hr:∀j c,cs[j]?=aa c->Rd M (f j) c):Rd M (.iface t (.agg vs.toArray)) (.KQ t cs)
  | nS:Rd M .nilIface .nS
  | fn {g:Fn} {first cap:List C} (fs cs:List aj) (hl:fs.length=first.length) (Dk:cs.length=cap.length) (f1 f2:Nat->aj)
      (h1:∀j,j<fs.length->fs[j]?=aa (f1 j)) (h2:∀j,j<cs.length->cs[j]?=aa (f2 j))
      (r1:∀j c,first[j]?=aa c->Rd M (f1 j) c) (r2:∀j c,cap[j]?=aa c->Rd M (f2 j) c):Rd M (.func g fs.toArray cs.toArray) (.fn g first cap)
  | yh:Rd M .nilFunc .yh
  | val {x:aj} (h:cO x=ab):Rd M x (.val x)
theorem Rd.eW{M:Mem}{v x:aj}(h:Rd M v (.val x)):v=x:=by cases h;rfl
def Rd.cell{M:Mem}{v:aj}{c:C}(h:Rd M v c):cO v=ab:=by cases h<;>first|rfl|assumption
def Rd.mono{M M':Mem}(d:∀b o v,M b o=aa v->M' b o=aa v){v:aj}{c:C}(h:Rd M v c):Rd M' v c:=by
  induction h with
  | int h=>exact .int h
  | bool=>exact .bool
  | str h hl=>exact .str h hl
  | sl b off f a hb ht hk ha hm hr ih =>
    exact .sl b off f a hb ht hk ha (λi hi j c hj=>d _ _ _ (hm i hi j c hj)) (λi hi j c hj=>ih i hi j c hj)
  | rp b off f hm hr ih=>exact .rp b off f (λj c hj=>d _ _ _ (hm j c hj)) (λj c hj=>ih j c hj)
  | nQ=>exact .nQ
  | ifs h g ih=>exact .ifs ih g
  | KQ hl f e hr ih=>exact .KQ hl f e (λj c hj=>ih j c hj)
  | nS=>exact .nS
  | fn fs cs hl Dk f1 f2 h1 h2 r1 r2 Yv Yw=>exact .fn fs cs hl Dk f1 f2 h1 h2 (λj c hj=>Yv j c hj) (λj c hj=>Yw j c hj)
  | yh=>exact .yh
  | val h=>exact .val h
def fU(σ:List ba)(s:St)(v:aj):A->Prop
  | .c x=>Rd s.M v x
  | .ptr l off=>(∀B,σ[l]?=aa B->B.gr=ae)/\∃L b,s.β[l]?=aa L/\L.v=.pointer (aa ⟨b,0,af⟩)/\v=.pointer (aa ⟨b,off,af⟩)
  | .vec l k n es=>Rd s.M v (.sl ae k n es)/\l<σ.length/\∀E k' n' es',σ[l]?=aa (ba.vec E k' n' es')->n<=n'/\(n'=n->∃L,s.β[l]?=aa L/\v=L.v)
  | .ref l=>(∀B,σ[l]?=aa B->B.gr=ae)/\∃L,s.β[l]?=aa L/\v=L.v/\cO v=ab
  | .bp l w=>∃a,w.K a v/\l<σ.length/\∀E k n es,σ[l]?=aa (ba.buf E k n es)->w.g<=n/\(w.g=n->∃L,s.β[l]?=aa L/\L.v=a)
  | .any=>cO v=ab
def dH(σ:List ba)(s:St):List aj->List A->Prop
  | [],[]=>True
  | v::vs,a::al=>fU σ s v a/\dH σ s vs al
  | _,_=>False
def mE(σ:List ba)(s:St)(v:aj):E1->Prop
  | .one a=>fU σ s v a
  | .agg cs=>∃vs:List aj,v=.agg vs.toArray/\dH σ s vs cs
def gn(σ:List ba)(s:St):List aj->List E1->Prop
  | [],[]=>True
  | v::vs,a::al=>mE σ s v a/\gn σ s vs al
  | _,_=>False
def dc(σ:List ba)(s:St)(v:aj):D->Prop
  | .e x=>mE σ s v x
  | .fe xs=>∃vs:List aj,v=.tuple vs.toArray/\gn σ s vs xs
  | .any=>True
def cd(σ:List ba)(s:St):List aj->List D->Prop
  | [],[]=>True
  | v::vs,a::al=>dc σ s v a/\cd σ s vs al
  | _,_=>False
structure Flat(M:Mem)(k n:Nat)(es:Nat->List C)(vs:List aj):Prop where
  len:vs.length=n*k
  width:∀i,i<n->(es i).length=k
  rd:∀i,i<n->∀(j:Nat) (c:C),(es i)[j]?=aa c->∃v,vs[i*k+j]?=aa v/\Rd M v c
def Flat.mono{M M':Mem}(a:∀b o v,M b o=aa v->M' b o=aa v){k n:Nat}{es:Nat->List C}{vs:List aj}(h:Flat M k n es vs):Flat M' k n es vs :=
  ⟨h.len,h.width,λi hi j c hj=>let ⟨v,h1,h2⟩:=h.rd i hi j c hj;⟨v,h1,h2.mono a⟩⟩
def eG(σ:List ba)(s:St):ba->Loc->Prop
  | .cells E cs,L=>∃b vs,L=⟨.pointer (aa ⟨b,0,af⟩),[b]⟩/\s.w.heap[b]?=aa (.cells (List.toArray vs) E (0,0))/\dH σ s vs cs/\∀o,s.M b o=af
  | .vec E k n es,L=>Rd s.M L.v (.sl ae k n es) /\
      (((L.bs=[]/\n=0)/\Rd s.M L.v (.sl ab k n es)) ∨
       ∃b cap vs,L=⟨.slice (aa ⟨b,0,af⟩) n cap,[b]⟩/\s.w.heap[b]?=aa (.cells (List.toArray vs) E (0,0))/\vs.length=cap*k/\∀o,n*k<=o->s.M b o=af)
  | .cp H,L=>∃c,H L.v c/\(∀(b:Nat) (o:Obj),c b=aa o->s.w.heap[b]?=aa o)/\(∀b,b∈L.bs↔(c b).isSome=ab)/\∀b∈L.bs,∀o,s.M b o=af
  | .dead,_=>True
  | .loop N φ r,L=>∃l tmps fn df,L=⟨.func (.yield l) #[] #[],[l]⟩/\s.w.heap[l]?=aa (.loop {r with tmps:=tmps,fn:=fn,defers:=df})/\tmps.size=N/\(∀t,dc σ s (tmps.getD t ah) (look φ t))/\∀o,s.M l o=af
  | .pK,L=>∃r:Nat,L=⟨.int .i64 r,[r]⟩/\s.w.heap[r]?=aa (.deferred (aa []))/\∀o,s.M r o=af
  | .buf E k n es,L=>(n=0/\L=⟨.slice af 0 0,[]⟩)∨∃b a vs zs,L=⟨.slice (aa ⟨b,0,af⟩) 0 a,[b]⟩/\s.w.heap[b]?=aa (.cells (List.toArray (vs++zs)) E (0,0))/\(vs++zs).length=a*k/\n<=a/\a<=9223372036854775807/\Flat s.M k n es vs/\∀o,s.M b o=af
structure aD(σ:List ba)(s:St):Prop where
  mem:∀b o v,s.M b o=aa v->s.w.cell? ⟨b,o,af⟩=aa v
  len:s.β.length=σ.length
  box:∀(l:Nat) (B:ba) (L:Loc),σ[l]?=aa B->s.β[l]?=aa L->eG σ s B L
  eH:∀(l l':Nat) (L L':Loc),s.β[l]?=aa L->s.β[l']?=aa L'->∀b∈L.bs,b∈L'.bs->l=l'
  lt:∀L∈s.β,∀b∈L.bs,b<s.w.heap.size
  own:∀b,s.own b->b<s.w.heap.size/\∀L∈s.β,b∉L.bs
def hX:ba->Loc->ba->Loc->Prop
  | .vec _ _ n _,L,.vec _ _ a _,L'=>(a=n->L'.v=L.v)/\n<=a
  | .vec _ _ _ _,_,.dead,_=>True
  | .vec _ _ _ _,_,_,_=>False
  | .buf _ _ n _,L,.buf _ _ a _,L'=>(a=n->L'.v=L.v)/\n<=a
  | .buf _ _ _ _,_,.dead,_=>True
  | .buf _ _ _ _,_,_,_=>False
  | _,_,.vec _ _ _ _,_=>False
  | _,_,.buf _ _ _ _,_=>False
  | .dead,L,.dead,L'=>L'.v=L.v
  | .dead,_,_,_=>False
  | .pK,L,.pK,L'=>L'.v=L.v
  | .pK,_,_,_=>False
  | _,_,.pK,_=>False
  | _,L,_,L'=>L'.v=L.v
structure Ext(σ:List ba)(s:St)(σ':List ba)(s':St):Prop where
  mem:∀b o v,s.M b o=aa v->s'.M b o=aa v
  box:∀(l:Nat) (B:ba) (L:Loc),σ[l]?=aa B->s.β[l]?=aa L->∃B' L',σ'[l]?=aa B'/\s'.β[l]?=aa L'/\hX B L B' L'
structure Step(σ:List ba)(s:St)(σ':List ba)(s':St):Prop where
  size:s.w.heap.size<=s'.w.heap.size
  keep:∀b,b<s.w.heap.size->(∀L∈s.β,b∉L.bs)->s'.w.heap[b]?=s.w.heap[b]?
  mem:∀b o v,s.M b o=aa v->s'.M b o=aa v
  iq:∀b,b<s.w.heap.size->(∀L∈s.β,b∉L.bs)->∀o,s'.M b o=s.M b o
  tB:∀L'∈s'.β,∀b∈L'.bs,s.w.heap.size<=b∨∃L∈s.β,b∈L.bs
  box:∀(l:Nat) (B:ba) (L:Loc),σ[l]?=aa B->s.β[l]?=aa L->∃B' L',σ'[l]?=aa B'/\s'.β[l]?=aa L'/\hX B L B' L'
  os:s'.w.os=s.w.os
  tape:s'.w.tape=s.w.tape
  output:s'.w.output=s.w.output
  own:s'.own=s.own
structure cJ(σ:List ba)(s:St)(σ':List ba)(s':St):Prop where
  size:s.w.heap.size<=s'.w.heap.size
  keep:∀b,s.own b->s'.w.heap[b]?=s.w.heap[b]?
  mem:∀b o v,s.M b o=aa v->s'.M b o=aa v
  iq:∀b,b<s.w.heap.size->(∀L∈s.β,b∉L.bs)->∀o,s'.M b o=s.M b o
  tB:∀L'∈s'.β,∀b∈L'.bs,s.w.heap.size<=b∨∃L∈s.β,b∈L.bs
  box:∀(l:Nat) (B:ba) (L:Loc),σ[l]?=aa B->s.β[l]?=aa L->∃B' L',σ'[l]?=aa B'/\s'.β[l]?=aa L'/\hX B L B' L'
  os:s'.w.os=s.w.os
  tape:s'.w.tape=s.w.tape
  output:s'.w.output=s.w.output
  own:s'.own=s.own
structure b5(s s':St):Prop where
  β:s'.β=s.β
  M:s'.M=s.M
  own:s'.own=s.own
  size:s.w.heap.size<=s'.w.heap.size
  keep:∀b,(s.own b∨∃L∈s.β,b∈L.bs)->s'.w.heap[b]?=s.w.heap[b]?
  mem:∀b o v,s.M b o=aa v->s'.w.cell? ⟨b,o,af⟩=aa v
  os:s'.w.os=s.w.os
  tape:s'.w.tape=s.w.tape
  output:s'.w.output=s.w.output
def nz(s:St)(e:Event):Prop :=
  match e.loc with
  | .cell a=>e.sync=ae/\a.spot=af/\(False∨((∃L∈s.β,a.block∈L.bs)/\(e.write=ab->s.M a.block a.off=af))∨(e.write=ae/\∃v,s.M a.block a.off=aa v))
  | .obj r=>e.sync=ae/\(False∨∃L∈s.β,r∈L.bs)
  | .mark m=>m=.noRoom∨∃f,m=.extern f
  | _=>False
def ee(s:St)(es:Array Event):Prop:=∀e∈es,nz s e
def ee.nil{s:St}:ee s #[]:=by intro e h;grind
def hX.refl(B:ba)(L:Loc):hX B L B L:=by cases B<;>simp[hX]
def hX.trans{B B' Us:ba}{L L' Wu:Loc}(h:hX B L B' L')(a:hX B' L' Us Wu):hX B L Us Wu:=by
  cases B<;>cases B'<;>cases Us<;>simp_all[hX]
  all_goals
    grind
def Step.refl(σ:List ba)(s:St):Step σ s σ s :=
  ⟨aZ _,λ_ _ _=>rfl,λ_ _ _ h=>h,λ_ _ _ _=>rfl,λL h b hb=>.inr ⟨L,h,hb⟩,λ_ B L h a=>⟨B,L,h,a,.refl _ _⟩,rfl,rfl,rfl,rfl⟩
def Step.trans{σ σ1 σ2:List ba}{s d s2:St}(h:Step σ s σ1 d)(k:Step σ1 d σ2 s2):Step σ s σ2 s2:=by
  have out:∀b,b<s.w.heap.size->(∀L∈s.β,b∉L.bs)->∀L∈d.β,b∉L.bs:=by
    intro b hb hn L a c;rcases h.tB L a b c with h1|⟨u,t,g⟩
    · omega
    grind
  refine⟨gB h.size k.size,?_,λb o v f=>k.mem _ _ _ (h.mem _ _ _ f),?_,?_,?_,k.os.trans h.os,k.tape.trans h.tape,k.output.trans h.output,k.own.trans h.own⟩
  · intro b hb hn
    rw[k.keep b (cA hb h.size) (out b hb hn),h.keep b hb hn]
  · intro b hb hn o
    rw[k.iq b (cA hb h.size) (out b hb hn),h.iq b hb hn]
  · intro L a b hb
    rcases k.tB L a b hb with h1|⟨L1,m,p⟩
    · exact .inl (gB h.size h1)
    grind
  · intro l B L e a
    obtain⟨B1,L1,h1,h2,j⟩:=h.box l B L e a;obtain⟨q,i,k1,r,n⟩:=k.box l B1 L1 h1 h2;exact⟨q,i,k1,r,j.trans n⟩
def cJ.refl(σ:List ba)(s:St):cJ σ s σ s :=
  ⟨aZ _,λ_ _=>rfl,λ_ _ _ h=>h,λ_ _ _ _=>rfl,λL h b hb=>.inr ⟨L,h,hb⟩,λ_ B L h a=>⟨B,L,h,a,.refl _ _⟩,rfl,rfl,rfl,rfl⟩
def cJ.trans{σ σ1 σ2:List ba}{s d s2:St}(h:cJ σ s σ1 d)(k:cJ σ1 d σ2 s2):cJ σ s σ2 s2:=by
  have out:∀b,b<s.w.heap.size->(∀L∈s.β,b∉L.bs)->∀L∈d.β,b∉L.bs:=by
    intro b hb hn L a c;rcases h.tB L a b c with h1|⟨u,t,g⟩
    · omega
    grind
  refine⟨gB h.size k.size,?_,λb o v f=>k.mem _ _ _ (h.mem _ _ _ f),?_,?_,?_,k.os.trans h.os,k.tape.trans h.tape,k.output.trans h.output,k.own.trans h.own⟩
  · intro b hb
    rw[k.keep b (by rw[h.own];exact hb),h.keep b hb]
  · intro b hb hn o
    rw[k.iq b (cA hb h.size) (out b hb hn),h.iq b hb hn]
  · intro L a b hb
    rcases k.tB L a b hb with h1|⟨L1,m,p⟩
    · exact .inl (gB h.size h1)
    grind
  · intro l B L e a
    obtain⟨B1,L1,h1,h2,j⟩:=h.box l B L e a;obtain⟨q,i,k1,r,n⟩:=k.box l B1 L1 h1 h2;exact⟨q,i,k1,r,j.trans n⟩
def Step.nT{σ σ':List ba}{s s':St}(hh:aD σ s)(h:Step σ s σ' s'):cJ σ s σ' s' :=
  ⟨h.size,λb hb=>h.keep b (hh.own b hb).1 (hh.own b hb).2,h.mem,h.iq,h.tB,h.box,h.os,h.tape,h.output,h.own⟩
def cJ.ext{σ σ':List ba}{s s':St}(h:cJ σ s σ' s'):Ext σ s σ' s':=⟨h.mem,h.box⟩
def b5.refl{σ:List ba}{s:St}(hh:aD σ s):b5 s s:=⟨rfl,rfl,rfl,aZ _,λ_ _=>rfl,hh.mem,rfl,rfl,rfl⟩
def b5.stepW{σ:List ba}{s s':St}(h:b5 s s'):cJ σ s σ s' :=
  ⟨h.size,λb hb=>h.keep b (.inl hb),λb o v d=>by rw[h.M];exact d,λ_ _ _ _=>by rw[h.M],λL a b hb=>.inr ⟨L,by rw[<-h.β];exact a,hb⟩,
    λl B L c a=>⟨B,L,c,by rw[h.β];exact a,.refl _ _⟩,h.os,h.tape,h.output,h.own⟩
def Step.ext{σ σ':List ba}{s s':St}(h:Step σ s σ' s'):Ext σ s σ' s':=⟨h.mem,h.box⟩
section mono
variable {σ σ':List ba}{s s':St}
def Ext.KD(h:Ext σ s σ' s'){l:Nat}{L:Loc}(d:s.β[l]?=aa L)(hl:s.β.length=σ.length)(b:∀B,σ[l]?=aa B->B.gr=ae):
    (∀B,σ'[l]?=aa B->B.gr=ae)/\∃L',s'.β[l]?=aa L'/\L'.v=L.v:=by
  have a:l<σ.length:=by grind
  obtain⟨B',L',k1,f,e⟩:=h.box l (σ[l]) L (bd a) d;have c:=b _ (bd a);generalize σ[l]=B at *;rw[k1];cases B<;>cases B'<;>simp_all[hX,ba.gr]
def fU.mono(h:Ext σ s σ' s')(hl:s.β.length=σ.length){v:aj}{a:A}(r:fU σ s v a):fU σ' s' v a:=by
  cases a with
  | c x=>exact Rd.mono h.mem r
  | any=>exact r
  | ptr l off =>
    obtain⟨i,L,b,h1,h2,j⟩:=r;obtain⟨g,L',k1,o⟩:=h.KD h1 hl i;exact⟨g,L',b,k1,by grind,j⟩
  | vec l k n es =>
    obtain⟨m,e,q⟩:=r;obtain⟨B',L',k1,o,f⟩:=h.box l (σ[l]) (s.β[l]'(by omega)) (bd e) (bd (by omega));have d:l<σ'.length:=(b8.1 k1).1;refine⟨Rd.mono h.mem m,d,λE k' g es' he=>?_⟩;rw[he]at k1;cases k1;have p:=bd e;generalize σ[l]=B at *;cases B with
    | vec E0 k0 n0 Wv =>
      obtain⟨u,t⟩:=f;grind
    | _=>simp[hX]at f
  | ref l =>
    obtain⟨i,L,h1,h2,j⟩:=r;obtain⟨g,L',k1,o⟩:=h.KD h1 hl i;exact⟨g,L',k1,by grind,j⟩
  | bp l w =>
    obtain⟨lv,m,e,q⟩:=r;obtain⟨B',L',k1,o,f⟩:=h.box l (σ[l]) (s.β[l]'(by omega)) (bd e) (bd (by omega));have d:l<σ'.length:=(b8.1 k1).1;refine⟨lv,m,d,λE k' g es' he=>?_⟩;rw[he]at k1;cases k1;have p:=bd e;generalize σ[l]=B at *;cases B with
    | buf E0 k0 n0 Wv =>
      obtain⟨u,t⟩:=f;grind
    | _=>simp[hX]at f
def dH.mono(h:Ext σ s σ' s')(hl:s.β.length=σ.length){vs:List aj}{cs:List A}(r:dH σ s vs cs):dH σ' s' vs cs:=by
  induction vs generalizing cs with
  | nil=>cases cs<;>simp_all[dH]
  | cons v vs ih =>
    cases cs with
    | nil=>simp[dH]at r
    | cons a cs=>exact⟨r.1.mono h hl,ih r.2⟩
def mE.mono(h:Ext σ s σ' s')(hl:s.β.length=σ.length){v:aj}{x:E1}(r:mE σ s v x):mE σ' s' v x:=by
  cases x with
  | one a=>exact fU.mono h hl r
  | agg cs=>obtain⟨vs,h1,h2⟩:=r;exact⟨vs,h1,h2.mono h hl⟩
def gn.mono(h:Ext σ s σ' s')(hl:s.β.length=σ.length){vs:List aj}{xs:List E1}(r:gn σ s vs xs):gn σ' s' vs xs:=by
  induction vs generalizing xs with
  | nil=>cases xs<;>simp_all[gn]
  | cons v vs ih =>
    cases xs with
    | nil=>simp[gn]at r
    | cons a cs=>exact⟨r.1.mono h hl,ih r.2⟩
def dc.mono(h:Ext σ s σ' s')(hl:s.β.length=σ.length){v:aj}{d:D}(r:dc σ s v d):dc σ' s' v d:=by
  cases d with
  | e x=>exact mE.mono h hl r
  | fe xs=>obtain⟨vs,h1,h2⟩:=r;exact⟨vs,h1,h2.mono h hl⟩
  | any=>trivial
def cd.mono(h:Ext σ s σ' s')(hl:s.β.length=σ.length){vs:List aj}{xs:List D}(r:cd σ s vs xs):cd σ' s' vs xs:=by
  induction vs generalizing xs with
  | nil=>cases xs<;>simp_all[cd]
  | cons v vs ih =>
    cases xs with
    | nil=>simp[cd]at r
    | cons a cs=>exact⟨r.1.mono h hl,ih r.2⟩
end mono
def nB(σ:List ba)(s:St):List Deferred->List Nat->Prop
  | [],[]=>True
  | d::ds,l::ls=>(σ[l]?=aa .pK/\∃(L:Loc) (r:Nat),s.β[l]?=aa L/\L.v=.int .i64 r/\d={target:=.collected r,args:=#[]})/\l∉ls/\nB σ s ds ls
  | _,_=>False
def nB.mono{σ σ':List ba}{s s':St}(h:Ext σ s σ' s'):∀{ds:List Deferred} {ls:List Nat},nB σ s ds ls->nB σ' s' ds ls
  | [],[],_=>trivial
  | [],_::_,r=>r.elim
  | _::_,[],r=>r.elim
  | d::ds,l::ls,⟨⟨h1,L,r,h2,g,b⟩,a,e⟩=>by
    obtain⟨B',L',k1,f,c⟩:=h.box l _ L h1 h2;cases B'<;>simp[hX]at c
    exact⟨⟨k1,L',r,f,by grind,b⟩,a,nB.mono h e⟩
def l7:List ba->Bool
  | []=>ab
  | .pK::_=>ae
  | _::r=>l7 r
def l8:∀{l:List ba},l7 l=ab->∀B∈l,B≠.pK
  | [],_,B,a=>by grind
  | b::r,h,B,a=>by
    have c:b≠.pK/\l7 r=ab:=by cases b<;>simp_all[l7]
    rcases dD.1 a with rfl|a
    · exact c.1
    · exact l8 c.2 B a
theorem gq{s:St}{r:Nat}{wr:Bool}{L:Loc}(b:L∈s.β)(a:r∈L.bs):nz s ⟨.obj r,wr,ae⟩:=⟨rfl,.inr ⟨L,b,a⟩⟩
def ee.one{s:St}{e:Event}(h:nz s e):ee s #[e]:=by intro x a;grind
def ee.two{s:St}{e a:Event}(h:nz s e)(b:nz s a):ee s #[e,a]:=by intro x c;grind
variable {n k l b i j:Nat}{E:ay}{H:aj->(Nat->Option Obj)->Prop}{L:Array Bool}{M:Mem}{N:Nat}{P:aK}{S:ak->St->Prop}{c:Code}{g:ak}{o:aB}{s:St}{t:ay}{v:aj}{w:aA}{x y:aC}{α:Type}{η:aC->D}{ι:Type}{σ:List ba}{φ:Fr}{all:List aB}{jK:Array ay}{cap:List C}{cu:List D}{cs:List Frame}{ds:List (Nat×Bool)}{es:Nat->List C}{fo:aC}{obs:List Prop}{off:Nat}{op:BinOp}{ops:Array aB}{ps:List Prop}{rest:List aB}{s':St}{ty:ay}{val:Nat->Nat->aj}{vs:List aj}{w':aA}{xs:Array aC}{σ' σs:List ba}{res:ι->D}{σ1:ι->List ba}
section
open Go.Conc (G listed)
def pJ(s s':St)(es:Array Event):Prop:=(∃σ σ',aD σ s/\aD σ' s'/\Step σ s σ' s')/\ee s es
structure Cx(P:aK) where
 main:Bool
 rely:St->St->Prop
 wm:ak->St->(ak->St->Prop)->Prop
 hZ:∀{s s'},rely s s'->b5 s s'
 zI:Prop
class Cx.gY {P:aK} (X:Cx P):Prop where
 ok:X.zI
structure ey(s s':St):Prop where
 w:s'.w=s.w
 mem:∀b o v,s.M b o=aa v->s'.M b o=aa v
 iq:∀b,(∀L∈s.β,b∉L.bs)->∀o,s'.M b o=s.M b o
 cell:∀b o v,s'.M b o=aa v->s.w.cell? ⟨b,o,af⟩=aa v
 blk:∀b,(s'.own b∨∃L∈s'.β,b∈L.bs)->s.own b∨∃L∈s.β,b∈L.bs
structure lT(s s':St):Prop where
 w:s'.w=s.w
 β:s'.β=s.β
 own:s'.own=s.own
 less:∀b o v,s'.M b o=aa v->s.M b o=aa v
 mem:∀b o v,s.M b o=aa v->s'.M b o=aa v∨s.own b
inductive e9 {P:aK} (X:Cx P) (S:ak->St->Prop):ak->St->Prop
 |stop {g:ak} {s:St}:S g s->e9 X S g s
 |step {g:ak} {s:St} (ng:St->ak) (ns:St->St) (ne:St->Array Event):g.status=.running ->
   (∀s1,X.rely s s1->aG P X.main g s1.w=.go (ng s1) (ns s1).w (ne s1))->(∀s1,X.rely s s1->pJ s1 (ns s1) (ne s1))->(∀s1,X.rely s s1->e9 X S (ng s1) (ns s1))->e9 X S g s
 |ghost {g:ak} {s s':St}:ey s s'->e9 X S g s'->e9 X S g s
 |forget {g:ak} {s s':St}:X.zI->lT s s'->e9 X S g s'->e9 X S g s
 |wm {g:ak} {s:St} {T:ak->St->Prop}:X.wm g s T->(∀g' s',T g' s'->e9 X S g' s')->e9 X S g s
section
variable {X:Cx P}
def e9.next(f:g.status=.running)(h:∀c,X.rely s c->∃g' s' es,aG P X.main g c.w=.go g' s'.w es/\pJ c s' es/\e9 X S g' s'):e9 X S g s:=by
 classical
 have hh:∀c,∃r:ak×St×Array Event,X.rely s c->aG P X.main g c.w=.go r.1 r.2.1.w r.2.2/\pJ c r.2.1 r.2.2/\e9 X S r.1 r.2.1:=by
  intro c;by_cases e:X.rely s c
  .obtain⟨g',s',es,h1⟩:=h c e;exact⟨(g',s',es),λ_=>h1⟩
  .exact⟨(g,c,#[]),λd=>absurd d e⟩
 refine .step (λc=>(Classical.choose (hh c)).1) (λc=>(Classical.choose (hh c)).2.1) (λc=>(Classical.choose (hh c)).2.2) f ?_ ?_ ?_
 .grind
 .grind
 grind
theorem ey.of(hh:aD σ s)(c:aD σ' s')(f:s'.w=s.w)(st:cJ σ s σ' s'):ey s s':=by
 have i:∀b o v,s'.M b o=aa v->s.w.cell? ⟨b,o,af⟩=aa v:=λb o v h=>by rw[<-f];exact c.mem b o v h
 have d:∀b o v,s.w.cell? ⟨b,o,af⟩=aa v->b<s.w.heap.size:=by
  intro b o v h;rcases cv b s.w.heap.size with h1|h1
  .exact h1
  .simp[aU,x4 h1]at h
 refine⟨f,st.mem,λb hb o=>?_,i,λb hb=>?_⟩
 .rcases cv b s.w.heap.size with h1|h1
  .exact st.iq b h1 hb o
  .cases h2:s'.M b o with
   |some v=>grind
   |none=>cases g:s.M b o with
    |none=>rfl
    |some v=>have:=d _ _ _ (hh.mem _ _ _ g);omega
 .rcases hb with hb|⟨L,e,hb⟩
  .exact .inl (by rw[<-st.own];exact hb)
  .rcases st.tB L e b hb with h1|h1
   .have:=c.lt L e b hb;grind
   grind
def aD.rely(hh:aD σ s)(h:b5 s s'):aD σ s':=by
 have ex:Ext σ s σ s':=h.stepW.ext;have C:∀v a,fU σ s v a->fU σ s' v a:=λv a r=>r.mono ex hh.len;refine⟨λb o v x=>h.mem b o v (by rw[<-h.M];exact x),by rw[h.β];exact hh.len,?_,by rw[h.β];exact hh.eH,?_,?_⟩
 .intro l B L i e;rw[h.β]at e;have hb:=hh.box l B L i e;have A:∀b∈L.bs,s'.w.heap[b]?=s.w.heap[b]?:=λb hb=>h.keep b (.inr ⟨L,bD e,hb⟩);cases B with
  |cells E cs =>
   obtain⟨b,vs,h1,h2,c,d⟩:=hb;subst h1;exact⟨b,vs,rfl,by grind,c.mono ex hh.len,λo=>by rw[h.M,d]⟩
  |vec E k n es =>
   obtain⟨h1,h2⟩:=hb;refine⟨by rw[h.M];exact h1,?_⟩;rcases h2 with⟨h2,c⟩|⟨b,cap,vs,h2,c,d,f⟩
   .exact .inl ⟨h2,by rw[h.M];exact c⟩
   .subst h2;exact .inr ⟨b,cap,vs,rfl,by grind,d,λo q=>by rw[h.M,f o q]⟩
  |cp H =>
   obtain⟨ch,h1,h2,c,d⟩:=hb;refine⟨ch,h1,λb o u=>?_,c,λb g o=>by rw[h.M,d b g]⟩;grind
  |dead=>trivial
  |loop N φ r =>
   obtain⟨l,tmps,fn,j,h1,h2,c,d,f⟩:=hb;subst h1;exact⟨l,tmps,fn,j,rfl,by grind,c,λt=>(d t).mono ex hh.len,λo=>by rw[h.M,f]⟩
  |pK =>
   obtain⟨r,h1,h2,c⟩:=hb;subst h1;exact⟨r,rfl,by grind,λo=>by rw[h.M,c]⟩
  |buf E k n es =>
   rcases hb with hb|⟨b,z,vs,m,h1,h2,c,d,f,p,y⟩
   .exact .inl hb
   .subst h1;exact .inr ⟨b,z,vs,m,rfl,by grind,c,d,f,by rw[h.M];exact p,λo=>by rw[h.M,y]⟩
 .intro L e b hb;rw[h.β]at e;exact cA (hh.lt L e b hb) h.size
 .intro b hb;rw[h.own]at hb;rw[h.β];exact⟨cA (hh.own b hb).1 h.size,(hh.own b hb).2⟩
def pJ.quiet(hh:aD σ s):pJ s s #[]:=⟨⟨σ,σ,hh,hh,.refl _ _⟩,.nil⟩
def _root_.Go.Frame.aT(b:Frame)(a:Act)(todo:List Item):Frame:={b with tmps:=a.tmps,todo:=todo,defers:=a.defers++b.defers,mode:=.run}
variable {b:Frame}{a:Act}{k:List Item}{main:Bool}
def Dl(b:Frame)(a:Act)(c:List Item):(b.aT a c).eval=a.eval:=by funext x;cases x<;>rfl
def Dm:aG P main (G (b.aT a (.code .skip::k)) cs) w=.go (G (b.aT a k) cs) w:=by simp[G,aG,stepG.exec,Frame.aT]
def pL{id:Nat}:aG P main (G (b.aT a (.inBlock id::k)) cs) w=.go (G (b.aT a k) cs) w:=by simp[G,aG,stepG.exec,Frame.aT]
theorem mK{x y:Code}:aG P main (G (b.aT a (.code (.seq x y)::k)) cs) w=.go (G (b.aT a (.code x::.code y::k)) cs) w:=by simp[G,aG,stepG.exec,Frame.aT]
def tC{c:aC}{x y:Code}{t:Bool}(h:a.eval c=.bool t):
  aG P main (G (b.aT a (.code (.cond c x y)::k)) cs) w=.go (G (b.aT a (.code (if t then x else y)::k)) cs) w:=by
 have d:(b.aT a (.code (.cond c x y)::k)).eval c=.bool t:=by rw[Dl];exact h
 simp only[Frame.aT]at d;simp[G,aG,stepG.exec,Frame.aT,d]
def qx{id:Nat}:aG P main (G (b.aT a (.code (.block id c)::k)) cs) w=.go (G (b.aT a (.code c::.inBlock id::k)) cs) w:=by simp[G,aG,stepG.exec,Frame.aT]
def Dn:aG P main (G (b.aT a (.code (.loop c)::k)) cs) w=.go (G (b.aT a (.code c::.inLoop c::k)) cs) w:=by simp[G,aG,stepG.exec,Frame.aT]
def wV:aG P main (G (b.aT a (.inLoop c::k)) cs) w=.go (G (b.aT a (.code c::.inLoop c::k)) cs) w:=by simp[G,aG,stepG.exec,Frame.aT]
def ye{id:Nat}{k':List Item}(h:exitTo id k=aa k'):aG P main (G (b.aT a (.code (.exit id)::k)) cs) w=.go (G (b.aT a k') cs) w:=by simp[G,aG,stepG.exec,Frame.aT,h]
def oJ{id:Nat}:aG P main (G (b.aT a (.code (.region id ops ae)::k)) cs) w=.go (G (b.aT a (.inRegion ops (a9 ops.size)::k)) cs) w:=by simp[G,aG,stepG.exec,Frame.aT]
def kS{id:Nat}:aG P main (G (b.aT a (.code (.region id ops ab)::k)) cs) w =
  .go (G (b.aT a (.inRegion ops (Region.schedule (P.follows .mixedOrders) ops (w.tape w.drawn (.order b.fn id)))::k)) cs) {w with drawn:=w.drawn+1}:=by simp[G,aG,stepG.exec,Frame.aT,choose,Sem.run,Question.forced,Question.cut]
def iu:aG P main (G (b.aT a (.inRegion ops []::k)) cs) w=.go (G (b.aT a k) cs) w:=by simp[G,aG,stepG.exec,Frame.aT]
def BL(h:b.roundOf=af):aG P main (G (b.aT a (.code .ret::k)) cs) w=.go (G {b.aT a (.code .ret::k)with mode:=.returning} cs) w:=by simp[G,aG,stepG.exec,Frame.aT,h]
def BM(h:b.roundOf=af):aG P main (G (b.aT a []) cs) w=.go (G {b.aT a []with mode:=.returning} cs) w:=by simp[G,aG,stepG.exec,Frame.aT,h]
def kI(ops:Array aB)(i:Nat)(rest:List Nat)(v:aj):
  (b.aT a (.inRegion ops (i::rest)::k)).finish v=b.aT (a.put ((ops[i]?).bind (·.dst)) v) (.inRegion ops rest::k):=by cases h:(ops[i]?).bind (·.dst)<;>simp[Frame.finish,Frame.aT,Act.put,h]
def KA{rest:List Nat}(d:ops[i]?=aa o)(e:aX o (yielded ops a.tmps)=ae):
  aG P main (G (b.aT a (.inRegion ops (i::rest)::k)) cs) w=.go (G (b.aT (a.put o.dst ah) (.inRegion ops rest::k)) cs) w:=by have c:=kI (b:=b) (a:=a) (k:=k) ops i rest ah;rw[d]at c;simp only[nK]at c;rw[<-c];simp[G,aG,stepG.exec,Frame.aT,d,e]
theorem qy{g:aC->aj}{c:Call}(h:o.op=.defer c){f:Next}(e:(aq g o).run P w=.ok f w'):∃d,f=.defer d:=by
 simp only[aq,h,bL]at e;cases i:(resolve g c o.type).run P w with
 |ok d w2=>rw[i]at e;simp at e;grind
 |halt x w2=>rw[i]at e;simp at e
def tD{rest:List Nat}(e:ops[i]?=aa o)(f:aX o (yielded ops a.tmps)=ab)(g:∀c,o.op≠.defer c):
  aG P main (G (b.aT a (.inRegion ops (i::rest)::k)) cs) w=stepG.apply P ab (b.aT a (.inRegion ops (i::rest)::k)) cs af (aq a.eval o) w:=by have d:=Dl b a (.inRegion ops (i::rest)::k);simp only[Frame.aT]at d;simp[G,aG,stepG.exec,stepG.oper,Frame.oper?,Frame.aT,e,f,d];grind
theorem GF{rest:List Nat}(f:ops[i]?=aa o)(h:aX o (yielded ops a.tmps)=ab)(l:b.kind≠.early)(g:(aq a.eval o).run P w=.ok (.value v) w'):
  aG P main (G (b.aT a (.inRegion ops (i::rest)::k)) cs) w=.go (G (b.aT (a.put o.dst v) (.inRegion ops rest::k)) cs) w' (listed P b.fn a o w):=by
 have d:=kI (b:=b) (a:=a) (k:=k) ops i rest v;rw[f]at d;simp only[nK]at d;have e:(b.kind==CallKind.early)=ae:=by grind
 rw[tD f h (λc j=>by grind[qy]),<-d];simp[stepG.apply,g,G,Frame.aT,e,GStep.after,listed]
theorem Dp{rest:List Nat}(f:ops[i]?=aa o)(h:aX o (yielded ops a.tmps)=ab)(l:b.kind≠.early)(g:(aq a.eval o).run P w=.ok .skip w'):
  aG P main (G (b.aT a (.inRegion ops (i::rest)::k)) cs) w=.go (G (b.aT (a.put o.dst ah) (.inRegion ops rest::k)) cs) w' (listed P b.fn a o w):=by
 have d:=kI (b:=b) (a:=a) (k:=k) ops i rest ah;rw[f]at d;simp only[nK]at d;have e:(b.kind==CallKind.early)=ae:=by grind
 rw[tD f h (λc j=>by grind[qy]),<-d];simp[stepG.apply,g,G,Frame.aT,e,GStep.after,listed]
def qz{rest:List Nat}{f:aP}{args:Array aj}(g:ops[i]?=aa o)(h:aX o (yielded ops a.tmps)=ab)(l:b.kind≠.early)(e:(aq a.eval o).run P w=.ok (.enter f args) w'):
  aG P main (G (b.aT a (.inRegion ops (i::rest)::k)) cs) w=.go (G (Frame.enter P f args .normal) (b.aT a (.inRegion ops (i::rest)::k)::cs)) w' (listed P b.fn a o w):=by
 have d:(b.kind==CallKind.early)=ae:=by grind
 rw[tD g h (λc j=>by grind[qy])];simp[stepG.apply,e,G,Frame.aT,d,GStep.after,listed]
structure sY(P:aK)(f:aP)(fr:Frame)(v:aj)(s:St):Prop where
 X1:fr.fn=f
 mode:fr.mode=.returning
 defers:fr.defers=[]
 kind:fr.kind=.normal
 fn:∃fn,P.funcs[fr.fn]?=aa fn/\∀w,(∀b o u,s.M b o=aa u->w.cell? ⟨b,o,af⟩=aa u)->(results fn fr.tmps).run P w=.ok v w/\∀e∈(results fn fr.tmps).events P w #[],∃b o u,e=⟨.cell ⟨b,o,af⟩,ae,ae⟩/\s.M b o=aa u
def sY.mono{f:aP}{fr:Frame}(h:sY P f fr v s)(g:∀b o u,s.M b o=aa u->s'.M b o=aa u):sY P f fr v s':=by obtain⟨h1,h2,e,d,fn,c,i⟩:=h;refine⟨h1,h2,e,d,fn,c,λw j=>?_⟩;grind
def ee.seen{s:St}{es:Array Event}{fn:aP}(h:ee s es):ee s (seen P fn es):=λe c=>h e (Go.Conc.mem_seen c)
def GG{f:aP}{g c:Frame}(h:sY P f g v s)(w:aA)(n:∀b o u,s.M b o=aa u->w.cell? ⟨b,o,af⟩=aa u):∃es,aG P main (G g (c::cs)) w=.go (G (c.finish v) cs) w es/\∀e∈es,∃b o u,e=⟨.cell ⟨b,o,af⟩,ae,ae⟩/\s.M b o=aa u:=by obtain⟨fn,j,d⟩:=h.fn;obtain⟨m,l⟩:=d w n;refine⟨seen P g.fn ((results fn g.tmps).events P w #[]),?_,λe i=>l e (Go.Conc.mem_seen i)⟩;simp[G,aG,unwind,doReturn,h.mode,h.defers,h.kind,j,m,GStep.after]
end
end
structure cf(N:Nat)(σ:List ba)(s:St)(φ:Fr)(a:Act):Prop where
 size:a.tmps.size=N
 defers:∃ls,nB σ s a.defers ls
 slot:∀t,dc σ s (a.tmps.getD t ah) (look φ t)
def cf.mono{N:Nat}{σ σ':List ba}{s s':St}{φ:Fr}{a:Act}(h:cJ σ s σ' s')(hl:s.β.length=σ.length)(f:cf N σ s φ a):cf N σ' s' φ a :=
 ⟨f.size,f.defers.imp λ_ h1=>h1.mono h.ext,λt=>(f.slot t).mono h.ext hl⟩
def cf.rely{a:Act}(h:b5 s s')(hh:aD σ s)(f:cf N σ s φ a):cf N σ s' φ a:=f.mono h.stepW hh.len
def cf.put{N:Nat}{σ:List ba}{s:St}{φ:Fr}{a:Act}(f:cf N σ s φ a){d:Nat}(g:d<N){v:aj}{x:D}(r:dc σ s v x):cf N σ s ((d,x)::φ) (a.put (aa d) v):=by
 refine⟨by simp[Act.put,f.size],f.defers,λt=>?_⟩;simp only[Act.put,look];by_cases e:d=t
 .subst e;rw[show av d d=ab from j9 d];have c:d<a.tmps.size:=by rw[f.size];exact g
  simp only[dx,tY c,fK,cond];exact r
 .have:av d t=ae:=by grind[Nat.eq_of_beq_eq_true]
  rw[this];have h:=f.slot t;simp only[dx]at h⊢;grind
def qP(φ φ':Fr):Prop:=∀σ s v t,dc σ s v (look φ t)->dc σ s v (look φ' t)
def cf.le{φ':Fr}{a:Act}(h:qP φ φ')(f:cf N σ s φ a):cf N σ s φ' a :=
 ⟨f.size,f.defers,λt=>h _ _ _ _ (f.slot t)⟩
abbrev Post:=Exit->Fr->List ba->Prop
def ends(X:Cx P)(S:ak->St->Prop)(b:Frame)(k:List Item)(cs:List Frame):Exit->Act->St->Prop
 |.normal,a,s=>e9 X S (G (b.aT a k) cs) s
 |.exit id,a,s=>∀pre,(∀k',exitTo id (pre++k')=exitTo id k')->e9 X S (G (b.aT a (.code (.exit id)::(pre++k))) cs) s
 |.ret,a,s=>∀pre,e9 X S (G (b.aT a (.code .ret::pre)) cs) s
 |.panic ch,a,s=>∀c,e9 X S (G {b.aT a c with mode:=.panicking ch} cs) s
 |_,_,_=>False
section
variable {X:Cx P}{b:Frame}{k:List Item}{a:Act}
def ends.cons{x:Item}(d:∀id k',exitTo id (x::k')=exitTo id k'){e:Exit}(c:e≠.normal)(h:ends X S b k cs e a s):ends X S b (x::k) cs e a s:=by
 cases e with
 |normal=>grind
 |exit id =>
  intro pre hp;have:=h (pre++[x]) (λk'=>by grind);grind
 |ret=>exact h
 |panic ch=>exact h
 |goto l=>exact h
 |outgrown=>exact h
def e9.ctl{g':ak}(hh:aD σ s)(e:g.status=.running)(d:∀w,aG P X.main g w=.go g' w #[])(h:∀c,b5 s c->e9 X S g' c):e9 X S g s :=
 .next e λc h1=>⟨g',c,#[],d c.w,.quiet (hh.rely (X.hZ h1)),h c (X.hZ h1)⟩
def rD{f:aP}{j c:Frame}(q:aD σ s)(h:sY P f j v s)(k:∀d,b5 s d->e9 X S (G (c.finish v) cs) d):e9 X S (G j (c::cs)) s:=by refine .next rfl λd r=>?_;have i:=X.hZ r;have g:=q.rely i;obtain⟨es,l,m⟩:=GG (main:=X.main) (c:=c) (cs:=cs) h d.w i.mem;refine⟨_,d,es,l,⟨⟨σ,σ,g,g,.refl _ _⟩,λe n=>?_⟩,k d i⟩;obtain⟨b,o,u,rfl,p⟩:=m e n;exact⟨rfl,rfl,.inr (.inr ⟨rfl,u,by rw[i.M];exact p⟩)⟩
def uS(I:Nat->Act->St->Prop)(i:∀n a s,I n a s->∃σ,aD σ s/\∀d,b5 s d->I n a d)(round:∀n a s,I n a s->(∀a' s' m,m<n->I m a' s'->e9 X S (G (b.aT a' (.inLoop c::k)) cs) s')->e9 X S (G (b.aT a (.code c::.inLoop c::k)) cs) s)(j:I n a s):
  e9 X S (G (b.aT a (.code (.loop c)::k)) cs) s:=by
 have key:∀n a s,I n a s->e9 X S (G (b.aT a (.inLoop c::k)) cs) s:=by
  intro n;induction n using Nat.strongRecOn with
  |_ n l =>
   intro a s hi;obtain⟨σ,g,f⟩:=i n a s hi;exact .ctl g rfl (λw=>wV) λd h=>round n a d (f d h) λa' s' m o e=>l m o a' s' e
 obtain⟨σ,g,f⟩:=i n a s j;exact .ctl g rfl (λw=>Dn) λd h=>round n a d (f d h) λa' s' m _ e=>key m a' s' e
end
def AW(X:Cx P)(N:Nat)(c:Code)(Q:Post)(φ:Fr)(σ:List ba):Prop :=
 ∀s a,cf N σ s φ a->aD σ s->∀(b:Frame) (k:List Item) (cs:List Frame) (S:ak->St->Prop),b.kind≠.early ->
  (∀e φ' σ' s' a',Q e φ' σ'->cf N σ' s' φ' a'->aD σ' s'->cJ σ s σ' s'->ends X S b k cs e a' s')->e9 X S (G (b.aT a (.code c::k)) cs) s
def Names(all:List aB):List Nat->List aB->Prop
 |[],[]=>True
 |i::idx,o::rest=>all.toArray[i]?=aa o/\Names all idx rest
 |_,_=>False
def iO(X:Cx P)(N:Nat)(all rest:List aB)(Q:Fr->List ba->Prop)(φ:Fr)(σ:List ba):Prop :=
 ∀s a,cf N σ s φ a->aD σ s->∀(b:Frame) (k:List Item) (cs:List Frame) (S:ak->St->Prop) (idx:List Nat),b.kind≠.early->Names all idx rest ->
  (∀φ' σ' s' a',Q φ' σ'->cf N σ' s' φ' a'->aD σ' s'->cJ σ s σ' s'->e9 X S (G (b.aT a' k) cs) s')->e9 X S (G (b.aT a (.inRegion all.toArray idx::k)) cs) s
section rules
variable {X:Cx P}{Q:Post}
def AW.mono{d:Post}(h:AW X N c Q φ σ)(g:∀e φ σ,Q e φ σ->d e φ σ):AW X N c d φ σ :=
 λs a j hh b k cs S hb hQ=>h s a j hh b k cs S hb λe φ' σ' s' a' q f i st=>hQ e φ' σ' s' a' (g _ _ _ q) f i st
def AW.le{c:Code}{φ':Fr}(h:AW X N c Q φ' σ)(hl:qP φ φ'):AW X N c Q φ σ :=
 λs a d hh b k cs S hb hQ=>h s a (d.le hl) hh b k cs S hb hQ
theorem AW.skip(h:Q .normal φ σ):AW X N .skip Q φ σ:=λs a e hh b k cs S _ c =>
 .ctl hh rfl (λ_=>Dm) λd h1=>c .normal φ σ d a h (e.rely h1 hh) (hh.rely h1) h1.stepW
def AW.ret(h:Q .ret φ σ):AW X N .ret Q φ σ:=λs a d hh b k cs S _ c=>c .ret φ σ s a h d hh (.refl _ _) k
theorem AW.exit{id:Nat}(h:Q (.exit id) φ σ):AW X N (.exit id) Q φ σ:=λs a d hh b k cs S _ c=>by have:=c (.exit id) φ σ s a h d hh (.refl _ _) [] (λ_=>rfl);grind
def DS(next:Fr->List ba->Prop)(Q:Post):Post
 |.normal,φ,σ=>next φ σ
 |e,φ,σ=>Q e φ σ
theorem AW.seq{x y:Code}(h:AW X N x (DS (AW X N y Q) Q) φ σ):AW X N (.seq x y) Q φ σ:=by
 intro s a i hh b k cs S hb hQ;refine .ctl hh rfl (λ_=>mK) λj h1=>?_;refine h j a (i.rely h1 hh) (hh.rely h1) b (.code y::k) cs S hb ?_;intro e φ' σ' s' a' q f g st;have c:=h1.stepW.trans st;cases e with
 |normal=>exact q s' a' f g b k cs S hb λe d σ2 s2 a2 q2 f2 h2 nU=>hQ e d σ2 s2 a2 q2 f2 h2 (c.trans nU)
 |_=>exact ends.cons (λ_ _=>rfl) (by simp) (hQ _ _ _ _ _ q f g c)
theorem AW.cond{c:aC}{x y:Code}{t:Bool}{u:Nat}(n:c=.tmp u)(hl:look φ u=.e (.one (.c (.bool t))))(j:t=ab->AW X N x Q φ σ)(o:t=ae->AW X N y Q φ σ):AW X N (.cond c x y) Q φ σ:=by
 intro s a f hh b k cs S hb hQ;have g:=f.slot u;rw[hl]at g;have h:a.eval c=.bool t:=by subst n;generalize h:a.tmps.getD u ah=v at g;simp only[dc,mE,fU]at g;cases g;exact h
 refine .ctl hh rfl (λ_=>tC h) λi h1=>?_;have d:∀e φ' σ' s' a',Q e φ' σ'->cf N σ' s' φ' a'->aD σ' s'->cJ σ i σ' s'->ends X S b k cs e a' s':=λe φ' σ' s' a' q l m st=>hQ e φ' σ' s' a' q l m (h1.stepW.trans st);cases t
 .exact o rfl i a (f.rely h1 hh) (hh.rely h1) b k cs S hb d
 .exact j rfl i a (f.rely h1 hh) (hh.rely h1) b k cs S hb d
def yK(id:Nat)(Q:Post):Post
 |.exit Gy,φ,σ=>if Gy=id then Q .normal φ σ else Q (.exit Gy) φ σ
 |e,φ,σ=>Q e φ σ
theorem AW.block{id:Nat}(h:AW X N c (yK id Q) φ σ):AW X N (.block id c) Q φ σ:=by
 intro s a j hh b k cs S hb hQ;refine .ctl hh rfl (λ_=>qx) λm h1=>?_;refine h m a (j.rely h1 hh) (hh.rely h1) b (.inBlock id::k) cs S hb ?_;intro e φ' σ' s' a' q g f st;have d:=h1.stepW.trans st;cases e with
 |normal =>
  exact .ctl f rfl (λ_=>pL) λs2 h2=>hQ .normal φ' σ' s2 a' q (g.rely h2 f) (f.rely h2) (d.trans h2.stepW)
 |exit Gy =>
  simp only[yK]at q;split at q
  .rename_i e;subst e;intro pre hp;refine .ctl f rfl (λ_=>ye (k':=k) (by rw[hp];simp[exitTo])) λs2 h2=>?_;exact hQ .normal φ' σ' s2 a' q (g.rely h2 f) (f.rely h2) (d.trans h2.stepW)
  .rename_i i
   intro pre hp;have:=hQ (.exit Gy) φ' σ' s' a' q g f d (pre++[.inBlock id]) (λk'=>by
    rw[ju,hp];have:(id==Gy)=ae:=by grind
    simp[exitTo,this])
   grind
 |ret=>exact hQ _ _ _ _ _ q g f d
 |panic ch=>exact hQ _ _ _ _ _ q g f d
 |goto l=>exact hQ _ _ _ _ _ q g f d
 |outgrown=>exact hQ _ _ _ _ _ q g f d
def AW.loop{S:Type}(I:S->Prop)(fr:S->Fr)(st:S->List ba)(h:S->Nat)(x:S)(r:I x)(m:qP φ (fr x))(o:st x=σ)(round:∀x,I x->AW X N c (DS (λφ' σ'=>∃y,I y/\h y<h x/\qP φ' (fr y)/\σ'=st y) Q) (fr x) (st x)):AW X N (.loop c) Q φ σ:=by
 intro s a w hh b k cs S hb hQ;subst o;refine uS (λn a' s'=>∃y,I y/\cf N (st y) s' (fr y) a'/\aD (st y) s'/\cJ (st x) s (st y) s'/\h y=n) ?_ ?_ ⟨x,r,w.le m,hh,.refl _ _,rfl⟩
 .rintro n a' s' ⟨y,j,i,f,d,e⟩;exact⟨st y,f,λA h1=>⟨y,j,i.rely h1 f,f.rely h1,d.trans h1.stepW,e⟩⟩
 rintro n a' s' ⟨y,j,i,f,d,rfl⟩ t;refine round y j s' a' i f b (.inLoop c::k) cs S hb ?_;intro e v σ2 s2 a2 q p h2 nU;cases e with
 |normal =>
  obtain⟨z,u,l,g,rfl⟩:=q;exact t a2 s2 (h z) l ⟨z,u,p.le g,h2,d.trans nU,rfl⟩
 |_=>exact ends.cons (λ_ _=>rfl) (by simp) (hQ _ _ _ _ _ q p h2 (d.trans nU))
end rules
def dH.length{σ:List ba}{s:St}{vs:List aj}{cs:List A}(r:dH σ s vs cs):vs.length=cs.length:=by
 induction vs generalizing cs with
 |nil=>cases cs<;>simp_all[dH]
 |cons v vs ih =>
  cases cs with
  |nil=>simp[dH]at r
  |cons a cs=>simp[ih r.2]
def fU.cell{σ:List ba}{s:St}{v:aj}{a:A}(r:fU σ s v a):cO v=ab:=by
 cases a with
 |c x=>exact Rd.cell r
 |ptr l off=>obtain⟨_,_,_,_,_,rfl⟩:=r;rfl
 |vec l k n es=>exact Rd.cell r.1
 |ref l=>obtain⟨_,_,_,_,h⟩:=r;exact h
 |bp l w=>obtain⟨_,h,_⟩:=r;exact h.cell
 |any=>exact r
theorem dH.get{cs:List A}(r:dH σ s vs cs){a:A}(h:cs[j]?=aa a):∃v,vs[j]?=aa v/\fU σ s v a:=by
 induction vs generalizing cs j with
 |nil=>cases cs<;>simp_all[dH]
 |cons v vs ih =>
  cases cs with
  |nil=>grind
  |cons b cs =>
   cases j with
   |zero=>simp at h;subst h;exact⟨v,rfl,r.1⟩
   |succ j=>simp at h;obtain⟨u,c,d⟩:=ih r.2 h;grind
def dH.cell{σ:List ba}{s:St}{vs:List aj}{cs:List A}(r:dH σ s vs cs):∀v∈vs,v.oneCell'=ab:=by
 induction vs generalizing cs with
 |nil=>simp
 |cons v vs ih =>
  cases cs with
  |nil=>simp[dH]at r
  |cons a cs =>
   intro u b;rcases dD.1 b with rfl|b
   .have:=fU.cell r.1;cases u<;>simp_all[cO,Value.oneCell']
   .exact ih r.2 u b
def dH.append{b:List aj}{cs lZ:List A}(r:dH σ s vs cs)(r':dH σ s b lZ):dH σ s (vs++b) (cs++lZ):=by
 induction vs generalizing cs with
 |nil=>cases cs<;>simp_all[dH]
 |cons v vs ih =>
  cases cs with
  |nil=>simp[dH]at r
  |cons a cs=>exact⟨r.1,ih r.2⟩
def dH.take{σ:List ba}{s:St}{vs:List aj}{cs:List A}(r:dH σ s vs cs)(k:Nat):dH σ s (vs.take k) (cs.take k):=by
 induction vs generalizing cs k with
 |nil=>cases cs<;>simp_all[dH]
 |cons v vs ih =>
  cases cs with
  |nil=>simp[dH]at r
  |cons a cs=>cases k with
   |zero=>simp[dH]
   |succ k=>exact⟨r.1,ih r.2 k⟩
def dH.drop{σ:List ba}{s:St}{vs:List aj}{cs:List A}(r:dH σ s vs cs)(k:Nat):dH σ s (vs.drop k) (cs.drop k):=by
 induction vs generalizing cs k with
 |nil=>cases cs<;>simp_all[dH]
 |cons v vs ih =>
  cases cs with
  |nil=>simp[dH]at r
  |cons a cs=>cases k with
   |zero=>exact r
   |succ k=>simpa using ih r.2 k
theorem aD.block(h:aD σ s){o:Nat}(a:s.M b o=aa v):b<s.w.heap.size:=by
 have:=h.mem b o v a;rcases cv b s.w.heap.size with h|h
 .exact h
 .simp[aU,x4 h]at this
theorem aD.same(h:aD σ s)(g:w'.heap=s.w.heap):aD σ {s with w:=w'}:=by
 have u:∀a,w'.cell? a=s.w.cell? a:=λa=>by simp[aU,g]
 have z:∀v a,fU σ s v a->fU σ {s with w:=w'} v a:=λv a r=>by cases a<;>exact r
 have f:∀vs al,dH σ s vs al->dH σ {s with w:=w'} vs al:=by
  intro vs;induction vs with
  |nil=>intro al r;cases al<;>simp_all[dH]
  |cons v vs ih=>intro al r;cases al with
   |nil=>simp[dH]at r
   |cons a al=>exact⟨z _ _ r.1,ih _ r.2⟩
 refine⟨λb o v x=>by rw[u];exact h.mem b o v x,h.len,?_,h.eH,λL f b hb=>by show b<w'.heap.size;rw[g];exact h.lt L f b hb,λb hb=>⟨by show b<w'.heap.size;rw[g];exact(h.own b hb).1,(h.own b hb).2⟩⟩;intro l B L i e;have:=h.box l B L i e;cases B with
 |cells E cs =>
  obtain⟨b,vs,h1,h2,c,d⟩:=this;exact⟨b,vs,h1,by grind,f _ _ c,d⟩
 |vec E k n es =>
  obtain⟨h1,h2⟩:=this;refine⟨h1,?_⟩;grind
 |cp H =>
  obtain⟨ch,h1,h2,c,d⟩:=this;exact⟨ch,h1,λb o hb=>by grind,c,d⟩
 |dead=>trivial
 |loop N φ r =>
  obtain⟨l,tmps,fn,j,h1,h2,c,d,m⟩:=this;exact⟨l,tmps,fn,j,h1,by grind,c,λt=>dc.mono (s:=s) (σ':=σ) (s':={s with w:=w'}) ⟨λ_ _ _ h=>h,λ_ B L h p=>⟨B,L,h,p,.refl _ _⟩⟩ h.len (d t),m⟩
 |pK =>
  obtain⟨r,h1,h2,c⟩:=this;exact⟨r,h1,by grind,c⟩
 |buf E k n es =>
  rcases this with h1|⟨b,y,vs,q,h1,h2,c⟩
  .exact .inl h1
  .exact .inr ⟨b,y,vs,q,h1,by grind,c⟩
theorem Step.same(f:w'.heap=s.w.heap)(d:w'.os=s.w.os)(a:w'.tape=s.w.tape)(e:w'.output=s.w.output):Step σ s σ {s with w:=w'} :=
 ⟨by grind,λb _ _=>by grind,λ_ _ _ h=>h,λ_ _ _ _=>rfl,λL h b hb=>.inr ⟨L,h,hb⟩,λ_ B L h c=>⟨B,L,h,c,.refl _ _⟩,d,a,e,rfl⟩
def eG.carry{B:ba}{L:Loc}(d:Ext σ s σ' s')(hl:s.β.length=σ.length)(hb:∀b∈L.bs,s'.w.heap[b]?=s.w.heap[b]?/\∀o,s'.M b o=s.M b o)(h:eG σ s B L):eG σ' s' B L:=by
 cases B with
 |cells E cs =>
  obtain⟨b,vs,h1,h2,a,c⟩:=h;subst h1;obtain⟨k1,f⟩:=hb b (by simp);exact⟨b,vs,rfl,by grind,a.mono d hl,λo=>by grind⟩
 |vec E k n es =>
  obtain⟨h1,h2⟩:=h;refine⟨h1.mono d.mem,?_⟩;rcases h2 with⟨h2,a⟩|⟨b,cap,vs,h2,a,c,e⟩
  .exact .inl ⟨h2,a.mono d.mem⟩
  grind
 |cp H =>
  obtain⟨ch,h1,h2,a,c⟩:=h;refine⟨ch,h1,λb o j=>?_,a,λb m o=>by grind⟩;grind
 |dead=>trivial
 |loop N φ r =>
  obtain⟨l,tmps,fn,g,h1,h2,a,c,e⟩:=h;subst h1;obtain⟨k1,f⟩:=hb l (by simp);exact⟨l,tmps,fn,g,rfl,by grind,a,λt=>(c t).mono d hl,λo=>by grind⟩
 |pK =>
  obtain⟨r,h1,h2,a⟩:=h;subst h1;obtain⟨k1,f⟩:=hb r (by simp);exact⟨r,rfl,by grind,λo=>by grind⟩
 |buf E k n es =>
  rcases h with h1|⟨b,p,vs,q,h1,h2,a,c,e,i,u⟩
  .exact .inl h1
  .subst h1;obtain⟨k1,f⟩:=hb b (by simp);exact .inr ⟨b,p,vs,q,rfl,by grind,a,c,e,i.mono d.mem,λo=>by grind⟩
def St.fj(s:St)(E:ay)(vs:List aj):St :=
 {β:=s.β++[⟨.pointer (aa ⟨s.w.heap.size,0,af⟩),[s.w.heap.size]⟩],M:=s.M,w:=s.w.alloc (.cells vs.toArray E),own:=s.own}
theorem cC(w:aA)(o:Obj)(h:b<w.heap.size):(w.alloc o).heap[b]?=w.heap[b]?:=by show(w.heap.push o)[b]?=w.heap[b]?;grind
theorem dt(w:aA)(o:Obj):(w.alloc o).heap[w.heap.size]?=aa o:=by show(w.heap.push o)[w.heap.size]?=aa o;simp
def Step.fj{σ:List ba}(s:St)(E:ay)(vs:List aj)(B:ba):Step σ s (σ++[B]) (s.fj E vs):=by
 refine⟨by simp[St.fj],?_,λ_ _ _ h=>h,λ_ _ _ _=>rfl,?_,?_,rfl,rfl,rfl,rfl⟩
 .intro b hb _;exact cC _ _ hb
 .intro L c b hb;simp only[St.fj,eO,gQ]at c;grind
 .intro l B' L a c;have hl:l<s.β.length:=(b8.1 c).1;have d:l<σ.length:=(b8.1 a).1;exact⟨B',L,by grind,by simp only[St.fj];grind,.refl _ _⟩
def aD.fj{σ:List ba}{s:St}(h:aD σ s){E:ay}{vs:List aj}{cs:List A}(r:dH σ s vs cs):aD (σ++[.cells E cs]) (s.fj E vs):=by
 have st:=Step.fj (σ:=σ) s E vs (.cells E cs);have i:(s.fj E vs).w.heap.size=s.w.heap.size+1:=by simp[St.fj]
 refine⟨?_,by simp[St.fj,h.len],?_,?_,?_,?_⟩
 .intro b o v e;have hb:=h.block e;have:=h.mem b o v e;rw[<-this];simp only[aU,St.fj];grind[cC]
 .intro l B L g a;rcases Nat.lt_trichotomy l σ.length with f|rfl|j
  .rw[jq f]at g;simp only[St.fj]at a;rw[jq (by rw[h.len];exact f)]at a;refine(h.box l B L g a).carry st.ext h.len λb hb=>⟨?_,λ_=>rfl⟩
   have:=h.lt L (bD a) b hb;exact cC _ _ this
  .simp at g;subst g;simp only[St.fj]at a;rw[fh (by rw[h.len];grind)]at a;simp[h.len]at a;subst a;refine⟨s.w.heap.size,vs,rfl,dt _ _,r.mono st.ext h.len,λo=>?_⟩;cases e:s.M s.w.heap.size o with
   |none=>exact e
   |some v=>have:=h.block e;omega
  grind
 .intro l l' L L' a d b hb oH;simp only[St.fj]at a d;have c:∀l L,(s.β++[⟨.pointer (aa ⟨s.w.heap.size,0,af⟩),[s.w.heap.size]⟩])[l]?=aa L->(s.β[l]?=aa L)∨(l=s.β.length/\L.bs=[s.w.heap.size]):=by grind
  rcases c l L a with h1|⟨rfl,h1⟩<;>rcases c l' L' d with h2|⟨rfl,h2⟩
  .exact h.eH l l' L L' h1 h2 b hb oH
  .have:=h.lt L (bD h1) b hb;grind
  .have:=h.lt L' (bD h2) b oH;grind
  .rfl
 .intro L a b hb;rw[i];simp only[St.fj,eO,gQ]at a;rcases a with a|rfl
  .have:=h.lt L a b hb;omega
  grind
 .intro b hb;obtain⟨k,m⟩:=h.own b hb;refine⟨by grind,λL a=>?_⟩;simp only[St.fj,eO,gQ]at a;grind
def aD.grow(h:aD σ s){M':Mem}(a:s.w.heap.size<=w'.heap.size)(f:∀b,b<s.w.heap.size->w'.heap[b]?=s.w.heap[b]?)(d:∀b,b<s.w.heap.size->∀o,M' b o=s.M b o)(n:∀b,s.w.heap.size<=b->∀o v,M' b o=aa v->w'.cell? ⟨b,o,af⟩=aa v)(k:w'.os=s.w.os)(i:w'.tape=s.w.tape)(m:w'.output=s.w.output):aD σ ⟨s.β,M',w',s.own⟩/\Step σ s σ ⟨s.β,M',w',s.own⟩:=by
 have st:Step σ s σ ⟨s.β,M',w',s.own⟩ :=
  ⟨a,λb hb _=>f b hb,λb o v e=>by rw[<-e];exact d b (h.block e) o,λb hb _ o=>d b hb o,λL h b hb=>.inr ⟨L,h,hb⟩,λ_ B L h j=>⟨B,L,h,j,.refl _ _⟩,k,i,m,rfl⟩
 refine⟨⟨?_,h.len,?_,h.eH,λL c b hb=>cA (h.lt L c b hb) a,λb hb=>⟨cA (h.own b hb).1 a,(h.own b hb).2⟩⟩,st⟩
 .intro b o v e;rcases cv b s.w.heap.size with hb|hb
  .have hm':s.M b o=aa v:=by grind
   rw[<-h.mem b o v hm'];simp only[aU];grind
  grind
 .intro l B L g c;exact(h.box l B L g c).carry st.ext h.len λb hb=>⟨f b (h.lt L (bD c) b hb),λo=>d b (h.lt L (bD c) b hb) o⟩
def aD.write(h:aD σ s){L:Loc}{cs lZ:List A}{a:List aj}(g:σ[l]?=aa (.cells E cs))(c:s.β[l]?=aa L)(d:L.bs=[b])(r:dH σ s a lZ):aD (σ.set l (.cells E lZ)) {s with w:=s.w.setRow b a.toArray}/\Step σ s (σ.set l (.cells E lZ)) {s with w:=s.w.setRow b a.toArray}:=by
 have f:l<σ.length:=(b8.1 g).1;obtain⟨j,vs,h1,h2,p,m⟩:=h.box l _ L g c;subst h1;simp at d;subst d;have st:Step σ s (σ.set l (.cells E lZ)) {s with w:=s.w.setRow j a.toArray}:=by
  refine⟨by simp,?_,λ_ _ _ h=>h,λ_ _ _ _=>rfl,λL h b hb=>.inr ⟨L,h,hb⟩,?_,rfl,rfl,rfl,rfl⟩
  .intro b hb hn;exact setRow_other _ _ _ _ (λe=>hn _ (bD c) (by simp[e]))
  .intro l' B L' lz fC;by_cases e:l=l'
   .subst e;rw[g]at lz;cases lz;exact⟨_,L',by rw[fJ f],fC,by simp[hX]⟩
   .exact⟨B,L',by grind,fC,.refl _ _⟩
 refine⟨⟨?_,by simp[h.len],?_,h.eH,λL c b hb=>by simpa using h.lt L c b hb,λb hb=>by simpa using h.own b hb⟩,st⟩
 .intro b o v n;have k:b≠j:=λe=>by grind
  rw[<-h.mem b o v n];simp only[aU];grind[setRow_other]
 .intro l' B L' lz fC;by_cases e:l=l'
  .subst e;rw[fJ f]at lz;cases lz;rw[c]at fC;cases fC;exact⟨j,a,rfl,setRow_heap _ _ _ _ _ _ h2,r.mono st.ext h.len,m⟩
  .rw[j5 e]at lz;refine(h.box l' B L' lz fC).carry st.ext h.len λb hb=>⟨setRow_other _ _ _ _ λi=>?_,λ_=>rfl⟩
   subst i;exact e (h.eH l l' _ L' c fC b (by simp) hb)
def OR(σ:List ba)(s:St):Next->D->Prop
 |.value v,x=>dc σ s v x
 |.skip,x=>x=.any
 |_,_=>False
def bx(P:aK)(o:aB)(η:aC->D)(σ:List ba)(x:D)(σ':List ba):Prop :=
 ∀s a,aD σ s->(∀y,dc σ s (a y) (η y))->∃b s',(aq a o).run P s.w=.ok b s'.w/\OR σ' s' b x/\aD σ' s'/\Step σ s σ' s'/\ee s ((aq a o).events P s.w #[])
def bx.mL{x:D}(h:∀s a,aD σ s->(∀y,dc σ s (a y) (η y))->∃v,(aq a o).run P s.w=.ok (.value v) s.w/\dc σ s v x/\ee s ((aq a o).events P s.w #[])):bx P o η σ x σ :=
 λs a hh hr=>let ⟨v,h1,h2,b⟩:=h s a hh hr;⟨.value v,s,h1,h2,hh,.refl _ _,b⟩
def bx.quiet{x:D}(h:∀s a,aD σ s->(∀y,dc σ s (a y) (η y))->∃v,(aq a o).run P s.w=.ok (.value v) s.w/\dc σ s v x/\(aq a o).events P s.w #[]=#[]):bx P o η σ x σ :=
 λs a hh hr=>let ⟨v,h1,h2,b⟩:=h s a hh hr;⟨.value v,s,h1,h2,hh,.refl _ _,by rw[b];exact .nil⟩
def Lp:IntKind->Int->Bool
 |.i64,.ofNat m=>bn m 9223372036854775807
 |.i64,.negSucc m=>bn m 9223372036854775807
 |.u8,.ofNat m=>bn m 255
 |.i32,.ofNat m=>bn m 2147483647
 |.i32,.negSucc m=>bn m 2147483647
 |.u64,.ofNat m=>bn m 18446744073709551615
 |.u32,.ofNat m=>bn m 4294967295
 |_,_=>ae
def OU{k:IntKind}{n:Int}(h:Lp k n=ab):bq k n:=by cases k<;>cases n<;>simp only[Lp,bq]at h⊢<;>first|(cases h;done)|(have:=dy h;grind)
def pP:aj->Option C
 |.int k n=>cond (Lp k n) (aa (.int k n)) af
 |.bool b=>aa (.bool b)
 |.string s=>cond (bn s.size 9223372036854775807) (aa (.str s.data.toList)) af
 |.slice af 0 0=>aa (.sl ab 0 0 (λ_=>[]))
 |.pointer af=>aa .nQ
 |.nilIface=>aa .nS
 |.nilFunc=>aa .yh
 |.map m=>aa (.val (.map m))
 |_=>af
theorem Rd.iV{t:Bool}{a:Option Addr}:Rd M (.slice a 0 0) (.sl t k 0 es) :=
 Rd.sl 0 0 (λ_ _=>ah) (aZ _) (by omega) (λ_=>rfl) (by omega) (by omega) (by omega) (by omega)
def Rd.pP{M:Mem}{v:aj}{c:C}(h:pP v=aa c):Rd M v c:=by
 unfold AM.pP at h;split at h<;>first
  |(rename_i k n;cases hb:Lp k n<;>rw[hb]at h<;>cases h;exact .int (OU hb))
  |(rename_i s;cases hb:bn s.size 9223372036854775807<;>rw[hb]at h<;>cases h;exact .str rfl (by rw[iB];exact dy hb))
  |(cases h;done)
  |(cases h;exact .bool)
  |(cases h;exact Rd.iV)
  |(cases h;exact .nQ)
  |(cases h;exact .nS)
  |(cases h;exact .yh)
  |(cases h;exact .val rfl)
def ZG:Option C->D
 |some c=>.e (.one (.c c))
 |none=>.any
def bH(φ:Fr):aC->D
 |.tmp t=>look φ t
 |.const v=>ZG (pP v)
 |.func f=>.e (.one (.c (.fn (.func f) [] [])))
 |.global _=>.any
theorem dJ{a:Act}(f:cf N σ s φ a)(y:aC):dc σ s (a.eval y) (bH φ y):=by
 cases y with
 |tmp t=>exact f.slot t
 |const v =>
  simp only[bH,Act.eval];cases h:pP v with
  |none=>trivial
  |some c=>exact Rd.pP h
 |func g =>
  exact Rd.fn [] [] rfl rfl (λ_=>ah) (λ_=>ah) (by simp) (by simp) (by simp) (by simp)
 |global g=>trivial
def kV:Option Nat->D->Fr->Fr
 |some t,x,φ=>(t,x)::φ
 |none,_,φ=>φ
def yF{X:Cx P}{b:Frame}{k:List Item}{a:Act}{rest:List Nat}(n:b.kind≠.early)(m:ops[i]?=aa o)(p:aX o (yielded ops a.tmps)=ab)(h:∀c,b5 s c->∃d s' v,(aq a.eval o).run P c.w=.ok d s'.w/\(d=.value v∨(d=.skip/\v=ah))/\pJ c s' ((aq a.eval o).events P c.w #[])/\e9 X S (G (b.aT (a.put o.dst v) (.inRegion ops rest::k)) cs) s'):
  e9 X S (G (b.aT a (.inRegion ops (i::rest)::k)) cs) s:=by refine .next rfl λc j=>?_;obtain⟨d,s',v,l,f,e,g⟩:=h c (X.hZ j);refine⟨_,s',Go.Conc.listed P b.fn a o c.w,?_,⟨e.1,e.2.seen⟩,g⟩;grind[GF,Dp]
theorem bx.move(h:o.op=.move x):bx P o η σ (η x) σ :=
 .quiet λs a _ b=>⟨a x,by simp[aq,h,pure],b x,by simp[aq,h]⟩
theorem bx.assign(h:o.op=.assign x):bx P o η σ (η x) σ :=
 .quiet λs a _ b=>⟨a x,by simp[aq,h,pure],b x,by simp[aq,h]⟩
def fp{c:C}(h:dc σ s v (.e (.one (.c c)))):Rd s.M v c:=h
def bx.pick{c a b:aC}(h:o.op=.pick c a b){t:Bool}(i:η c=.e (.one (.c (.bool t)))):
  bx P o η σ (match t with|true=>η a|false=>η b) σ:=by
 refine .quiet λs f _ g=>?_;have h1:=g c;rw[i]at h1;have h2:=fp h1;generalize d:f c=v at h2;cases h2;cases t
 .exact⟨f b,by simp[aq,h,d,asBool],g b,by simp[aq,h,d,asBool]⟩
 .exact⟨f a,by simp[aq,h,d,asBool],g a,by simp[aq,h,d,asBool]⟩
def HL(op:BinOp)(k:IntKind)(x y:Int):Option (C×List Prop) :=
 match op with
 |.add=>aa (.int k (x+y),[bq k (x+y)])
 |.sub=>aa (.int k (x-y),[bq k (x-y)])
 |.mul=>aa (.int k (x*y),[bq k (x*y)])
 |.quo=>aa (.int k (x / y),[0<=x,0<y])
 |.rem=>aa (.int k (x % y),[0<=x,0<y])
 |.eql=>aa (.bool (x==y),[])
 |.neq=>aa (.bool (x != y),[])
 |.lss=>aa (.bool (decide (x<y)),[])
 |.leq=>aa (.bool (decide (x<=y)),[])
 |.gtr=>aa (.bool (decide (y<x)),[])
 |.geq=>aa (.bool (decide (y<=x)),[])
 |_=>af
def HM(op:BinOp)(x y:List UInt8):Option (C×List Prop) :=
 match op with
 |.add=>aa (.str (x++y),[x.length+y.length<=9223372036854775807])
 |.eql=>aa (.bool (x==y),[])
 |.neq=>aa (.bool (!(x==y)),[])
 |.lss=>aa (.bool (aY x y),[])
 |.leq=>aa (.bool (aY x y||x==y),[])
 |.gtr=>aa (.bool (!(aY x y||x==y)),[])
 |.geq=>aa (.bool (!(aY x y)),[])
 |_=>af
@[simp] def au:List Prop->Prop
 |[]=>True
 |[p]=>p
 |p::q::r=>p/\au (q::r)
def au.cons{p:Prop}{r:List Prop}:au (p::r)↔p/\au r:=by cases r<;>simp
theorem lB{k:IntKind}{n:Int}(h:bq k n):k.wrap n=n:=by cases k<;>simp only[bq,IntKind.wrap,IntKind.bits,IntKind.signed]at h⊢<;>simp<;>(try split)<;>omega
def HN{k:IntKind}{x y:Int}{c:C}(h:HL op k x y=aa (c,obs))(a:au obs)(j:bq k x)(g:bq k y)(t:ay)(M:Mem):
  ∃v,(binOp op t (.int k x) (.int k y)).run P w=.ok v w/\Rd M v c:=by
 cases op<;>simp only[HL,dk,kO,reduceCtorEq]at h
 case add=>obtain⟨rfl,rfl⟩:=h;exact⟨_,by simp only[binOp,dn,eN,bJ,Op.intArith,lB a];rfl,.int a⟩
 case sub=>obtain⟨rfl,rfl⟩:=h;exact⟨_,by simp only[binOp,dn,eN,bJ,Op.intArith,lB a];rfl,.int a⟩
 case mul=>obtain⟨rfl,rfl⟩:=h;exact⟨_,by simp only[binOp,dn,eN,bJ,Op.intArith,lB a];rfl,.int a⟩
 case quo =>
  obtain⟨rfl,rfl⟩:=h;obtain⟨d,b⟩:=a;replace b:0<y:=b;have e:x.tdiv y=x / y:=Int.tdiv_eq_ediv_of_nonneg d;have f:bq k (x / y):=by have l:0<=x / y:=Int.ediv_nonneg d (by omega);have i:x / y<=x:=Int.ediv_le_self _ d;cases k<;>simp only[bq]at j⊢<;>omega
  exact⟨_,by simp only[binOp,dn,eN,bJ,Op.intDiv,show y≠0 by omega,e,lB f];rfl,.int f⟩
 case rem =>
  obtain⟨rfl,rfl⟩:=h;obtain⟨d,b⟩:=a;replace b:0<y:=b;have e:x.tmod y=x % y:=Int.tmod_eq_emod_of_nonneg d;have f:bq k (x % y):=by have l:0<=x % y:=qn _ (by omega);have i:x % y<y:=qi _ b;cases k<;>simp only[bq]at g⊢<;>omega
  exact⟨_,by simp only[binOp,dn,eN,bJ,Op.intDiv,show y≠0 by omega,e];rfl,.int f⟩
 all_goals (obtain⟨rfl,rfl⟩:=h;exact⟨_,by simp only[binOp,dn,eN,bJ,Op.intCmp,gt_iff_lt,ge_iff_le];rfl,.bool⟩)
def HO{x y:ByteArray}{a b:List UInt8}{c:C}(h:HM op a b=aa (c,obs))(d:au obs)(j:x.data.toList=a)(g:y.data.toList=b)(t:ay)(M:Mem):
  ∃v,(binOp op t (.string x) (.string y)).run P w=.ok v w/\Rd M v c:=by
 subst j g;cases op<;>simp only[HM,dk,kO,reduceCtorEq]at h
 case add =>
  obtain⟨rfl,rfl⟩:=h;have f:¬((x.size+y.size:Nat):Int)>IntKind.i64.max:=by have l:x.data.toList.length=x.size:=iB;have k:y.data.toList.length=y.size:=iB;have e:IntKind.i64.max=9223372036854775807:=rfl;have i:x.data.toList.length+y.data.toList.length<=9223372036854775807:=d;grind
  refine⟨_,by simp only[binOp,Op.stringOp,f,bJ];rfl,.str (by simp) (by simpa using d)⟩
 all_goals (obtain⟨rfl,rfl⟩:=h;exact⟨_,by simp only[binOp,Op.stringOp,ByteArray.toList_eq];rfl,.bool⟩)
def Lq{k:IntKind}{x y:Int}{c:C}(h:HL op k x y=aa (c,obs))(b:au obs)(t:ay):
  (binOp op t (.int k x) (.int k y)).events P w #[]=#[]:=by
 cases op<;>simp only[HL,dk,kO,reduceCtorEq]at h
 case quo =>
  obtain⟨rfl,rfl⟩:=h;obtain⟨d,a⟩:=b;replace a:0<y:=a;simp only[binOp,dn,eN,bJ,Op.intDiv,show y≠0 by omega];rfl
 case rem =>
  obtain⟨rfl,rfl⟩:=h;obtain⟨d,a⟩:=b;replace a:0<y:=a;simp only[binOp,dn,eN,bJ,Op.intDiv,show y≠0 by omega];rfl
 all_goals (simp only[binOp,dn,eN,bJ,Op.intCmp,Op.intArith];rfl)
def Lr{x y:ByteArray}{a b:List UInt8}{c:C}(h:HM op a b=aa (c,obs))(i:au obs)(j:x.data.toList=a)(f:y.data.toList=b)(t:ay):
  (binOp op t (.string x) (.string y)).events P w #[]=#[]:=by
 subst j f;cases op<;>simp only[HM,dk,kO,reduceCtorEq]at h
 case add =>
  obtain⟨rfl,rfl⟩:=h;have d:¬((x.size+y.size:Nat):Int)>IntKind.i64.max:=by have l:x.data.toList.length=x.size:=iB;have k:y.data.toList.length=y.size:=iB;have e:IntKind.i64.max=9223372036854775807:=rfl;have g:x.data.toList.length+y.data.toList.length<=9223372036854775807:=i;grind
  simp only[binOp,Op.stringOp,d,bJ];rfl
 all_goals (simp only[binOp,Op.stringOp];rfl)
def E8:IntKind->IntKind->Bool
 |.i8,.i8|.i16,.i16|.i32,.i32|.i64,.i64|.u8,.u8|.u16,.u16|.u32,.u32|.u64,.u64=>ab
 |_,_=>ae
def yO{k k':IntKind}(h:E8 k k'=ab):k=k':=by cases k<;>cases k'<;>first|rfl|(cases h;done)
def KV(op:BinOp):C->C->Option (C×List Prop)
 |.int k x,.int k' y=>cond (E8 k k') (HL op k x y) af
 |.str a,.str b=>HM op a b
 |_,_=>af
def fX(op:BinOp)(t:ay)(x y:aC)(k k':IntKind)(n a:Int)(u:aA):(eqGuard op t x y (.int k n) (.int k' a)).run P u=.ok () u:=by cases op<;>rfl
def sH(op:BinOp)(t:ay)(x y:aC)(a b:ByteArray)(u:aA):(eqGuard op t x y (.string a) (.string b)).run P u=.ok () u:=by cases op<;>rfl
def iW(op:BinOp)(t:ay)(x y:aC)(k k':IntKind)(n a:Int)(u:aA)(es:Array Event):(eqGuard op t x y (.int k n) (.int k' a)).events P u es=es:=by cases op<;>rfl
def uX(op:BinOp)(t:ay)(x y:aC)(a b:ByteArray)(u:aA)(es:Array Event):(eqGuard op t x y (.string a) (.string b)).events P u es=es:=by cases op<;>rfl
theorem bx.binOp(h:o.op=.binOp op t x y ty){a b c:C}(A:η x=.e (.one (.c a)))(hb:η y=.e (.one (.c b)))(g:KV op a b=aa (c,obs))(i:au obs):bx P o η σ (.e (.one (.c c))) σ:=by
 refine .quiet λs q _ p=>?_;have h1:=p x;have h2:=p y;rw[A]at h1;rw[hb]at h2;replace h1:=fp h1;replace h2:=fp h2;generalize f:q x=vx at h1;generalize d:q y=vy at h2;cases h1<;>cases h2<;>simp only[KV,reduceCtorEq]at g
 case int.int k n z k' n' ZH =>
  cases r:E8 k k'<;>simp only[r,cond,reduceCtorEq]at g
  cases yO r;obtain⟨v,j,m⟩:=HN (P:=P) (w:=s.w) g i z ZH t s.M;exact⟨v,by simp only[aq,h,bL,f,d,fX,b6,j,cK],m,by simp[aq,h,f,d,fX,iW,Lq g i]⟩
 case str.str =>
  rename_i B l u hl y' l' hy Dk;obtain⟨v,j,m⟩:=HO (P:=P) (w:=s.w) g i u hy t s.M;exact⟨v,by simp only[aq,h,bL,f,d,sH,b6,j,cK],m,by simp[aq,h,f,d,sH,uX,Lr g i u hy]⟩
def TQ(op:UnOp):C->Option C
 |.bool b=>match op with|.not=>aa (.bool (!b))|_=>af
 |_=>af
theorem bx.unOp{op:UnOp}(h:o.op=.unOp op t x){a c:C}(g:η x=.e (.one (.c a)))(d:TQ op a=aa c):bx P o η σ (.e (.one (.c c))) σ:=by
 refine .quiet λs i _ f=>?_;have h1:=f x;rw[g]at h1;replace h1:=fp h1;generalize b:i x=vx at h1;cases h1<;>simp only[TQ,reduceCtorEq]at d
 cases op<;>simp only[reduceCtorEq,dk]at d
 subst d;exact⟨_,by simp only[aq,h,b,Op.unary,bL,cK,b6],Rd.bool,by simp[aq,h,b,Op.unary]⟩
theorem gn.get{xs:List E1}(r:gn σ s vs xs){x:E1}(h:xs[j]?=aa x):∃v,vs[j]?=aa v/\mE σ s v x:=by
 induction vs generalizing xs j with
 |nil=>cases xs<;>simp_all[gn]
 |cons v vs ih =>
  cases xs with
  |nil=>grind
  |cons b cs =>
   cases j with
   |zero=>simp at h;subst h;exact⟨v,rfl,r.1⟩
   |succ j=>simp at h;obtain⟨u,a,c⟩:=ih r.2 h;grind
theorem bx.extract{P:aK}{o:aB}{η:aC->D}{σ:List ba}{x:aC}{j:Nat}(h:o.op=.extract x j){xs:List E1}{e:E1}(i:η x=.fe xs)(d:xs[j]?=aa e):bx P o η σ (.e e) σ:=by refine .quiet λs k _ f=>?_;have h1:=f x;rw[i]at h1;obtain⟨vs,c,g⟩:=h1;obtain⟨v,b,a⟩:=g.get d;refine⟨v,?_,a,?_⟩<;>simp[aq,h,c,Instr.extract,b]
def yd(b o:Nat):Event:=⟨.cell ⟨b,o,af⟩,ae,ae⟩
def EM(b o:Nat):Event:=⟨.cell ⟨b,o,af⟩,ab,ae⟩
theorem dh(b o n:Nat):(⟨b,o,af⟩:Addr).add n=⟨b,o+n,af⟩:=by unfold Addr.add;split<;>simp_all
section
def yg{o:Nat}(h:w.cell? ⟨b,o,af⟩=aa v)(es:Array Event):(load ⟨b,o,af⟩).events P w es=es.push (yd b o):=by rw[events_load,h];rfl
def md{w:aA}{b o:Nat}:∀(n i:Nat) (acc:Array aj) (es:Array Event),(∀j,j<n->∃v,w.cell? ⟨b,o+(i+j),af⟩=aa v) ->
    ∀e∈(loadCellsFrom ⟨b,o,af⟩ i n acc).events P w es,e∈es∨∃j,j<i+n/\e=yd b (o+j)
  | 0,i,acc,es,_=>λe h=>.inl (by simpa[loadCellsFrom]using h)
  | n+1,i,acc,es,c=>λe h=>by
    obtain⟨v,a⟩:=c 0 (by omega);simp only[gT]at a;simp only[loadCellsFrom,aJ,dh,run_load,a,aO,yg a]at h;rcases md n (i+1) (acc.push v) _ (λj d=>by grind) e h with f|⟨j,d,rfl⟩
    · grind
    grind
def qw{o:Nat}{es:Array Event}(h:∀j,j<n->∃v,w.cell? ⟨b,o+j,af⟩=aa v):∀e∈(loadCells ⟨b,o,af⟩ n).events P w es,e∈es∨∃j,j<n/\e=yd b (o+j):=by intro e a;have:=md (P:=P) n 0 #[] es (by grind) e a;grind
def dW{b o:Nat}{t:ay}:∀(vs:List aj) (i:Nat) (a:Array aj) (w:aA) (es:Array Event),w.heap[b]?=aa (.cells a t (0,0))->o+i+vs.length<=a.size->(∀v∈vs,v.oneCell'=ab) ->
    ∀e∈(storeCells ⟨b,o,af⟩ vs i).events P w es,e∈es∨∃j,i<=j/\j<i+vs.length/\e=EM b (o+j)
  | [],_,_,_,_,_,_,_=>λe h=>.inl (by simpa[storeCells]using h)
  | v::rest,i,a,w,es,g,n,l=>λe h=>by
    have hi:o+i<a.size:=by grind
    have c:w.cell? ⟨b,o+i,af⟩=aa a[o+i]:=by simp[aU,g,hi]
    have d:w.frozen? ⟨b,o+i,af⟩=ae:=by simp[World.frozen?,g]
    have k:(store (⟨b,o+i,af⟩:Addr) v).run P w=.ok () (w.setRow b (a.setIfInBounds (o+i) v)):=by grind[run_store,setCell_eq_setRow]
    have f:(store (⟨b,o+i,af⟩:Addr) v).events P w es=es.push (EM b (o+i)):=by rw[events_store P w es _ v _ (l v (by simp)),c];simp only[d,gb,bJ];rfl
    simp only[storeCells,aJ,dh,k,f,aO]at h;rcases dW rest (i+1) (a.setIfInBounds (o+i) v) _ _ (setRow_heap _ _ _ _ _ _ g) (by grind) (λu m=>l u (by grind)) e h with r|⟨j,q,p,rfl⟩
    · grind
    grind
def cN(P:aK)(m:Sem α):Prop:=∀w es,m.events P w es=es
def cN.bind{β:Type}{m:Sem α}{f:α->Sem β}(h:cN P m)(k:∀a,cN P (f a)):cN P (m >>= f):=by
  intro w es;rw[aJ,h w es];cases m.run P w with
  | ok a w'=>exact k a w' es
  | halt x w'=>rfl
def cN.pure{α:Type}{a:α}:cN P (Pure.pure a:Sem α):=λ_ _=>rfl
def cN.stuck{α:Type}{a:String}:cN P (Go.stuck a:Sem α):=λ_ _=>rfl
def cN.unsupported{α:Type}{u:Unsupported}:cN P (Go.unsupported u:Sem α):=λ_ _=>rfl
def cN.sizeOf{t:ay}:cN P (sizeOf t):=λ_ _=>events_sizeOf ..
def cN.underlying{t:ay}:cN P (underlying t):=λ_ _=>events_underlying ..
def cN.zeroValue{t:ay}:cN P (zeroValue t):=λ_ _=>events_zeroValue ..
def cN.newObj{o:Obj}:cN P (newObj o):=λ_ _=>rfl
def cN.newRow{t:ay}{c:Array aj}:cN P (newRow t c):=.bind .newObj λ_=>.pure
def cN.Nc{α β:Type}{f:α->Sem β}(h:∀a,cN P (f a)):∀l:List α,cN P (l.mapM f)
  | []=>by rw[List.mapM_nil];exact .pure
  | a::l=>by rw[mI];exact .bind (h a) λ_=>.bind (cN.Nc h l) λ_=>.pure
def cN.map{α β:Type}{f:α->β}{m:Sem α}(h:cN P m):cN P (Functor.map f m):=λw es=>by rw[Sem.events_map];exact h w es
def cN.Rp{β:Type}{f:α->Sem β}(h:∀a,cN P (f a))(l:Array α):cN P (l.mapM f):=by rw[pC];exact .map (.Nc h _)
def cN.G6{α β:Type}{F:α->β->Sem (ForInStep β)}(h:∀a b,cN P (F a b)):∀(l:List α) (b:β),cN P (forIn l b F)
  | [],b=>by rw[List.forIn_nil];exact .pure
  | a::l,b=>by
    rw[List.forIn_cons];refine .bind (h a b) λr=>?_;cases r with
    | done b=>exact .pure
    | yield b=>exact cN.G6 h l b
theorem cN.build{t:ay}{parts:Array (Nat×aj)}:cN P (Instr.build t parts):=by
  unfold Instr.build;refine .bind .zeroValue λz=>.bind .underlying λd=>?_;cases d<;>first
    | exact .stuck
    | (refine .bind (.Rp (λ_=>.bind .sizeOf λ_=>.pure) _) λpl=>?_
       split
       · exact .pure
       · exact .stuck)
    | (refine .bind .sizeOf λn=>?_
       split
       · exact .pure
       · exact .stuck)
theorem cN.buildSlice{t:ay}{n:Nat}{parts:Array (Nat×aj)}:cN P (Instr.buildSlice t n parts):=by
  unfold Instr.buildSlice;refine .bind .underlying λd=>?_;cases d<;>first
    | exact .stuck
    | (refine .bind .sizeOf λm=>?_
       dsimp only
       have hj:∀(elem:ay) (zero:Array aj),cN P (match Instr.fill (λi=>aa (i*m,m)) (Array.map (λx=>zero[x % zero.size]!) (Array.range (n*m))) parts.toList with
          | some cells=>do
            let a<-Go.newRow elem cells
            Pure.pure (Value.slice (aa a) n n)
          | _=>Go.stuck "buildSlice: a part of the wrong size"):=by
         intro elem zero;split
         · exact .bind .newRow λ_=>.pure
         · exact .stuck
       by_cases b:n*m=0
       · simp only[b,bZ]
         rw[b]at hj;split
         · grind
         · exact .bind .pure λz=>hj _ z
       · simp only[b,bJ]
         split
         · exact .bind .unsupported λ_=>.bind .zeroValue λz=>.bind .pure λz=>hj _ z
         · exact .bind .zeroValue λz=>.bind .pure λz=>hj _ z)
def nP{o:Nat}{L:Loc}(c:L∈s.β)(a:b∈L.bs):nz s (yd b o):=⟨rfl,rfl,.inr (.inl ⟨⟨L,c,a⟩,λh=>by cases h⟩)⟩
def zH{o:Nat}(h:s.M b o=aa v):nz s (yd b o):=⟨rfl,rfl,.inr (.inr ⟨rfl,v,h⟩)⟩
theorem ky{o:Nat}{L:Loc}(c:L∈s.β)(a:b∈L.bs)(d:s.M b o=af):nz s (EM b o):=⟨rfl,rfl,.inr (.inl ⟨⟨L,c,a⟩,λ_=>d⟩)⟩
end
structure TI where
 size:Nat
 bytes:Nat
 agg:Bool
 desc:TypeDesc
 zero:List C
 eq:List TypeDesc:=[]
def pX:TypeDesc->aj->aj->Option Bool
 |.int _,.int k a,.int k' b=>if k=k' then aa (a==b)else af
 |.string,.string a,.string b=>aa (a.toList==b.toList)
 |.bool,.bool a,.bool b=>aa (a==b)
 |_,_,_=>af
def jb:List TypeDesc->List aj->List aj->Option Bool
 |[],[],[]=>aa ab
 |d::ds,v::vs,w::ws=>match pX d v w with
  |some a=>match jb ds vs ws with
   |some b=>aa (a&&b)
   |none=>af
  |none=>af
 |_,_,_=>af
def yU:TypeDesc->Bool
 |.struct _|.array _ _=>ab
 |_=>ae
structure dq(P:aK)(t:ay)(i:TI):Prop where
 QG:P.underlying t=aa i.desc
 agg:yU i.desc=i.agg
 info:∃inf z,P.info? t=aa inf/\inf.size=i.size/\inf.bytes=i.bytes/\inf.zero=aa z/\z.cells.toList.map pP=i.zero.map aa/\(∃cs,z=if i.agg then .agg cs else z)/\i.zero.length=i.size
 eqs:i.eq≠[]->P.eqGuardType P.depth t=ae/\∀(w:aA) (vs ws:List aj) (b:Bool),jb i.eq vs ws=aa b->(Op.equal t (.agg vs.toArray) (.agg ws.toArray)).run P w=.ok b w/\∀es,(Op.equal t (.agg vs.toArray) (.agg ws.toArray)).events P w es=es
def bz:List (Nat×TI)->Nat->Option TI
 |[],_=>af
 |(i,d)::r,t=>cond (av i t) (aa d) (bz r t)
def c6(P:aK)(T:List (Nat×TI)):Prop:=∀t i,bz T t=aa i->dq P t i
section
variable {i:TI}
def dq.run_underlying(h:dq P t i):(underlying t).run P w=.ok i.desc w:=by simp[underlying,h.QG]
def dq.jA(h:dq P t i):(isAgg t).run P w=.ok i.agg w:=by have:=h.agg;unfold Go.isAgg;rw[bL,h.run_underlying];cases a:i.desc<;>rw[a]at this<;>simp[yU]at this<;>simp[this]
def dq.run_sizeOf(h:dq P t i):(sizeOf t).run P w=.ok i.size w:=by obtain⟨a,z,h1,h2,_⟩:=h.info;simp[sizeOf,typeInfo,h1,h2]
def jR{σ:List ba}{s:St}:∀{vs:List aj}{cs:List C},vs.map pP=cs.map aa->dH σ s vs (cs.map A.c)
 |[],[],_=>trivial
 |[],_::_,h=>by grind
 |_::_,[],h=>by grind
 |v::vs,c::cs,h=>by simp only[oE,List.cons.injEq]at h;exact⟨Rd.pP h.1,jR h.2⟩
def dq.HP(h:dq P t i)(σ:List ba)(s:St):∃z,(zeroValue t).run P w=.ok z w/\dH σ s z.cells.toList (i.zero.map A.c):=by obtain⟨a,z,h1,h2,e,d,b,_⟩:=h.info;exact⟨z,by simp[zeroValue,typeInfo,h1,d],jR b⟩
end
def kg:D->Option (List A)
 |.e (.one a)=>aa [a]
 |.e (.agg cs)=>aa cs
 |_=>af
theorem kJ{d:D}{cs:List A}(h:kg d=aa cs)(r:dc σ s v d):dH σ s v.cells.toList cs:=by
 cases d with
 |e x =>
  cases x with
  |one a =>
   cases h;have:=fU.cell r;cases v<;>first|exact⟨r,ar⟩|cases this
  |agg c =>
   cases h;obtain⟨vs,rfl,b⟩:=r;simpa[Value.cells]using b
 |fe xs=>cases h
 |any=>cases h
def bx.newVar{P:aK}{o:aB}{η:aC->D}{σ:List ba}{E:ay}{cs:List A}(h:∀s a,aD σ s->(∀y,dc σ s (a y) (η y))->∃v:aj,(aq a o).run P s.w=((do pure (.value (.pointer (aa (<-newVar E v))))):Sem Next).run P s.w/\dH σ s v.cells.toList cs/\(aq a o).events P s.w #[]=#[]):
  bx P o η σ (.e (.one (.ptr σ.length 0))) (σ++[.cells E cs]):=by
 intro s a hh hr;obtain⟨v,h1,h2,b⟩:=h s a hh hr;refine⟨.value (.pointer (aa ⟨s.w.heap.size,0,af⟩)),s.fj E v.cells.toList,?_,?_,hh.fj h2,.fj s E _ _,by rw[b];exact .nil⟩
 .rw[h1];simp[Go.newVar,newRow,St.fj]
 .refine⟨by simp,⟨.pointer (aa ⟨s.w.heap.size,0,af⟩),[s.w.heap.size]⟩,s.w.heap.size,?_,rfl,rfl⟩;simp[St.fj,<-hh.len]
theorem bx.alloc{P:aK}{T:List (Nat×TI)}(b:c6 P T){o:aB}{η:aC->D}{σ:List ba}{E:ay}(h:o.op=.alloc E){i:TI}(hi:bz T E=aa i):
  bx P o η σ (.e (.one (.ptr σ.length 0))) (σ++[.cells E (i.zero.map A.c)]):=by refine .newVar λs f _ _=>?_;obtain⟨z,a,d⟩:=(b E i hi).HP (w:=s.w) σ s;exact⟨z,by simp[aq,h,Instr.alloc,a],d,by simp[aq,h,Instr.alloc,a,Go.newVar,newRow]⟩
theorem bx.box{P:aK}{o:aB}{η:aC->D}{σ:List ba}{E:ay}{x:aC}(h:o.op=.box E x){cs:List A}(b:kg (η x)=aa cs):
  bx P o η σ (.e (.one (.ptr σ.length 0))) (σ++[.cells E cs]) :=
 .newVar λs a _ c=>⟨a x,by simp[aq,h,Instr.box],kJ b (c x),by simp[aq,h,Instr.box,Go.newVar,newRow]⟩
def nt{α:Type}:Nat->List α->Option (List α)
 |0,_=>aa []
 |n+1,x::xs=>match nt n xs with|some r=>aa (x::r)|none=>af
 |_+1,[]=>af
def l6{α:Type}:∀{n:Nat}{l r:List α},nt n l=aa r->r=l.take n/\r.length=n
 |0,l,r,h=>by cases h;simp
 |n+1,[],r,h=>by simp[nt]at h
 |n+1,x::xs,r,h=>by
  simp only[nt]at h;cases a:nt n xs with
  |none=>grind
  |some q =>
   simp[a]at h;subst h;obtain⟨c,b⟩:=l6 a;grind
def eh{α:Type}:Nat->List α->Option α
 |_,[]=>af
 |0,x::_=>aa x
 |n+1,_::xs=>eh n xs
theorem cT{α:Type}:∀{n:Nat}{l:List α}{x:α},eh n l=aa x->l[n]?=aa x
 |_,[],_,h=>by simp[eh]at h
 |0,x::_,_,h=>by simpa[eh]using h
 |n+1,_::xs,_,h=>by simpa using cT (n:=n) (l:=xs) h
def gH{α:Type}:Nat->List α->List α
 |0,l=>l
 |_+1,[]=>[]
 |n+1,_::xs=>gH n xs
def mf{α:Type}:∀(n:Nat)(l:List α),gH n l=l.drop n
 |0,_=>by simp[gH]
 |_+1,[]=>by simp[gH]
 |n+1,_::xs=>by simp[gH,mf n xs]
def lU(i:TI)(cs:List A):Option E1 :=
 match i.agg with
 |true=>match nt i.size cs with|some r=>aa (.agg r)|none=>af
 |false=>match eh 0 cs with|some a=>aa (.one a)|none=>af
def lF{i:TI}(l:dq P t i){cs:List A}{e:E1}(x:∀(j:Nat) (v:aj),vs[j]?=aa v->s.w.cell? ⟨b,off+j,af⟩=aa v)(k:dH σ s vs cs)(f:lU i cs=aa e):
  ∃v,(loadVar t ⟨b,off,af⟩).run P s.w=.ok v s.w/\mE σ s v e:=by
 simp only[loadVar,bL,l.jA,b6];cases n:i.agg<;>simp only[lU,n]at f
 .cases d:eh 0 cs with
  |none=>grind
  |some a =>
   simp[d]at f;subst f;obtain⟨v,q,h⟩:=k.get (cT d);refine⟨v,?_,h⟩;grind[run_load]
 .cases d:nt i.size cs with
  |none=>grind
  |some r =>
   simp[d]at f;subst f;obtain⟨p,o⟩:=l6 d;have c:=k.take i.size;rw[<-p]at c;have m:(vs.take i.size).length=i.size:=by rw[c.length,o]
   have g:=run_loadCells_list (P:=P) s.w ⟨b,off,af⟩ (vs.take i.size) (λj v u=>by grind[dh])
   rw[m]at g;refine⟨.agg (vs.take i.size).toArray,?_,vs.take i.size,rfl,c⟩;simp[l.run_sizeOf,g]
def iD{i:TI}(f:dq P t i)(k:∀j,j<n->∃v,w.cell? ⟨b,off+j,af⟩=aa v)(c:(if i.agg then i.size else 1)<=n):
  ∀e∈(loadVar t ⟨b,off,af⟩).events P w #[],∃j,j<n/\e=yd b (off+j):=by
 intro e a;simp only[loadVar,aJ,f.jA,aO,events_isAgg]at a;cases g:i.agg
 .rw[g]at c a;obtain⟨v,d⟩:=k 0 (by grind);simp only[gT]at d;simp only[gb,bJ,yg d]at a;rcases Array.mem_push.1 a with h|rfl
  .grind
  .exact⟨0,by grind,rfl⟩
 .rw[g]at c a;simp only[bZ]at c;simp only[bZ,aJ,f.run_sizeOf,aO,events_sizeOf]at a;have key:∀e∈(loadCells ⟨b,off,af⟩ i.size).events P w #[],∃j,j<n/\e=yd b (off+j):=by
   intro e a;rcases qw (P:=P) (λj l=>k j (by omega)) e a with h|⟨j,l,rfl⟩
   .grind
   grind
  apply key;generalize(loadCells ⟨b,off,af⟩ i.size).run P w=r at a;cases r with
  |ok v w'=>simpa using a
  |halt x w'=>simpa using a
theorem nV{i:TI}{cs:List A}{e:E1}(h:lU i cs=aa e):(if i.agg then i.size else 1)<=cs.length:=by
 unfold lU at h;cases b:i.agg<;>rw[b]at h
 .cases cs with
  |nil=>simp[eh]at h
  |cons c cs=>simp
 .simp only at h;cases a:nt i.size cs with
  |none=>grind
  |some r =>
   obtain⟨f,d⟩:=l6 a;grind
theorem bx.DI{T:List (Nat×TI)}(y:c6 P T)(h:o.op=.load t x){cs:List A}{i:TI}{e:E1}(F:η x=.e (.one (.ptr l off)))(C:σ[l]?=aa (.cells E cs))(hi:bz T t=aa i)(q:lU i (gH off cs)=aa e):bx P o η σ (.e e) σ:=by
 refine .mL λs D hh hr=>?_
 have h1:=hr x;rw[F]at h1;obtain⟨_,L,b,u,f,p⟩:=h1;obtain⟨k,vs,rfl,B,g,_⟩:=hh.box l _ L C u;simp at f;subst f;rw[mf]at q;obtain⟨v,d,m⟩:=lF (s:=s) (σ:=σ) (P:=P) (y t i hi) (b:=k) (off:=off) (vs:=vs.drop off) (cs:=cs.drop off) (e:=e) (λj v hj=>by
  simp only[aU,B]
  grind) (g.drop off) q
 refine⟨v,by simp[aq,h,p,Instr.loadAt,Instr.sureAddr,d],m,λr a=>?_⟩;have c:r∈(loadVar t ⟨k,off,af⟩).events P s.w #[]:=by
  have e:aq D o=(do pure (.value (<-loadVar t ⟨k,off,af⟩))):=by simp[aq,h,p,Instr.loadAt,Instr.sureAddr]
  rw[e]at a;simpa[d]using a
 have z:(vs.drop off).length=(cs.drop off).length:=(g.drop off).length;obtain⟨j,hj,rfl⟩:=iD (y t i hi) (n:=(vs.drop off).length) (λj hj=>by refine⟨(vs.drop off)[j],?_⟩;simp only[aU,B];simp at hj⊢<;>omega) (by grind[nV]) r c
 exact nP (bD u) (by simp)
theorem bx.Hf{T:List (Nat×TI)}(B:c6 P T)(h:o.op=.load t x){cs:List C}{i:TI}{e:E1}(F:η x=.e (.one (.c (.rp cs))))(hi:bz T t=aa i)(u:lU i (cs.map A.c)=aa e):bx P o η σ (.e e) σ:=by
 refine .mL λs z hh hr=>?_;have h1:=hr x;rw[F]at h1;have h2:=fp h1;generalize k:z x=vx at h2;cases h2;rename_i b off f q E;have p:∀(n:Nat) (ds:List C),(∀j c,ds[j]?=aa c->Rd s.M (f (n+j)) c)->dH σ s ((a9 ds.length).map λj=>f (n+j)) (ds.map A.c):=by
  intro n ds;induction ds generalizing n with
  |nil=>intro _;trivial
  |cons d ds ih =>
   intro D;rw[gd,x3];refine⟨D 0 d rfl,?_⟩;have:=ih (n+1) (λj c hj=>by have:=D (j+1) c (by grind);grind);grind[Function.comp_def]
 obtain⟨v,l,r⟩:=lF (s:=s) (σ:=σ) (P:=P) (B t i hi) (b:=b) (off:=off) (vs:=(a9 cs.length).map λj=>f (0+j)) (cs:=cs.map A.c) (e:=e) (λj v hj=>by
  simp only[mJ,bo]at hj;by_cases m:j<cs.length
  .simp[m]at hj;subst hj;exact hh.mem _ _ _ (q j cs[j] (bd m))
  grind) (p 0 cs (by grind)) u
 refine⟨v,by simp[aq,h,k,Instr.loadAt,Instr.sureAddr,l],r,λy a=>?_⟩;have g:y∈(loadVar t ⟨b,off,af⟩).events P s.w #[]:=by
  have e:aq z o=(do pure (.value (<-loadVar t ⟨b,off,af⟩))):=by simp[aq,h,k,Instr.loadAt,Instr.sureAddr]
  rw[e]at a;simpa[l]using a
 obtain⟨j,hj,rfl⟩:=iD (B t i hi) (n:=cs.length) (λj hj=>⟨f j,hh.mem _ _ _ (q j cs[j] (bd hj))⟩) (by have:=nV u;grind) y g;exact zH (q j cs[j] (bd hj))
def eQ{α:Type}:Nat->List α->List α->Option (List α)
 |0,[],l=>aa l
 |0,n::ns,_::cs=>match eQ 0 ns cs with|some r=>aa (n::r)|none=>af
 |k+1,ns,c::cs=>match eQ k ns cs with|some r=>aa (c::r)|none=>af
 |_,_,[]=>af
def oY{α:Type}:∀{off:Nat}{new l r:List α},eQ off new l=aa r->off+new.length<=l.length/\r=l.take off++new++l.drop (off+new.length)
 |0,[],l,r,h=>by cases l<;>cases h<;>simp
 |0,n::ns,c::cs,r,h=>by
  simp only[eQ]at h;cases a:eQ 0 ns cs with
  |none=>grind
  |some q =>
   simp[a]at h;subst h;obtain⟨d,b⟩:=oY a;grind
 |0,n::ns,[],r,h=>by simp[eQ]at h
 |k+1,ns,c::cs,r,h=>by
  simp only[eQ]at h;cases a:eQ k ns cs with
  |none=>grind
  |some q =>
   simp[a]at h;subst h;obtain⟨d,b⟩:=oY a;grind
 |k+1,ns,[],r,h=>by simp[eQ]at h
def dH.eQ{new:List aj}{cs OV r:List A}(h:AM.eQ off OV cs=aa r)(h1:dH σ s vs cs)(h2:dH σ s new OV):
  off+new.length<=vs.length/\dH σ s (vs.take off++new++vs.drop (off+new.length)) r:=by obtain⟨k1,rfl⟩:=oY h;rw[h2.length,h1.length];refine⟨k1,((h1.take off).append h2).append (by have:=h1.drop (off+OV.length);exact this)⟩
theorem bx.store{T:List (Nat×TI)}(D:c6 P T)(h:o.op=.store t x y){cs new lZ:List A}{i:TI}(H:η x=.e (.one (.ptr l off)))(G:σ[l]?=aa (.cells E cs))(hi:bz T t=aa i)(J:kg (η y)=aa new)(B:new.length=i.size)(I:eQ off new cs=aa lZ):
  bx P o η σ .any (σ.set l (.cells E lZ)):=by
 intro s d hh hr;have h1:=hr x;rw[H]at h1;obtain⟨_,L,b,q,n,z⟩:=h1;obtain⟨p,vs,rfl,C,u,m⟩:=hh.box l _ L G q;simp at n;subst n;have a:=kJ J (hr y);obtain⟨k1,M⟩:=dH.eQ I u a;obtain⟨w1,w2⟩:=hh.write G q rfl M;refine⟨.skip,_,?_,rfl,w1,w2,?_⟩
 rotate_left
 .intro F c;have f:(d y).cells.size=i.size:=by rw[<-B,<-a.length,iB]
  have e:aq d o=(do storeVar t ⟨p,off,af⟩ (d y);pure .skip):=by simp[aq,h,z,Instr.storeAt,Instr.sureAddr]
  rw[e]at c;have g:F∈(storeCells ⟨p,off,af⟩ (d y).cells.toList).events P s.w #[]:=by
   simp only[storeVar,aJ,(D t i hi).run_sizeOf,f,aO,events_sizeOf,dn,eN,bJ,bL,b6,Sem.events_pure]at c;generalize(storeCells ⟨p,off,af⟩ (d y).cells.toList).run P s.w=r at c;cases r with
   |ok v w'=>simpa using c
   |halt x w'=>simpa using c
  rcases dW (d y).cells.toList 0 vs.toArray s.w #[] C (by grind) a.cell F g with K|⟨j,_,_,rfl⟩
  .grind
  .exact ky (bD q) (by simp) (m _)
 have k:=run_storeCells_at P p off E (d y).cells.toList 0 vs.toArray s.w C (by grind) (a.cell);have f:(d y).cells.size=i.size:=by rw[<-B,<-a.length,iB]
 simp only[gT]at k;simp[aq,h,z,Instr.storeAt,Instr.sureAddr,storeVar,(D t i hi).run_sizeOf,f,k]
def iY(T:List (Nat×TI))(t:ay)(f:Nat):Option (Nat×TI) :=
 match bz T t with
 |some i=>match i.desc with
  |.struct fs=>match eh f fs.toList with
   |some fl=>match bz T fl.type with
    |some j=>cond (av j.size 0) af (aa (fl.offset,j))
    |none=>af
   |none=>af
  |_=>af
 |none=>af
def rR{T:List (Nat×TI)}(c:c6 P T){f:Nat}{j:TI}(h:iY T t f=aa (off,j)):
  ∃i fs fl,bz T t=aa i/\i.desc=.struct fs/\fs[f]?=aa fl/\fl.offset=off/\bz T fl.type=aa j/\j.size≠0/\dq P t i/\dq P fl.type j:=by
 unfold iY at h;split at h
 .rename_i i hi;split at h
  .rename_i fs Vo;split at h
   .rename_i fl ZI;split at h
    .rename_i d b;cases a:av d.size 0<;>simp[a]at h
     obtain⟨rfl,rfl⟩:=h;refine⟨i,fs,fl,hi,Vo,by simpa using cT ZI,rfl,b,?_,c _ _ hi,c _ _ b⟩;intro e;rw[e]at a;cases a
    grind
   grind
  grind
 grind
def lG{T:List (Nat×TI)}(e:c6 P T){f:Nat}{j:TI}(h:iY T t f=aa (off,j))(b o:Nat)(w:aA):
  (Instr.fieldAt t (.pointer (aa ⟨b,o,af⟩)) f).run P w=.ok (.pointer (aa ⟨b,o+off,af⟩)) w:=by obtain⟨i,fs,fl,n,g,c,a,m,l,d,k⟩:=rR e h;simp[Instr.fieldAt,d.run_underlying,g,c,Instr.sureAddr,fieldPlace,k.run_sizeOf,l,dh,a]
def mV{T:List (Nat×TI)}(d:c6 P T){f:Nat}{j:TI}(h:iY T t f=aa (off,j))(b o:Nat)(w:aA)(es:Array Event):
  (Instr.fieldAt t (.pointer (aa ⟨b,o,af⟩)) f).events P w es=es:=by obtain⟨i,fs,fl,n,e,a,m,l,k,c,g⟩:=rR d h;simp[Instr.fieldAt,c.run_underlying,e,a,Instr.sureAddr,fieldPlace,g.run_sizeOf,k]
def bx.qJ{T:List (Nat×TI)}(g:c6 P T){f:Nat}(h:o.op=.fieldAddr t x f){j:TI}(n:η x=.e (.one (.ptr l off)))(d:iY T t f=aa (k,j)):bx P o η σ (.e (.one (.ptr l (off+k)))) σ:=by refine .quiet λs p hh hr=>?_;have h1:=hr x;rw[n]at h1;obtain⟨i,L,b,m,a,c⟩:=h1;exact⟨.pointer (aa ⟨b,off+k,af⟩),by simp[aq,h,c,lG g d],⟨i,L,b,m,a,rfl⟩,by simp[aq,h,c,mV g d]⟩
theorem bx.sA{T:List (Nat×TI)}(g:c6 P T){f:Nat}(h:o.op=.fieldAddr t x f){cs:List C}{j:TI}(n:η x=.e (.one (.c (.rp cs))))(d:iY T t f=aa (k,j)):bx P o η σ (.e (.one (.c (.rp (gH k cs))))) σ:=by
 refine .quiet λs m hh hr=>?_;have h1:=hr x;rw[n]at h1;have h2:=fp h1;generalize a:m x=vx at h2;cases h2;rename_i b o i p l;refine⟨.pointer (aa ⟨b,o+k,af⟩),by simp[aq,h,a,lG g d],?_,by simp[aq,h,a,mV g d]⟩;rw[mf];refine Rd.rp b (o+k) (λj=>i (k+j)) (λj c hj=>?_) (λj c hj=>?_)
 .grind
 grind
def HQ{i:TI}(g:dq P t i){cs:List A}(r:dH σ s vs cs){e:E1}(b:lU i (gH off cs)=aa e)(w:aA):
  ∃v,(part t vs.toArray off).run P w=.ok v w/\mE σ s v e/\∀es,(part t vs.toArray off).events P w es=es:=by
 simp only[part,bL,g.jA,b6,aJ,aO,events_isAgg];rw[mf]at b;cases j:i.agg<;>simp only[lU,j]at b
 .cases c:eh 0 (cs.drop off)with
  |none=>grind
  |some a =>
   simp[c]at b;subst b;obtain⟨v,h,f⟩:=(r.drop off).get (cT c);simp at h;refine⟨v,?_,f,λes=>?_⟩<;>simp[h]
 .cases c:nt i.size (cs.drop off)with
  |none=>grind
  |some q =>
   simp[c]at b;subst b;obtain⟨k,l⟩:=l6 c;have d:=(r.drop off).take i.size;rw[<-k]at d;refine⟨.agg (vs.toArray.extract off (off+i.size)),by simp[g.run_sizeOf],⟨(vs.drop off).take i.size,?_,d⟩,λes=>by simp⟩;simp
theorem bx.field{P:aK}{T:List (Nat×TI)}(r:c6 P T){o:aB}{η:aC->D}{σ:List ba}{t:ay}{x:aC}{f:Nat}(h:o.op=.field t x f){cs:List A}{k:Nat}{j:TI}{e:E1}(u:η x=.e (.agg cs))(q:iY T t f=aa (k,j))(p:lU j (gH k cs)=aa e):bx P o η σ (.e e) σ:=by refine .quiet λs B hh hr=>?_;have h1:=hr x;rw[u]at h1;obtain⟨vs,g,a⟩:=h1;obtain⟨i,fs,fl,h1,h2,m,l,z,C,n,y⟩:=rR r q;obtain⟨v,b,c,d⟩:=HQ y a p s.w;exact⟨v,by simp[aq,h,g,Instr.field,n.run_underlying,h2,m,asAgg,l,b],c,by simp[aq,h,g,Instr.field,n.run_underlying,h2,m,asAgg,l,d]⟩
theorem bx.sC(h:o.op=.nilCheck x)(g:η x=.e (.one (.ptr l off))):bx P o η σ (.e (.one (.ptr l off))) σ:=by refine .quiet λs d hh hr=>?_;have h1:=hr x;rw[g]at h1;have a:=h1;obtain⟨i,L,b,j,f,c⟩:=h1;exact⟨d x,by simp[aq,h,c],a,by simp[aq,h,c]⟩
theorem bx.uH(h:o.op=.nilCheck x){cs:List C}(d:η x=.e (.one (.c (.rp cs)))):bx P o η σ (.e (.one (.c (.rp cs)))) σ:=by refine .quiet λs b hh hr=>?_;have h1:=hr x;rw[d]at h1;have h2:=fp h1;generalize a:b x=vx at h2;cases h2;exact⟨_,by simp[aq,h,a];rfl,by grind,by simp[aq,h,a]⟩
def Fc(new:List aj):∀(j off:Nat)(cs:Array aj),off+j+new.length<=cs.size ->
  ((new.zipIdx j).foldl (λcs (x:aj×Nat)=>cs.setIfInBounds (off+x.2) x.1) cs).toList=cs.toList.take (off+j)++new++cs.toList.drop (off+j+new.length):=by
 induction new with
 |nil=>intro j off cs _;simp
 |cons v vs ih =>
  intro j off cs h;simp only[List.zipIdx_cons,iT];rw[ih (j+1) off _ (by grind)];have:=list_seg_step cs.toList (off+j) v vs (by grind);simpa[Array.toList_setIfInBounds,Nat.add_assoc]using this
def xe(place:Nat->Option (Nat×Nat)):List (Nat×List A)->List A->Option (List A)
 |[],cs=>aa cs
 |(i,new)::rest,cs=>match place i with
  |some (off,size)=>match av new.length size with
   |true=>match eQ off new cs with
    |some r=>xe place rest r
    |none=>af
   |false=>af
  |none=>af
def uY{σ:List ba}{s:St}{place place':Nat->Option (Nat×Nat)}(j:∀i p,place i=aa p->place' i=aa p):∀{parts:List (Nat×List A)}{vparts:List (Nat×aj)}{cs r:List A}{vs:Array aj},
  xe place parts cs=aa r->vparts.map (·.1)=parts.map (·.1)->(∀(k:Nat) (p:Nat×List A) (q:Nat×aj),parts[k]?=aa p->vparts[k]?=aa q->dH σ s q.2.cells.toList p.2)->dH σ s vs.toList cs ->
  ∃d,Instr.fill place' vs vparts=aa d/\dH σ s d.toList r
 |[],[],cs,r,vs,h,_,_,b=>by cases h;exact⟨vs,rfl,b⟩
 |[],_::_,cs,r,vs,h,a,_,b=>by grind
 |_::_,[],cs,r,vs,h,a,_,b=>by grind
 |(i,new)::rest,(g,v)::RR,cs,r,vs,h,a,m,b=>by
  simp only[oE,List.cons.injEq]at a;obtain⟨rfl,a⟩:=a;simp only[xe]at h;cases c:place g with
  |none=>grind
  |some p =>
   obtain⟨off,size⟩:=p;simp only[c]at h;cases o:av new.length size with
   |false=>grind
   |true =>
    simp only[o]at h;cases l:eQ off new cs with
    |none=>grind
    |some q =>
     simp only[l]at h;have e:=m 0 (g,new) (g,v) rfl rfl;simp only at e;have z:=e.length;have n:new.length=size:=bT o;obtain⟨k1,B⟩:=dH.eQ l b e;have y:=Fc v.cells.toList 0 off vs (by grind);have f:v.cells.size=size:=by grind
     have u:off+size<=vs.size:=by grind
     obtain⟨d,w,t⟩:=uY (σ:=σ) (s:=s) j (parts:=rest) (vparts:=RR) (cs:=q) (r:=r)
      (vs:=v.cells.zipIdx.foldl (λcs (x:aj×Nat)=>cs.setIfInBounds (off+x.2) x.1) vs) h a (λk p q w t=>m (k+1) p q (by grind) (by grind)) (by grind[Array.toList_zipIdx])
     refine⟨d,?_,t⟩;simp only[Instr.fill,j _ _ c,f,dn,eN,kr,Bool.false_or,bc];grind
def oZ(T:List (Nat×TI)):List Field->Option (List (Nat×Nat))
 |[]=>aa []
 |f::fs=>match bz T f.type with
  |some j=>match oZ T fs with
   |some r=>aa ((f.offset,j.size)::r)
   |none=>af
  |none=>af
def uZ{P:aK}{T:List (Nat×TI)}(c:c6 P T):∀{fs:List Field}{r:List (Nat×Nat)},oZ T fs=aa r->fs.mapM (λf=>(P.info? f.type).map λi=>(f.offset,i.size))=aa r
 |[],r,h=>by cases h;simp
 |f::fs,r,h=>by
  simp only[oZ]at h;cases a:bz T f.type with
  |none=>grind
  |some j =>
   cases b:oZ T fs with
   |none=>grind
   |some q =>
    simp[a,b]at h;subst h;obtain⟨d,z,g,e,_⟩:=(c _ _ a).info;simp[mI,g,e,uZ c b]
def n9(η:aC->D):List (Nat×aC)->Option (List (Nat×List A))
 |[]=>aa []
 |(i,x)::r=>match kg (η x)with
  |some cs=>match n9 η r with
   |some q=>aa ((i,cs)::q)
   |none=>af
  |none=>af
def rS{σ:List ba}{s:St}{a:aC->aj}{η:aC->D}(c:∀y,dc σ s (a y) (η y)):∀{l:List (Nat×aC)}{q:List (Nat×List A)},n9 η l=aa q ->
  (l.map λ(i,x)=>(i,a x)).map (·.1)=q.map (·.1)/\∀(k:Nat) (p:Nat×List A) (u:Nat×aj),q[k]?=aa p->(l.map λ(i,x)=>(i,a x))[k]?=aa u->dH σ s u.2.cells.toList p.2
 |[],q,h=>by cases h;simp
 |(i,x)::r,q,h=>by
  simp only[n9]at h;cases d:kg (η x)with
  |none=>grind
  |some cs =>
   cases b:n9 η r with
   |none=>grind
   |some q' =>
    simp[d,b]at h;subst h;obtain⟨f,e⟩:=rS c b;grind[kJ]
def yy(T:List (Nat×TI))(η:aC->D)(t:ay)(parts:List (Nat×aC)):Option (List A) :=
 match bz T t with
 |some i=>match i.desc with
  |.struct fs=>match oZ T fs.toList with
   |some pl=>match n9 η parts with
    |some ps=>xe (λk=>eh k pl) ps (i.zero.map A.c)
    |none=>af
   |none=>af
  |_=>af
 |none=>af
theorem bx.build{P:aK}{T:List (Nat×TI)}(g:c6 P T){o:aB}{η:aC->D}{σ:List ba}{t:ay}{parts:Array (Nat×aC)}(h:o.op=.build t parts){cs:List A}(b:yy T η t parts.toList=aa cs):bx P o η σ (.e (.agg cs)) σ:=by
 refine .quiet λs v hh hr=>?_;unfold yy at b;cases hi:bz T t with
 |none=>grind
 |some i =>
  simp only[hi]at b;cases j:i.desc with
  |struct fs =>
   simp only[j]at b;cases f:oZ T fs.toList with
   |none=>grind
   |some pl =>
    simp only[f]at b;cases d:n9 η parts.toList with
    |none=>grind
    |some ps =>
     simp only[d]at b;obtain⟨q,z,m,C,F,r,n,B,G⟩:=(g t i hi).info;obtain⟨y,p2⟩:=rS (σ:=σ) (s:=s) hr d;obtain⟨c,l,u⟩:=uY (σ:=σ) (s:=s) (place':=λk=>pl.toArray[k]?) (λk p E=>by grind[cT]) b y p2 (jR n);have hb:P.built t (parts.map λ(i,x)=>(i,v x)).toList=aa c:=by unfold Program.built;have a:=(g t i hi).QG;rw[j]at a;simp only[m,a,r,uZ g f];simpa using l
     refine⟨.agg c,?_,⟨c.toList,by simp,u⟩,?_⟩
     .simp only[aq,h,bL,run_build s.w t _ c hb,b6,cK]
     .simp only[aq,h,aJ,run_build s.w t _ c hb,aO,Sem.events_pure];exact cN.build s.w #[]
  |_=>grind
theorem O2(hi:i<n)(b:j<k):i*k+j<n*k:=by have a:(i+1)*k<=n*k:=dY k (by omega);grind
theorem Lu(a:j<k):(i*k+j) / k=i:=by grind[Nat.mul_comm,Nat.mul_add_div,Nat.div_eq_of_lt]
theorem Lv(a:j<k):(i*k+j) % k=j:=by rw[Nat.mul_comm,Nat.mul_add_mod,Nat.mod_eq_of_lt a]
def Flat.nil:Flat M k 0 es []:=⟨by simp,by omega,by omega⟩
def cD(n:Nat)(f g:Nat->List C):Nat->List C:=λi=>if i<n then f i else g (i-n)
def Flat.append{m:Nat}{es':Nat->List C}{b:List aj}(h:Flat M k n es vs)(d:Flat M k m es' b):Flat M k (n+m) (cD n es es') (vs++b):=by
 refine⟨by simp[h.len,d.len,gU],λi hi=>?_,λi hi j c hj=>?_⟩
 .simp only[cD];split
  .rename_i a;exact h.width i a
  .exact d.width _ (by omega)
 .simp only[cD]at hj;split at hj
  .rename_i a;obtain⟨v,h1,h2⟩:=h.rd i a j c hj;grind
  .rename_i e;obtain⟨v,h1,h2⟩:=d.rd _ (by omega) j c hj;refine⟨v,?_,h2⟩;have e1:i*k+j=vs.length+((i-n)*k+j):=by rw[h.len,<-Nat.add_assoc,<-gU,x8 (by omega)]
   grind
def Flat.cell{M:Mem}{k n:Nat}{es:Nat->List C}{vs:List aj}(h:Flat M k n es vs):∀v∈vs,v.oneCell'=ab:=by
 intro v a;obtain⟨p,b,rfl⟩:=dz a;rw[h.len]at b;have c:0<k:=by grind
 have hi:p / k<n:=rv (by grind);have hj:p % k<k:=jy _ c;have d:=h.width _ hi;obtain⟨v,h1,h2⟩:=h.rd (p / k) hi (p % k) ((es (p / k))[p % k]'(by omega)) (bd (by omega));have e:p / k*k+p % k=p:=oz p k;rw[e]at h1;rw[bd (by grind)]at h1;simp at h1;rw[h1];have:=Rd.cell h2;cases v<;>simp_all[cO,Value.oneCell']
def Rd.flat{t:Bool}(h:Rd M v (.sl t k n es)):
  ∃a cap vs,v=.slice a n cap/\n<=cap/\cap<=9223372036854775807/\(t=ab->cap=n)/\Flat M k n es vs/\∀p u,vs[p]?=aa u->∃b off,a=aa ⟨b,off,af⟩/\M b (off+p)=aa u:=by
 cases h with
 |@sl a _ cap _ _ _ b off f c hb ht hk ha hm hr =>
  refine⟨a,cap,(a9 (n*k)).map λp=>f (p / k) (p % k),rfl,c,hb,ht,⟨by simp,hk,?_⟩,?_⟩
  .grind [O2,Lu,Lv]
  .intro p u g;simp only[mJ]at g;by_cases e:p<n*k
   .simp[e]at g;subst g;have d:0<k:=by grind
    have hi:p / k<n:=rv (by grind);have hj:p % k<k:=jy _ d;have i:=hk _ hi;have:=hm (p / k) hi (p % k) ((es (p / k))[p % k]'(by omega)) (bd (by omega));refine⟨b,off,ha (Nat.lt_of_le_of_lt (jJ _) hi),?_⟩;grind[Nat.div_add_mod']
   grind
def Rd.pH(h:Flat M k n es vs){a:Option Addr}{cap:Nat}{t:Bool}(f:0<n->a=aa ⟨b,off,af⟩)(d:n<=cap)(hb:cap<=9223372036854775807)(e:t=ab->cap=n)(g:∀p u,vs[p]?=aa u->M b (off+p)=aa u):Rd M (.slice a n cap) (.sl t k n es):=by
 refine .sl b off (λi j=>(vs[i*k+j]?).getD ah) d hb e h.width f (λi hi j c hj=>?_) (λi hi j c hj=>?_)
 .obtain⟨v,h1,h2⟩:=h.rd i hi j c hj;grind
 .obtain⟨v,h1,h2⟩:=h.rd i hi j c hj;grind
def dE(i:aD σ s){t:Bool}(h:Rd s.M v (.sl t k n es)):
  ∃vs,Flat s.M k n es vs/\(Builtin.firstCells k n v).run P s.w=.ok vs.toArray s.w/\Builtin.lenOf v=pure n:=by
 obtain⟨a,cap,vs,rfl,e,p,o,d,f⟩:=h.flat;refine⟨vs,d,?_,rfl⟩;have m:vs.length=n*k:=d.len;cases a with
 |none =>
  have:vs=[]:=by
   cases vs with
   |nil=>rfl
   |cons u q=>obtain⟨b,off,c,_⟩:=f 0 u rfl;cases c
  subst this;rfl
 |some ad =>
  simp only[Builtin.firstCells];rw[<-m];refine run_loadCells_list s.w ad vs λj u g=>?_;obtain⟨b,off,c,l⟩:=f j u g;cases c;rw[dh];exact i.mem _ _ _ l
def bx.Hd{T:List (Nat×TI)}(n:c6 P T)(h:o.op=.index t x y){l:List UInt8}{j:Int}{k:IntKind}{i:TI}{m:Nat}(hi:bz T t=aa i)(p:i.desc=.string)(u:η x=.e (.one (.c (.str l))))(r:η y=.e (.one (.c (.int k j))))(hj:j=m)(v:m<l.length):bx P o η σ (.e (.one (.c (.int .u8 (l[m]).toNat)))) σ:=by
 refine .quiet λs g hh hr=>?_;have h1:=hr x;have h2:=hr y;rw[u]at h1;rw[r]at h2;replace h1:=fp h1;replace h2:=fp h2;generalize b:g x=vx at h1;generalize a:g y=vy at h2;cases h1 with
 |@str sb _ q hl =>
 cases h2;subst q;have f:sb[m]?=aa (sb.data.toList[m]):=by
  have hm':m<sb.size:=by have e:sb.data.toList.length=sb.size:=iB;omega
  rw[getElem?_pos sb m hm'];congr 1
 refine⟨.int .u8 (sb.data.toList[m]).toNat,?_,Rd.int ?_,?_⟩
 rotate_left 2
 .have d:=(n t i hi).run_underlying (w:=s.w);rw[p]at d;simp[aq,h,b,a,Instr.index,asIntOf,d,hj,f]
 .have d:=(n t i hi).run_underlying (w:=s.w);rw[p]at d;simp[aq,h,b,a,Instr.index,asIntOf,d,hj,f]
 .have:=(sb.data.toList[m]).toNat_lt;simp only[bq];omega
def bx.indexAddr{T:List (Nat×TI)}(A:c6 P T)(h:o.op=.indexAddr t x y){i ie:TI}(hi:bz T t=aa i)(G:i.desc=.slice E)(D:bz T E=aa ie){tt:Bool}{j:Int}{k:IntKind}{m:Nat}(F:∀s v,dc σ s v (η x)->Rd s.M v (.sl tt ie.size n es))(C:η y=.e (.one (.c (.int k j))))(hj:j=m)(d:m<n):
  bx P o η σ (.e (.one (.c (.rp (es m))))) σ:=by
 refine .quiet λs u hh hr=>?_;have h1:=F s _ (hr x);have h2:=hr y;rw[C]at h2;replace h2:=fp h2;generalize r:u x=vx at h1;generalize p:u y=vy at h2;cases h2;cases h1 with
 |@sl a _ cap _ _ _ b off f z hb ht hk ha hm' M8 =>
 have g:0<n:=by omega
 have B:=(A t i hi).run_underlying (w:=s.w);rw[G]at B;refine⟨.pointer (aa ⟨b,off+m*ie.size,af⟩),?_,Rd.rp b (off+m*ie.size) (f m) (λq c l=>hm' m d q c l) (λq c l=>M8 m d q c l),?_⟩<;>
 simp[aq,h,r,p,Instr.indexAt,asIntOf,B,hj,ha g,(A E ie D).run_sizeOf,dh,d]
def bx.Rq{T:List (Nat×TI)}(l:c6 P T)(h:o.op=.call {callee:=.builtin .len,args:=#[x],argTypes:=jK})(g:jK[0]?=aa t){i:TI}(hi:bz T t=aa i)(p:i.desc=.slice E){tt:Bool}(m:∀s v,dc σ s v (η x)->Rd s.M v (.sl tt k n es)):bx P o η σ (.e (.one (.c (.int .i64 n)))) σ:=by
 refine .quiet λs q hh hr=>?_;obtain⟨a,cap,vs,j,d,hb,_⟩:=(m s _ (hr x)).flat;have f:=(l t i hi).run_underlying (w:=s.w);rw[p]at f;have b:jK[0]?=aa t:=g;refine⟨.int .i64 n,?_,Rd.int (by simp only[bq];omega),?_⟩<;>
 simp[aq,h,resolve,invoke,builtin,Builtin.len_,j,f,goInt,b]
theorem bx.Oo{T:List (Nat×TI)}(m:c6 P T)(h:o.op=.call {callee:=.builtin .len,args:=#[x],argTypes:=jK})(g:jK[0]?=aa t){i:TI}(hi:bz T t=aa i)(p:i.desc=.string){l:List UInt8}(n:η x=.e (.one (.c (.str l)))):bx P o η σ (.e (.one (.c (.int .i64 l.length)))) σ:=by
 refine .quiet λs k hh hr=>?_;have h1:=hr x;rw[n]at h1;replace h1:=fp h1;generalize b:k x=vx at h1;cases h1 with
 |@str sb _ j hl =>
 have f:=(m t i hi).run_underlying (w:=s.w);rw[p]at f;have d:jK[0]?=aa t:=g;have a:sb.size=l.length:=by rw[<-j];exact iB.symm
 refine⟨.int .i64 l.length,?_,Rd.int (by simp only[bq];omega),?_⟩<;>
 simp[aq,h,resolve,invoke,builtin,Builtin.len_,b,f,goInt,d,a]
def St.newRow(s:St)(E:ay)(vs:List aj):St :=
 {β:=s.β,M:=λb o=>if b=s.w.heap.size then vs[o]? else s.M b o,w:=s.w.alloc (.cells vs.toArray E),own:=s.own}
def aD.newRow{σ:List ba}{s:St}(h:aD σ s)(E:ay)(vs:List aj):aD σ (s.newRow E vs)/\Step σ s σ (s.newRow E vs):=by
 refine h.grow (by simp) (λb hb=>cC _ _ hb) (λb hb o=>by grind) (λb hb o v a=>?_) rfl rfl rfl;by_cases e:b=s.w.heap.size
 .subst e;simp at a;show aU (s.w.alloc (.cells vs.toArray E)) ⟨s.w.heap.size,o,af⟩=aa v;unfold aU;grind[dt]
 .simp only[e,bJ]at a;have:=h.block a;omega
def Fe(s:St)(E:ay)(vs:List aj):∀p u,vs[p]?=aa u->(s.newRow E vs).M s.w.heap.size (0+p)=aa u:=by intro p u h;simpa[St.newRow]using h
def gE:List A->Option (List C)
 |[]=>aa []
 |.c c::r=>match gE r with|some q=>aa (c::q)|none=>af
 |.vec _ k n es::r=>match gE r with|some q=>aa (.sl ae k n es::q)|none=>af
 |_::_=>af
def kL{σ:List ba}{s:St}:∀{cs:List A}{r:List C}{vs:List aj},gE cs=aa r->dH σ s vs cs->dH σ s vs (r.map A.c)
 |[],r,vs,h,a=>by cases h;exact a
 |_::_,_,[],_,a=>a.elim
 |.c c::al,r,v::vs,h,a=>by
  simp only[gE]at h;cases b:gE al with
  |none=>grind
  |some q=>simp[b]at h;subst h;exact⟨a.1,kL b a.2⟩
 |.vec l k n es::al,r,v::vs,h,a=>by
  simp only[gE]at h;cases b:gE al with
  |none=>grind
  |some q=>simp[b]at h;subst h;exact⟨a.1.1,kL b a.2⟩
 |.ptr l o::al,r,v::vs,h,a=>by simp[gE]at h
 |.ref l::al,r,v::vs,h,a=>by simp[gE]at h
 |.bp l w::al,r,v::vs,h,a=>by simp[gE]at h
 |.any::al,r,v::vs,h,a=>by simp[gE]at h
def rT{α:Type}(k:Nat):Nat->List α->Option (List (List α))
 |0,[]=>aa []
 |0,_::_=>af
 |n+1,l=>match nt k l with
  |some c=>match rT k n (gH k l)with
   |some r=>aa (c::r)
   |none=>af
  |none=>af
def dH.closed:∀{vs:List aj}{cs:List C},dH σ s vs (cs.map A.c)->∀(j:Nat)(c:C),cs[j]?=aa c->∃v,vs[j]?=aa v/\Rd s.M v c:=by intro vs cs h j c hj;obtain⟨v,h1,h2⟩:=h.get (j:=j) (a:=.c c) (by grind);exact⟨v,h1,h2⟩
def xf{M:Mem}{k:Nat}:∀{n:Nat}{cs:List C}{es:List (List C)}{vs:List aj},rT k n cs=aa es->vs.length=cs.length->(∀(j:Nat)(c:C),cs[j]?=aa c->∃v,vs[j]?=aa v/\Rd M v c)->es.length=n/\Flat M k n (λi=>es.getD i []) vs
 |0,[],es,vs,h,a,d=>by cases h;simp at a;subst a;exact⟨rfl,.nil⟩
 |0,_::_,es,vs,h,a,d=>by cases h
 |n+1,cs,es,vs,h,a,d=>by
  simp only[rT]at h;cases f:nt k cs with
  |none=>grind
  |some c =>
   simp only[f]at h;cases b:rT k n (gH k cs)with
   |none=>grind
   |some q =>
    simp[b]at h;subst h;obtain⟨p,g⟩:=l6 f;rw[mf]at b;obtain⟨r,o⟩:=xf (vs:=vs.drop k) b (by grind) (λj c m=>by
     obtain⟨v,p,g⟩:=d (k+j) c (by grind)
     exact⟨v,by grind,g⟩)
    refine⟨by grind,?_⟩;have s:k<=cs.length:=by grind
    have l:Flat M k 1 (λ_=>c) (vs.take k):=by refine⟨by grind,by grind,λi hi j x m=>?_⟩;grind
    have:=l.append o;rw[Nat.add_comm 1 n]at this;have e:cD 1 (λ_=>c) (λi=>q.getD i [])=λi=>(c::q).getD i []:=by funext i;cases i<;>simp[cD]
    rw[e]at this;simpa using this
def KW(T:List (Nat×TI))(η:aC->D)(t:ay)(n:Nat)(parts:List (Nat×aC)):Option (Nat×List (List C)) :=
 match bz T t with
 |some i=>match i.desc with
  |.slice E=>match bz T E with
   |some ie=>match av ie.size 0 with
    |true=>af
    |false=>match bn (n*ie.size) 16777216 with
     |true=>match n9 η parts with
      |some ps=>match xe (λk=>aa (k*ie.size,ie.size)) ps (List.replicate (n*ie.size) A.any)with
       |some cs=>match gE cs with
        |some r=>match rT ie.size n r with
         |some es=>aa (ie.size,es)
         |none=>af
        |none=>af
       |none=>af
      |none=>af
     |false=>af
   |none=>af
  |_=>af
 |none=>af
theorem bx.buildSlice{P:aK}{T:List (Nat×TI)}(K:c6 P T){o:aB}{η:aC->D}{σ:List ba}{t:ay}{n:Nat}{parts:Array (Nat×aC)}(h:o.op=.buildSlice t n parts){k:Nat}{es:List (List C)}(a:KW T η t n parts.toList=aa (k,es)):bx P o η σ (.e (.one (.c (.sl ab k n λi=>es.getD i [])))) σ:=by
 intro s O hh hr;unfold KW at a;cases hi:bz T t with
 |none=>grind
 |some i =>
  simp only[hi]at a;cases X:i.desc with
  |slice E =>
   simp only[X]at a;cases L:bz T E with
   |none=>grind
   |some ie =>
    simp only[L]at a;cases S:av ie.size 0 with
    |true=>grind
    |false =>
     simp only[S]at a;cases H:bn (n*ie.size) 16777216 with
     |false=>grind
     |true =>
      simp only[H]at a;cases F:n9 η parts.toList with
      |none=>grind
      |some ps =>
       simp only[F]at a;cases g:xe (λk=>aa (k*ie.size,ie.size)) ps (List.replicate (n*ie.size) A.any)with
       |none=>grind
       |some cs =>
        simp only[g]at a;cases I:gE cs with
        |none=>grind
        |some r =>
         simp only[I]at a;cases G:rT ie.size n r with
         |none=>grind
         |some es' =>
          simp only[G,dk,kO]at a;obtain⟨rfl,rfl⟩:=a;have hz0:ie.size≠0:=λe=>by rw[e]at S;cases S
          have W:=dy H;obtain⟨inf,z,z1,z2,z3,z4,V,z6,z7⟩:=(K E ie L).info;have hzs:z.cells.size=ie.size:=by have:=dm List.length V;grind
          have Yq:∀v∈z.cells.toList,cO v=ab:=by intro v J;have d:pP v∈z.cells.toList.map pP:=ku.2 ⟨v,J,rfl⟩;rw[V]at d;obtain⟨c,_,hc⟩:=ku.1 d;exact(Rd.pP (M:=s.M) hc.symm).cell
          have l:∀m,(∀v∈(a9 m).map (λq=>z.cells[q % z.cells.size]!),cO v=ab):=by grind[Nat.mod_lt]
          have y:∀vs:List aj,(∀v∈vs,cO v=ab)->dH σ s vs (List.replicate vs.length A.any):=by
           intro vs;induction vs with
           |nil=>intro _;trivial
           |cons v vs ih=>intro J;exact⟨J v (by simp),ih λu N=>J u (by grind)⟩
          obtain⟨p1,p2⟩:=rS (σ:=σ) (s:=s) hr F;have U:dH σ s ((Array.range (n*ie.size)).map (λq=>z.cells[q % z.cells.size]!)).toList (List.replicate (n*ie.size) A.any):=by have:=y _ (l (n*ie.size));simpa using this
          obtain⟨j,Z,u2⟩:=uY (σ:=σ) (s:=s) (place':=λk=>aa (k*ie.size,ie.size)) (λk p hk=>hk) g p1 p2 U;have u3:=kL I u2;obtain⟨c1,c2⟩:=xf (M:=s.M) (vs:=j.toList) G (by simpa using u3.length) u3.closed;obtain⟨g1,Y⟩:=hh.newRow E j.toList;refine⟨.value (.slice (aa ⟨s.w.heap.size,0,af⟩) n n),s.newRow E j.toList,?_,?_,g1,Y,?_⟩
          rotate_left 2
          .have e:(aq O o).events P s.w #[]=#[]:=by simp only[aq,h];exact cN.bind cN.buildSlice (λ_=>cN.pure) _ _
           rw[e];exact .nil
          .have N:=(K t i hi).run_underlying (w:=s.w);rw[X]at N;have Q:(zeroValue E).run P s.w=.ok z s.w:=by simp[zeroValue,typeInfo,z1,z4]
           have f:Instr.fill (λk=>aa (k*ie.size,ie.size)) ((Array.range (n*ie.size)).map (λq=>z.cells[q % z.cells.size]!)) (parts.map λ(i,x)=>(i,O x)).toList=aa j:=by simpa using Z
           by_cases h0:n*ie.size=0
           .have R:n=0:=by grind[Nat.mul_eq_zero]
            subst R;have B:Array.range 0=#[]:=rfl;simp[B]at f;simp[aq,h,Instr.buildSlice,N,(K E ie L).run_sizeOf,B,f,Go.newRow,St.newRow]
           .rw[show aq O o=(do pure (.value (<-Instr.buildSlice t n (parts.map λ(i,x)=>(i,O x))))) by simp[aq,h]];simp only[Instr.buildSlice,bL,N,b6,(K E ie L).run_sizeOf,h0,bJ,Q,show¬n*ie.size>2 ^ 24 by omega,qt,f,cK];simp[Go.newRow,St.newRow]
          .refine Rd.pH (c2.mono Y.mem) (b:=s.w.heap.size) (off:=0) (λ_=>rfl) (aZ _) ?_ (λ_=>rfl) (Fe s E j.toList);have:n<=n*ie.size:=tn n (by omega);omega
  |_=>grind
def Ext.trans{σ σ1 σ2:List ba}{s a s2:St}(h:Ext σ s σ1 a)(k:Ext σ1 a σ2 s2):Ext σ s σ2 s2:=by refine⟨λb o v e=>k.mem _ _ _ (h.mem _ _ _ e),λl B L c n=>?_⟩;obtain⟨B1,L1,h1,h2,j⟩:=h.box l B L c n;obtain⟨p,f,k1,q,m⟩:=k.box l B1 L1 h1 h2;exact⟨p,f,k1,q,j.trans m⟩
def fy{l:List α}{x y:α}{i:Nat}(h:(l++[x])[i]?=aa y):l[i]?=aa y∨(i=l.length/\y=x):=by grind
def aD.gC{a:St}(h1:aD σ a)(st:Step σ s σ a)(m:a.β=s.β)(hh:aD σ s){B:ba}{L:Loc}(p:eG (σ++[B]) {a with β:=a.β++[L]} B L)(f:∀b∈L.bs,s.w.heap.size<=b/\b<a.w.heap.size):aD (σ++[B]) {a with β:=a.β++[L]}/\Step σ s (σ++[B]) {a with β:=a.β++[L]}:=by
 have ex:Ext σ a (σ++[B]) {a with β:=a.β++[L]}:=by refine⟨λ_ _ _ h=>h,λl B' L' lz fC=>?_⟩;have hl:l<a.β.length:=(b8.1 fC).1;have n:l<σ.length:=(b8.1 lz).1;exact⟨B',L',by grind,by grind,.refl _ _⟩
 have e2:=st.ext.trans ex;refine⟨⟨h1.mem,by simp[h1.len],?_,?_,?_,?_⟩,⟨st.size,st.keep,st.mem,st.iq,?_,e2.box,st.os,st.tape,st.output,st.own⟩⟩
 .intro l B' L' lz fC;rcases fy lz with k|⟨rfl,rfl⟩
  .have hl:l<a.β.length:=by rw[h1.len];grind
   rw[jq hl]at fC;exact(h1.box l B' L' k fC).carry ex h1.len λ_ _=>⟨rfl,λ_=>rfl⟩
  .rcases fy fC with c|⟨_,rfl⟩
   .have:=(b8.1 c).1;rw[h1.len]at this;omega
   grind
 .intro l l' L1 L2 c j b hb oH;rcases fy c with k1|⟨rfl,rfl⟩<;>rcases fy j with o|⟨rfl,rfl⟩
  .exact h1.eH l l' L1 L2 k1 o b hb oH
  .have a1:=f b oH;have a2:=hh.lt L1 (by grind) b hb;omega
  .have a1:=f b hb;have a2:=hh.lt L2 (by grind) b oH;omega
  .rfl
 .intro L' fC b hb;simp only[eO,gQ]at fC;rcases fC with fC|rfl
  .exact h1.lt L' fC b hb
  grind
 .intro b hb;refine⟨(h1.own b hb).1,λL' fC N2=>?_⟩;simp only[eO,gQ]at fC;rcases fC with fC|rfl
  .exact(h1.own b hb).2 L' fC N2
  .have e:=st.own;simp only at hb;rw[e]at hb;have:=(hh.own b hb).1;grind
 grind
def aD.gV{M':Mem}(hh:aD σ s){B B':ba}{L L':Loc}(t:σ[l]?=aa B)(h:s.β[l]?=aa L)(F:hX B L B' L')(n:s.w.heap.size<=w'.heap.size)(I:∀b,b<s.w.heap.size->b∉L.bs->w'.heap[b]?=s.w.heap[b]?)(K:∀b,b<s.w.heap.size->b∉L.bs->∀o,M' b o=s.M b o)(k:∀b o v,s.M b o=aa v->M' b o=aa v)(E:∀b o v,M' b o=aa v->w'.cell? ⟨b,o,af⟩=aa v)(A:∀b∈L'.bs,(b∈L.bs∨s.w.heap.size<=b)/\b<w'.heap.size)(D:w'.os=s.w.os)(C:w'.tape=s.w.tape)(G:w'.output=s.w.output)(J:eG (σ.set l B') ⟨s.β.set l L',M',w',s.own⟩ B' L'):aD (σ.set l B') ⟨s.β.set l L',M',w',s.own⟩/\Step σ s (σ.set l B') ⟨s.β.set l L',M',w',s.own⟩:=by
 have u:l<σ.length:=(b8.1 t).1;have z:l<s.β.length:=(b8.1 h).1;have a:∀i X,(s.β.set l L')[i]?=aa X->(i=l/\X=L')∨(i≠l/\s.β[i]?=aa X):=by grind
 have ex:Ext σ s (σ.set l B') ⟨s.β.set l L',M',w',s.own⟩:=by
  refine⟨k,λi X Y c m=>?_⟩;by_cases e:l=i
  .grind
  .exact⟨X,Y,by grind,by grind,.refl _ _⟩
 have out:∀i X,i≠l->s.β[i]?=aa X->∀b∈X.bs,b<s.w.heap.size/\b∉L.bs:=by intro i X hi c b hb;exact⟨hh.lt X (bD c) b hb,λq=>hi (hh.eH i l X L c h b hb q)⟩
 refine⟨⟨E,by simp[hh.len],?_,?_,?_,?_⟩,⟨n,?_,k,?_,?_,ex.box,D,C,G,rfl⟩⟩
 .intro i X Y c m;rcases a i Y m with⟨rfl,rfl⟩|⟨hi,m⟩
  .grind
  .rw[j5 (λe=>hi e.symm)]at c;refine(hh.box i X Y c m).carry ex hh.len λb hb=>?_;grind
 .intro i x X y c f b hb oH;rcases a i X c with⟨rfl,rfl⟩|⟨hi,r⟩<;>rcases a x y f with⟨rfl,rfl⟩|⟨p,j⟩
  .rfl
  .grind
  .grind
  .exact hh.eH i x X y r j b hb oH
 .intro X c b hb;obtain⟨i,hi,rfl⟩:=dz c;rcases a i _ (bd hi)with⟨rfl,e⟩|⟨p,f⟩
  .grind
  grind
 .intro b hb;obtain⟨N,H⟩:=hh.own b hb;grind
 .grind
 .grind
 grind
def qv{a old bytes:Nat}(h:old<a)(b:a*bytes<=140737488355328):¬Builtin.nextslicecap a old*bytes>2 ^ 48:=by have:=growslice_fits h b;omega
section
variable {T:List (Nat×TI)}(g:c6 P T){d:ay}{i i2 ie:TI}
def ix(hi:dq P t i)(v:i.desc=.slice E)(h:dq P d i2)(j:i2.desc=.slice E)(u:dq P E ie)(q:aD σ s){a:Option Addr}{cap:Nat}(e:n<=cap){x:aj}{tx:Bool}{es':Nat->List C}(l:Rd s.M x (.sl tx ie.size 0 es')):
  (Builtin.append_ #[t,d] ty #[.slice a n cap,x]).run P s.w=.ok (.slice a n cap) s.w:=by obtain⟨c,p,r,m⟩:=dE (P:=P) q l;have o:=hi.run_underlying (w:=s.w);have b:=h.run_underlying (w:=s.w);rw[v]at o;rw[j]at b;obtain⟨a',k,vs,rfl,_⟩:=l.flat;have f:c=[]:=jo (by simpa using p.len);subst f;cases a<;>simp[Builtin.append_,o,b,u.run_sizeOf,Builtin.lenOf,e,r,storeCells]
def gX(hi:dq P t i)(hd:i.desc=.slice E)(F:dq P d i2)(G:i2.desc=.slice E)(K:dq P E ie)(X:aD σ s){a:Option Addr}{cap m:Nat}{S tx:Bool}{es':Nat->List C}{x:aj}(Q:Rd s.M (.slice a n cap) (.sl S ie.size n es))(U:Rd s.M x (.sl tx ie.size m es'))(W:cap<n+m)(N:(n+m)*ie.bytes<=140737488355328)(H:ie.bytes≠0):
  ∃vs zs Kx,Flat s.M ie.size (n+m) (cD n es es') vs/\n+m<=Kx/\Kx<=9223372036854775807/\(vs++zs).length=Kx*ie.size /\
   (Builtin.append_ #[t,d] ty #[.slice a n cap,x]).run P s.w=.ok (.slice (aa ⟨s.w.heap.size,0,af⟩) (n+m) Kx) (s.w.drew.alloc (.cells (vs++zs).toArray E)):=by
 have r:aD σ {s with w:=s.w.drew}:=X.same rfl;obtain⟨c,O,I,p⟩:=dE (P:=P) r (v:=x) U;obtain⟨b,l,f,XZ⟩:=dE (P:=P) r (v:=.slice a n cap) Q;have L:=hi.run_underlying (w:=s.w);have k:=F.run_underlying (w:=s.w);rw[hd]at L;rw[G]at k;obtain⟨o,z,J,z2,z3,z4,V,z6,z7⟩:=K.info;have hle:n+m<=140737488355328:=gB (tn _ (Nat.pos_of_ne_zero H)) N;have A:z.cells.size=ie.size:=by have:=dm List.length V;grind
 refine⟨b++c,(Builtin.zeroCells z.cells (grownCap s.w (n+m) cap E-(n+m))).toList,grownCap s.w (n+m) cap E,l.append O,grownCap_ge _ _ _ _,?_,?_,?_⟩
 .have:=grownCap_le_maxLen s.w (n+m) cap E (by unfold maxLen;omega);unfold maxLen at this;omega
 .have Y:=grownCap_ge s.w (n+m) cap E;simp only[b9,l.len,O.len,iB,size_zeroCells,A,<-gU];grind
 .have R:=qv W N;have q:¬Builtin.nextslicecap (n+m) cap*o.bytes>2 ^ 48:=by grind
  have j:¬n+m<=cap:=by omega
  have B:¬((n+m:Nat):Int)>IntKind.i64.max:=by have e:IntKind.i64.max=9223372036854775807:=rfl;grind
  have D:∀u,(typeInfo E).run P u=.ok o u:=λu=>by simp[typeInfo,J]
  have y:∀u,(zeroValue E).run P u=.ok z u:=λu=>by simp[zeroValue,typeInfo,J,z4]
  have h:(Builtin.lenOf x).run P s.w=.ok m s.w:=by rw[p];rfl
  replace I:(Builtin.firstCells ie.size m x).run P s.w.drew=.ok c.toArray s.w.drew:=I;replace f:(Builtin.firstCells ie.size n (.slice a n cap)).run P s.w.drew=.ok b.toArray s.w.drew:=f
  unfold Builtin.append_;simp only[gO,j4,mF,bL,L,k,b6,K.run_sizeOf,cK,gb,bJ,h,j,
   B,false_and,D,q,run_choose,Question.forced,run_askRoom,qt,World.drew_eq,f,I,lu,bZ,y]
  simp[Go.newRow,grownCap];have e:∀Z:Array aj,(b++c).toArray++Z=(b++(c++Z.toList)).toArray:=λZ=>by grind
  rw[e];rfl
def jz(hi:dq P t i)(B:i.desc=.slice E)(l:dq P d i2)(o:i2.desc=.slice E)(A:dq P E ie)(z:aD σ s){cap m:Nat}{u:ay}{c:List aj}(F:s.w.heap[b]?=aa (.cells c.toArray u (0,0)))(k:c.length=cap*ie.size){tx:Bool}{es':Nat->List C}{x:aj}(y:Rd s.M x (.sl tx ie.size m es'))(q:n+m<=cap):
  ∃a,Flat s.M ie.size m es' a/\(Builtin.append_ #[t,d] ty #[.slice (aa ⟨b,0,af⟩) n cap,x]).run P s.w=.ok (.slice (aa ⟨b,0,af⟩) (n+m) cap) (s.w.setRow b (c.take (n*ie.size)++a++c.drop (n*ie.size+a.length)).toArray):=by
 obtain⟨a,p,D,j⟩:=dE (P:=P) z y;have r:=hi.run_underlying (w:=s.w);have h:=l.run_underlying (w:=s.w);rw[B]at r;rw[o]at h;have v:n*ie.size+a.length<=c.length:=by rw[p.len,k,<-gU];exact dY _ q
 have f:=run_storeCells_at P b (n*ie.size) u a 0 c.toArray s.w F (by grind) p.cell;simp only[gT]at f;have e:(Builtin.lenOf x).run P s.w=.ok m s.w:=by rw[j];rfl
 refine⟨a,p,?_⟩;unfold Builtin.append_;simp only[gO,j4,mF,bL,r,h,b6,A.run_sizeOf,cK,gb,bJ,e,q,bZ,lu,D,dh,bo,f]
end
def BJ{x:Sem α}{es:Array Event}{e:Event}(h:e∈x.events P w es):e∈es∨e∈x.events P w #[]:=by grind[Sem.events_acc]
def Wr(s:St)(e:Event):Prop:=∃b o u,e=yd b o/\s.M b o=aa u
def gy(y:aD σ s){t:Bool}(h:Rd s.M v (.sl t k n es))(C:w.heap=s.w.heap):
  ∀e∈(Builtin.firstCells k n v).events P w #[],Wr s e:=by
 obtain⟨a,cap,vs,rfl,q,F,D,r,B⟩:=h.flat;have G:vs.length=n*k:=r.len;intro e f;cases a with
 |none=>simp[Builtin.firstCells]at f
 |some ad =>
  simp only[Builtin.firstCells]at f;have c:∀j,j<n*k->∃b off u,ad=⟨b,off,af⟩/\s.M b (off+j)=aa u:=by intro j m;obtain⟨b,off,E,o⟩:=B j (vs[j]'(by omega)) (bd (by omega));grind
  by_cases x:n*k=0
  .rw[x]at f;simp[loadCells,loadCellsFrom]at f
  .obtain⟨b,off,_,rfl,_⟩:=c 0 (by omega);have z:∀j,j<n*k->∃v,w.cell? ⟨b,off+j,af⟩=aa v:=by intro j m;obtain⟨A,l,u,p,o⟩:=c j m;cases p;have:=y.mem _ _ _ o;exact⟨u,by simp only[aU,C]at this⊢;exact this⟩
   rcases qw (P:=P) z e f with h|⟨j,m,rfl⟩
   .grind
   .obtain⟨A,l,u,p,o⟩:=c j m;cases p;exact⟨_,_,u,rfl,o⟩
theorem ry{e:Event}(h:Wr s e):nz s e:=by obtain⟨b,o,u,rfl,a⟩:=h;exact zH a
section
variable {d:ay}{i i2 ie:TI}
def iU(hi:dq P t i)(A:i.desc=.slice E)(l:dq P d i2)(m:i2.desc=.slice E)(z:dq P E ie)(p:aD σ s){a:Option Addr}{cap:Nat}(f:n<=cap){x:aj}{tx:Bool}{es':Nat->List C}(k:Rd s.M x (.sl tx ie.size 0 es')):
  ee s ((Builtin.append_ #[t,d] ty #[.slice a n cap,x]).events P s.w #[]):=by obtain⟨c,u,y,q⟩:=dE (P:=P) p k;have h:=gy (P:=P) p k (w:=s.w) rfl;have r:=hi.run_underlying (w:=s.w);have b:=l.run_underlying (w:=s.w);rw[A]at r;rw[m]at b;obtain⟨a',o,vs,rfl,_⟩:=k.flat;have j:c=[]:=jo (by simpa using u.len);subst j;intro e v;refine ry (h e ?_);cases a<;>simpa[Builtin.append_,r,b,z.run_sizeOf,Builtin.lenOf,f,y,storeCells]using v
def ir(hi:dq P t i)(hd:i.desc=.slice E)(J:dq P d i2)(K:i2.desc=.slice E)(V:dq P E ie)(H:aD σ s){a:Option Addr}{cap m:Nat}{Z tx:Bool}{es':Nat->List C}{x:aj}(Q:Rd s.M (.slice a n cap) (.sl Z ie.size n es))(S:Rd s.M x (.sl tx ie.size m es'))(hg:cap<n+m)(X:(n+m)*ie.bytes<=140737488355328)(L:ie.bytes≠0):
  ee s ((Builtin.append_ #[t,d] ty #[.slice a n cap,x]).events P s.w #[]):=by
 have D:aD σ {s with w:=s.w.drew}:=H.same rfl;obtain⟨A,hF,O,b⟩:=dE (P:=P) D (v:=x) S;obtain⟨p,hFo,f,XZ⟩:=dE (P:=P) D (v:=.slice a n cap) Q;have Kw:=gy (P:=P) H S (w:=s.w.drew) rfl;have U:=gy (P:=P) H Q (w:=s.w.drew) rfl;have W:=hi.run_underlying (w:=s.w);have y:=J.run_underlying (w:=s.w);rw[hd]at W;rw[K]at y;obtain⟨j,z,R,z2,z3,z4,z5,z6,z7⟩:=V.info;have hle:n+m<=140737488355328:=gB (tn _ (Nat.pos_of_ne_zero L)) X;have Y:=qv hg X;have B:¬Builtin.nextslicecap (n+m) cap*j.bytes>2 ^ 48:=by grind
 have q:¬n+m<=cap:=by omega
 have G:¬((n+m:Nat):Int)>IntKind.i64.max:=by have e:IntKind.i64.max=9223372036854775807:=rfl;grind
 have I:∀u,(typeInfo E).run P u=.ok j u:=λu=>by simp[typeInfo,R]
 have F:∀u,(zeroValue E).run P u=.ok z u:=λu=>by simp[zeroValue,typeInfo,R,z4]
 have l:(Builtin.lenOf x).run P s.w=.ok m s.w:=by rw[b];rfl
 have c:(Builtin.lenOf x).events P s.w #[]=#[]:=by rw[b];rfl
 replace O:(Builtin.firstCells ie.size m x).run P s.w.drew=.ok A.toArray s.w.drew:=O;replace f:(Builtin.firstCells ie.size n (.slice a n cap)).run P s.w.drew=.ok p.toArray s.w.drew:=f
 intro e o;unfold Builtin.append_ at o;simp only[gO,j4,mF,aJ,bL,W,y,b6,aO,V.run_sizeOf,cK,gb,bJ,l,c,q,
  G,false_and,I,B,run_choose,Question.forced,run_askRoom,qt,Sem.events_ite,World.drew_eq,f,O,lu,bZ,F,events_underlying,events_sizeOf,events_typeInfo,events_choose,events_zeroValue,Sem.events_pure]at o
 have N:∀(x:Nat) (w:aA) (e:Event),e∈(askRoom x).events P w #[]->e=⟨.mark .noRoom,ae,ab⟩:=by intro x w e h;unfold askRoom at h;simp_all
 rw[cN.newRow (P:=P)]at o;generalize(Go.newRow E _).run P s.w.drew=r at o;have k:e∈(Builtin.firstCells ie.size m x).events P s.w.drew ((Builtin.firstCells ie.size n (.slice a n cap)).events P s.w.drew ((askRoom ((Question.appendCap (n+m) cap E).cut (s.w.tape s.w.drawn (Question.appendCap (n+m) cap E))*j.bytes)).events P s.w.drew #[])):=by
  cases r with
  |ok v w'=>simpa using o
  |halt v w'=>simpa using o
 rcases BJ k with k|k
 .rcases BJ k with k|k
  .rw[N _ _ _ k];exact .inl rfl
  grind[ry]
 grind[ry]
def kR(hi:dq P t i)(Q:i.desc=.slice E)(y:dq P d i2)(z:i2.desc=.slice E)(N:dq P E ie)(F:aD σ s){cap m:Nat}{H:ay}{c:List aj}(J:s.w.heap[b]?=aa (.cells c.toArray H (0,0)))(r:c.length=cap*ie.size){tx:Bool}{es':Nat->List C}{x:aj}(B:Rd s.M x (.sl tx ie.size m es'))(D:n+m<=cap){L:Loc}(U:L∈s.β)(O:b∈L.bs)(v:∀o,n*ie.size<=o->s.M b o=af):
  ee s ((Builtin.append_ #[t,d] ty #[.slice (aa ⟨b,0,af⟩) n cap,x]).events P s.w #[]):=by
 obtain⟨a,A,R,f⟩:=dE (P:=P) F B;have K:=gy (P:=P) F B (w:=s.w) rfl;have G:=hi.run_underlying (w:=s.w);have q:=y.run_underlying (w:=s.w);rw[Q]at G;rw[z]at q;have I:n*ie.size+a.length<=c.length:=by rw[A.len,r,<-gU];exact dY _ D
 have p:=run_storeCells_at P b (n*ie.size) H a 0 c.toArray s.w J (by grind) A.cell;simp only[gT]at p;have l:(Builtin.lenOf x).run P s.w=.ok m s.w:=by rw[f];rfl
 have k:(Builtin.lenOf x).events P s.w #[]=#[]:=by rw[f];rfl
 intro e u;unfold Builtin.append_ at u;simp only[gO,j4,mF,aJ,bL,G,q,aO,N.run_sizeOf,cK,gb,bJ,l,k,D,bZ,lu,R,dh,bo,p,
  qt,Sem.events_ite,events_underlying,events_sizeOf,Sem.events_pure]at u
 rcases dW a 0 c.toArray s.w _ J (by grind) A.cell e u with h|⟨j,S,V,rfl⟩
 .grind [ry]
 grind[ky]
end
structure kQ(P:aK)(o:aB)(x y:aC)(E:ay)(ie:TI):Prop where
 op:∃t d i i2,o.op=.call {callee:=.builtin .append,args:=#[x,y],argTypes:=#[t,d]}/\dq P t i/\i.desc=.slice E/\dq P d i2/\i2.desc=.slice E
 elem:dq P E ie
 bytes:ie.bytes≠0
 size:ie.size≠0
def St.grown(s:St)(E:ay)(vs zs:List aj)(β:List Loc):St :=
 {β:=β,M:=λb o=>if b=s.w.heap.size then vs[o]? else s.M b o,w:=s.w.drew.alloc (.cells (vs++zs).toArray E),own:=s.own}
def wT(h:aD σ s)(E:ay)(vs zs:List aj):∀b o v,(if b=s.w.heap.size then vs[o]? else s.M b o)=aa v->(s.w.drew.alloc (.cells (vs++zs).toArray E)).cell? ⟨b,o,af⟩=aa v:=by
 intro b o v a;by_cases e:b=s.w.heap.size
 .subst e;simp only[bZ]at a;unfold aU;have:(s.w.drew.alloc (.cells (vs++zs).toArray E)).heap[s.w.heap.size]?=aa (.cells (vs++zs).toArray E):=dt s.w.drew _;grind
 .simp only[e,bJ]at a;have c:=h.block a;rw[<-h.mem b o v a];unfold aU;have:(s.w.drew.alloc (.cells (vs++zs).toArray E)).heap[b]?=s.w.heap[b]?:=cC s.w.drew _ c;grind
def wU(h:aD σ s)(vs:List aj):∀b o v,s.M b o=aa v->(if b=s.w.heap.size then vs[o]? else s.M b o)=aa v:=by intro b o v a;have:=h.block a;grind
theorem dX{m:Sem aj}(h:ee s (m.events P s.w #[])):ee s ((do pure (.value (<-m)):Sem Next).events P s.w #[]):=by simp_all
theorem cW{d:ay}(h:o.op=.call {callee:=.builtin .append,args:=#[x,y],argTypes:=#[t,d]})(a:aC->aj):
  aq a o=(do pure (.value (<-Builtin.append_ #[t,d] o.type #[a x,a y]))):=by simp[aq,h,resolve,invoke,builtin]
def Rd.loose{t:Bool}(h:Rd M v (.sl t k n es)):Rd M v (.sl ae k n es):=by
 cases h with
 |sl b off f a hb ht hk ha hm hr=>exact .sl b off f a hb (by simp) hk ha hm hr
def Rd.BH{t:Bool}{es':Nat->List C}(e:∀i,i<n->es i=es' i)(h:Rd M v (.sl t k n es)):Rd M v (.sl t k n es'):=by
 cases h with
 |sl b off f a hb ht hk ha hm hr=>exact .sl b off f a hb ht (λi hi=>by grind) ha (λi hi j c hj=>hm i hi j c (by grind)) (λi hi j c hj=>hr i hi j c (by grind))
def Rd.tz{k':Nat}(b:k=k'∨n=0)(h:Rd M v (.sl ab k n es)):Rd M v (.sl ab k' n es):=by
 rcases b with rfl|rfl
 .exact h
 .obtain⟨a,cap,vs,e,j,c,f,_⟩:=h.flat;grind[Rd.iV]
def oI{L:Loc}(a:σ[l]?=aa (.vec E k n es))(b:s.β[l]?=aa L)(h:eG σ s (.vec E k n es) L):fU σ s L.v (.vec l k n es):=by refine⟨h.1,(b8.1 a).1,λc k' n' es' he=>?_⟩;grind
def bx.nN{ie:TI}(h:kQ P o x y E ie){m:Nat}{tx:Bool}{es':Nat->List C}(W:η x=.e (.one (.c (.sl ab k n es))))(Y:k=ie.size∨n=0)(hy:∀s v,dc σ s v (η y)->Rd s.M v (.sl tx ie.size m es'))(hb:(n+m)*ie.bytes<=140737488355328)(hz:n=0∨0<m):
  bx P o η σ (.e (.one (.vec σ.length ie.size (n+m) (cD n es es')))) (σ++[.vec E ie.size (n+m) (cD n es es')]):=by
 intro s ρ hh hr;obtain⟨t,d,i,i2,O,hi,I,r,z⟩:=h.op;have h1:=hr x;rw[W]at h1;have l:=Rd.tz Y (fp h1);have h2:=hy s _ (hr y);obtain⟨a,cap,vs,V,A,Z,X,hF,S⟩:=l.flat;have R:cap=n:=X rfl;subst R;rw[cW O];rw[V]at l⊢;by_cases h0:m=0
 .subst h0;have q:=ix (P:=P) (ty:=o.type) hi I r z h.elem hh (a:=a) A h2;simp only[gT];have l:=Rd.BH (es':=cD cap es es') (λi hi=>by grind) l;have G:eG (σ++[.vec E ie.size cap (cD cap es es')]) {s with β:=s.β++[⟨.slice a cap cap,[]⟩]} (.vec E ie.size cap (cD cap es es')) ⟨.slice a cap cap,[]⟩:=⟨l.loose,.inl ⟨⟨rfl,by omega⟩,l⟩⟩
  obtain⟨K,N⟩:=hh.gC (.refl _ _) rfl hh G (by simp);refine⟨.value (.slice a cap cap),_,?_,?_,K,N,dX (iU hi I r z h.elem hh A h2)⟩
  .simp[q]
  .exact oI (by simp) (by simp[<-hh.len]) G
 .have U:cap<cap+m:=by omega
  obtain⟨f,B,j,H,Q,L,F,q⟩:=gX (P:=P) (ty:=o.type) hi I r z h.elem hh l h2 U hb h.bytes;have D:aD σ (s.grown E f B s.β)/\Step σ s σ (s.grown E f B s.β) :=
   hh.grow (by simp) (λb hb=>cC s.w.drew _ hb) (λb hb o=>by grind)
    (λb hb o v S=>wT hh E f B b o v S) rfl rfl rfl
  have J:Rd (s.grown E f B s.β).M (.slice (aa ⟨s.w.heap.size,0,af⟩) (cap+m) j) (.sl ae ie.size (cap+m) (cD cap es es')) :=
   Rd.pH (H.mono D.2.mem) (b:=s.w.heap.size) (off:=0) (λ_=>rfl) Q L (by simp) (λp u hp=>by simpa[St.grown]using hp)
  have G:eG (σ++[.vec E ie.size (cap+m) (cD cap es es')]) {(s.grown E f B s.β)with β:=(s.grown E f B s.β).β++[⟨.slice (aa ⟨s.w.heap.size,0,af⟩) (cap+m) j,[s.w.heap.size]⟩]} (.vec E ie.size (cap+m) (cD cap es es')) ⟨.slice (aa ⟨s.w.heap.size,0,af⟩) (cap+m) j,[s.w.heap.size]⟩:=by
   refine⟨J,.inr ⟨s.w.heap.size,j,f++B,rfl,dt s.w.drew _,F,λo O=>?_⟩⟩;have hl:f.length<=o:=by rw[H.len];exact O
   simp[St.grown,qg hl]
  obtain⟨K,N⟩:=D.1.gC D.2 rfl hh G (λb hb=>by simp at hb;subst hb;refine⟨aZ _,?_⟩;simp[St.grown])
  refine⟨.value (.slice (aa ⟨s.w.heap.size,0,af⟩) (cap+m) j),_,?_,?_,K,N,dX (ir hi I r z h.elem hh l h2 U hb h.bytes)⟩
  .simp[q];rfl
  .exact oI (by simp) (by simp[St.grown,<-hh.len]) G
def bx.EK{ie:TI}(h:kQ P o x y E ie){m:Nat}{tx:Bool}{es':Nat->List C}(hx:η x=.e (.one (.vec l ie.size n es)))(hl:σ[l]?=aa (.vec E ie.size n es))(hy:∀s v,dc σ s v (η y)->Rd s.M v (.sl tx ie.size m es'))(hb:(n+m)*ie.bytes<=140737488355328):
  bx P o η σ (.e (.one (.vec l ie.size (n+m) (cD n es es')))) (σ.set l (.vec E ie.size (n+m) (cD n es es'))):=by
 intro s ρ hh hr;obtain⟨t,d,i,i2,X,hi,Y,H,I⟩:=h.op;have N3:l<σ.length:=(b8.1 hl).1;have h1:=hr x;rw[hx]at h1;obtain⟨Q,_,X0⟩:=h1;obtain⟨L,R,hv⟩:=(X0 _ _ _ _ hl).2 rfl;have h2:=hy s _ (hr y);have Uj:l<s.β.length:=(b8.1 R).1;have N:=hh.box l _ L hl R;obtain⟨a,cap,vs,N4,S,Ky,ht,hF,hm⟩:=Q.flat;rw[cW X,N4];rw[N4]at Q;have O:L.v=.slice a n cap:=by grind
 by_cases h0:m=0
 .subst h0;have q:=ix (P:=P) (ty:=o.type) hi Y H I h.elem hh (a:=a) S h2;simp only[gT];have ha:∀i,i<n->es i=cD n es es' i:=λi hi=>by simp[cD,hi]
  have TD:eG (σ.set l (.vec E ie.size n (cD n es es'))) ⟨s.β.set l L,s.M,s.w,s.own⟩ (.vec E ie.size n (cD n es es')) L:=by
   refine⟨N.1.BH ha,?_⟩;rcases N.2 with⟨h3,h4⟩|h3
   .exact .inl ⟨h3,h4.BH ha⟩
   grind
  have f:=hh.gV (M':=s.M) (w':=s.w) (B':=.vec E ie.size n (cD n es es')) (L':=L) hl R ⟨λ_=>rfl,aZ _⟩ (aZ _) (λ_ _ _=>rfl) (λ_ _ _ _=>rfl) (λ_ _ _ h=>h) hh.mem
   (λb hb=>⟨.inl hb,hh.lt L (bD R) b hb⟩) rfl rfl rfl TD
  refine⟨.value (.slice a n cap),_,?_,?_,f.1,f.2,dX (iU hi Y H I h.elem hh S h2)⟩
  .simp[q]
  .rw[<-O];exact oI (E:=E) (by grind) (by grind) TD
 .have K:¬(n+m=n):=by omega
  by_cases k:n+m<=cap
  .rcases N.2 with⟨QZ,B⟩|⟨b,Kz,z,rfl,hw,J,V⟩
   .rw[O]at B;obtain⟨_,_,_,e,_,_,ht2,_⟩:=B.flat;grind
   .simp only at O;cases O;obtain⟨c,Km,q⟩:=jz (P:=P) (ty:=o.type) hi Y H I h.elem hh hw J h2 k;have QE:c.length=m*ie.size:=Km.len;have Z:b<s.w.heap.size:=(gN.1 hw).1;let M':Mem:=λD o=>if D=b/\n*ie.size<=o/\o<(n+m)*ie.size then c[o-n*ie.size]? else s.M D o;have BK:z.length=cap*ie.size:=J;have hnm:(n+m)*ie.size=n*ie.size+m*ie.size:=gU _ _ _;have Uk:(n+m)*ie.size<=cap*ie.size:=dY _ k;have Q0:∀D o v,s.M D o=aa v->M' D o=aa v:=by grind
    have N1:∀p u,c[p]?=aa u->M' b (n*ie.size+p)=aa u:=by grind
    have U:Rd M' (.slice (aa ⟨b,0,af⟩) (n+m) cap) (.sl ae ie.size (n+m) (cD n es es')):=by refine Rd.pH (vs:=vs++c) ((hF.append Km).mono Q0) (b:=b) (off:=0) (λ_=>rfl) k Ky (by simp) (λp u hp=>?_);have M3:vs.length=n*ie.size:=hF.len;grind
    have f:=hh.gV (M':=M') (w':=s.w.setRow b (z.take (n*ie.size)++c++z.drop (n*ie.size+c.length)).toArray) (B':=.vec E ie.size (n+m) (cD n es es')) (L':=⟨.slice (aa ⟨b,0,af⟩) (n+m) cap,[b]⟩) hl R
     ⟨λe=>absurd e K,by omega⟩ (by simp) (λD _ F=>setRow_other _ _ _ _ (by grind)) (λD _ F o=>by
      grind) Q0 ?_ (λD F=>by simp at F;subst F;exact⟨.inl (by simp),by simpa using Z⟩) rfl rfl rfl ?_
    .refine⟨.value (.slice (aa ⟨b,0,af⟩) (n+m) cap),_,?_,?_,f.1,f.2,dX (kR hi Y H I h.elem hh hw J h2 k (bD R) (by simp) V)⟩
     .simp[q]
     .exact oI (L:=⟨.slice (aa ⟨b,0,af⟩) (n+m) cap,[b]⟩) (E:=E) (by grind) (by grind) (f.1.box l _ _ (by grind) (by grind))
    .intro D o v G;by_cases F:D=b
     .subst F;have W:∀j,(s.w.setRow D (z.take (n*ie.size)++c++z.drop (n*ie.size+c.length)).toArray).cell? ⟨D,j,af⟩=(z.take (n*ie.size)++c++z.drop (n*ie.size+c.length))[j]?:=by grind[cell_setRow_same]
      rw[W];simp only[M']at G;have hkl:(z.take (n*ie.size)).length=n*ie.size:=by rw[List.length_take];omega
      split at G
      .grind
      .rename_i hc;have h3:=hh.mem D o v G;have X:o<n*ie.size:=by grind
       rw[ju,jq (by omega),ig,bt X];simp only[aU,hw]at h3;grind
     .simp only[M']at G;rw[bh (by omega)]at G;rw[<-hh.mem D o v G];simp only[aU];grind[setRow_other]
    .refine⟨U,.inr ⟨b,cap,_,rfl,setRow_heap _ _ _ _ _ _ hw,?_,λo X=>?_⟩⟩
     .grind
     grind
  .have hg:cap<n+m:=by omega
   obtain⟨r,zs,A,QY,TE,TG,hlen,q⟩:=gX (P:=P) (ty:=o.type) hi Y H I h.elem hh Q h2 hg hb h.bytes;have hbl:∀b∈L.bs,b<s.w.heap.size:=hh.lt L (bD R);have U:Rd (λb o=>if b=s.w.heap.size then r[o]? else s.M b o) (.slice (aa ⟨s.w.heap.size,0,af⟩) (n+m) A) (.sl ae ie.size (n+m) (cD n es es')) :=
    Rd.pH (QY.mono (wU hh r)) (b:=s.w.heap.size) (off:=0) (λ_=>rfl) TE TG (by simp) (λp u hp=>by grind)
   have f:=hh.gV (M':=λb o=>if b=s.w.heap.size then r[o]? else s.M b o) (w':=s.w.drew.alloc (.cells (r++zs).toArray E)) (B':=.vec E ie.size (n+m) (cD n es es')) (L':=⟨.slice (aa ⟨s.w.heap.size,0,af⟩) (n+m) A,[s.w.heap.size]⟩) hl R
    ⟨λe=>absurd e K,by omega⟩ (by simp) (λb hb _=>cC s.w.drew _ hb) (λb hb _ o=>by grind) (wU hh r) (wT hh E r zs) (λb hb=>by
     simp at hb;subst hb;exact⟨.inr (aZ _),by simp⟩) rfl rfl rfl ⟨U,.inr ⟨s.w.heap.size,A,r++zs,rfl,dt s.w.drew _,hlen,λo X=>by
      have hl:r.length<=o:=by rw[QY.len];exact X
      grind⟩⟩
   refine⟨.value (.slice (aa ⟨s.w.heap.size,0,af⟩) (n+m) A),_,?_,?_,f.1,f.2,dX (ir hi Y H I h.elem hh Q h2 hg hb h.bytes)⟩
   .simp[q]
   .exact oI (L:=⟨.slice (aa ⟨s.w.heap.size,0,af⟩) (n+m) A,[s.w.heap.size]⟩) (E:=E) (by grind) (by grind) (f.1.box l _ _ (by grind) (by grind))
def jB{α:Type}:List Nat->List α->Option (List α)
  | [],_=>aa []
  | k::ks,l=>match eh k l with
    | some x=>match jB ks l with
      | some r=>aa (x::r)
      | none=>af
    | none=>af
def eJ{α:Type}:∀(n:Nat) (l:List α),eh n l=l[n]?
  | _,[]=>by simp[eh]
  | 0,x::_=>by simp[eh]
  | n+1,_::xs=>by simpa[eh]using eJ n xs
def hU{α:Type}:∀{ks:List Nat} {l r:List α},jB ks l=aa r->r.length=ks.length/\∀(j k:Nat),ks[j]?=aa k->∃x,r[j]?=aa x/\l[k]?=aa x
  | [],l,r,h=>by cases h;simp
  | k::ks,l,r,h=>by
    simp only[jB]at h;cases b:eh k l with
    | none=>grind
    | some x =>
      cases a:jB ks l with
      | none=>grind
      | some q =>
        simp[b,a]at h;subst h;obtain⟨d,c⟩:=hU a;grind[cT]
def yj{α d:Type}:∀{ks:List Nat} {l r:List α} {l':List d},jB ks l=aa r->l'.length=l.length->∃r',jB ks l'=aa r'
  | [],l,r,l',_,_=>⟨[],rfl⟩
  | k::ks,l,r,l',h,b=>by
    simp only[jB]at h;cases f:eh k l with
    | none=>grind
    | some x =>
      cases c:jB ks l with
      | none=>grind
      | some q =>
        obtain⟨r',a⟩:=yj (l':=l') c b;have e:k<l'.length:=by rw[b];exact(b8.1 (cT f)).1
        exact⟨l'[k]::r',by simp[jB,eJ,e,a]⟩
def nA(ks:List Nat):A->A
  | .ptr l o=>match eh l ks with|some k=>.ptr k o|none=>.any
  | .vec l k n es=>match eh l ks with|some m=>.vec m k n es|none=>.c (.sl ae k n es)
  | .ref l=>match eh l ks with|some k=>.ref k|none=>.any
  | .bp l w=>match eh l ks with|some k=>.bp k w|none=>.any
  | .c x=>.c x
  | .any=>.any
def zP(ks:List Nat):List A->List A
  | []=>[]
  | a::r=>nA ks a::zP ks r
def yk(ks:List Nat):E1->E1
  | .one a=>.one (nA ks a)
  | .agg cs=>.agg (zP ks cs)
def wW(ks:List Nat):List E1->List E1
  | []=>[]
  | a::r=>yk ks a::wW ks r
def ij(ks:List Nat):D->D
  | .e x=>.e (yk ks x)
  | .fe xs=>.fe (wW ks xs)
  | .any=>.any
def gp(ks:List Nat):List D->List D
  | []=>[]
  | a::r=>ij ks a::gp ks r
def BT:A->Bool
  | .c _|.any=>ab
  | _=>ae
def yl:List A->Bool
  | []=>ab
  | a::r=>match BT a with|true=>yl r|false=>ae
def uf:ba->Bool
  | .cells _ cs=>yl cs
  | .loop ..=>ae
  | _=>ab
def cx:List ba->Bool
  | []=>ab
  | a::r=>match uf a with|true=>cx r|false=>ae
def jS:∀{l:List ba},cx l=ab->∀B∈l,uf B=ab
  | [],_,B,a=>by grind
  | b::r,h,B,a=>by
    simp only[cx]at h;cases c:uf b with
    | false=>grind
    | true =>
      simp only[c]at h;rcases dD.1 a with rfl|a
      · exact c
      · exact jS h B a
def dH.plain{σ σ':List ba}{s s':St}(e:s'.M=s.M):∀{vs:List aj} {cs:List A},yl cs=ab->dH σ s vs cs->dH σ' s' vs cs
  | [],[],_,_=>trivial
  | [],_::_,_,h=>h.elim
  | _::_,[],_,h=>h.elim
  | v::vs,a::al,b,h=>by
    simp only[yl]at b;cases d:BT a with
    | false=>grind
    | true =>
      simp only[d]at b;refine⟨?_,dH.plain e b h.2⟩;cases a with
      | c x=>have:=h.1;simp only[fU]at this⊢;grind
      | any=>exact h.1
      | _=>simp[BT]at d
def eG.plain{σ σ':List ba}{s s':St}(a:s'.M=s.M)(c:s'.w=s.w){B:ba}{L:Loc}(d:uf B=ab)(h:eG σ s B L):eG σ' s' B L:=by
  cases B with
  | cells E cs =>
    obtain⟨b,vs,h1,h2,e,f⟩:=h;exact⟨b,vs,h1,by grind,e.plain a d,λo=>by rw[a];grind⟩
  | vec E k n es=>simp only[eG,a,c]at h⊢;exact h
  | cp H=>simp only[eG,a,c]at h⊢;exact h
  | dead=>trivial
  | loop N φ r=>simp[uf]at d
  | pK=>simp only[eG,a,c]at h⊢;exact h
  | buf E k n es=>simp only[eG,a,c]at h⊢;exact h
def gK:Nat->List Nat->Bool
  | _,[]=>ae
  | k,x::r=>match av k x with|true=>ab|false=>gK k r
def dF:List Nat->Bool
  | []=>ab
  | k::r=>match gK k r with|true=>ae|false=>dF r
theorem tF:∀{k:Nat} {l:List Nat},k∈l->gK k l=ab
  | k,[],h=>by grind
  | k,x::r,h=>by
    simp only[gK];cases a:av k x with
    | true=>rfl
    | false =>
      rcases dD.1 h with rfl|h
      · grind[Nat.beq_refl]
      · exact tF h
def ug:∀{l:List Nat},dF l=ab->∀(i j k:Nat),l[i]?=aa k->l[j]?=aa k->i=j
  | [],_,i,j,k,hi,_=>by grind
  | x::r,h,i,j,k,hi,a=>by
    simp only[dF]at h;cases c:gK x r with
    | true=>grind
    | false =>
      simp only[c]at h;have no:∀q,r[q]?=aa x->False:=λq b=>by have:=tF (bD b);grind
      cases i with
      | zero =>
        grind
      | succ i =>
        cases j with
        | zero =>
          grind
        | succ j =>
          simp at hi a;rw[ug h i j k hi a]
def EN(n:Nat):A->Bool
  | .ptr l _|.vec l _ _ _|.ref l|.bp l _=>bn (l+1) n
  | _=>ab
def Dv(n:Nat):List A->Bool
  | []=>ab
  | a::r=>match EN n a with|true=>Dv n r|false=>ae
def GP(n:Nat):E1->Bool
  | .one a=>EN n a
  | .agg cs=>Dv n cs
def wo(n:Nat):List E1->Bool
  | []=>ab
  | a::r=>match GP n a with|true=>wo n r|false=>ae
def uh(n:Nat):D->Bool
  | .e x=>GP n x
  | .fe xs=>wo n xs
  | .any=>ab
def lq(n:Nat):List D->Bool
  | []=>ab
  | a::r=>match uh n a with|true=>lq n r|false=>ae
section sub
variable {ks:List Nat}{β':List Loc}
def fU.sub(p:jB ks σ=aa σ')(t:jB ks s.β=aa β'){a:A}(d:fU σ s v (nA ks a))(e:EN ks.length a=ab):fU σ' {s with β:=β'} v a:=by
  obtain⟨z,j⟩:=hU p;obtain⟨C,m⟩:=hU t;cases a with
  | c x=>exact d
  | any=>exact d
  | ptr l o =>
    have hl:l<ks.length:=dy e;simp only[nA,eJ,bd hl]at d;obtain⟨h1,L,b,h2,g,r⟩:=d;obtain⟨x,i,u⟩:=j l _ (bd hl);obtain⟨y,h,f⟩:=m l _ (bd hl);rw[f]at h2;cases h2;exact⟨λB q=>h1 B (by grind),L,b,h,g,r⟩
  | vec l k n es =>
    have hl:l<ks.length:=dy e;simp only[nA,eJ,bd hl]at d;obtain⟨h1,h2,g⟩:=d;obtain⟨x,i,u⟩:=j l _ (bd hl);obtain⟨y,h,f⟩:=m l _ (bd hl);refine⟨h1,by grind,λE k' n' es' q=>?_⟩;grind
  | ref l =>
    have hl:l<ks.length:=dy e;simp only[nA,eJ,bd hl]at d;obtain⟨h1,L,h2,g,r⟩:=d;obtain⟨x,i,u⟩:=j l _ (bd hl);obtain⟨y,h,f⟩:=m l _ (bd hl);rw[f]at h2;cases h2;exact⟨λB q=>h1 B (by grind),L,h,g,r⟩
  | bp l w =>
    have hl:l<ks.length:=dy e;simp only[nA,eJ,bd hl]at d;obtain⟨lv,h1,h2,g⟩:=d;obtain⟨x,i,u⟩:=j l _ (bd hl);obtain⟨y,h,f⟩:=m l _ (bd hl);refine⟨lv,h1,(b8.1 i).1,λE k n es q=>?_⟩;grind
def fU.l3{σ2:List ba}{s2:St}(u:s2.M=s.M)(e:∀(j:Nat) (B:ba),σ[j]?=aa B->∃k,ks[j]?=aa k/\σ2[k]?=aa B)(h:∀(j:Nat) (L:Loc),s.β[j]?=aa L->∃k,ks[j]?=aa k/\s2.β[k]?=aa L)(t:s.β.length=σ.length){a:A}(f:fU σ s v a):fU σ2 s2 v (nA ks a):=by
  cases a with
  | c x=>simp only[nA,fU,u];exact f
  | any=>exact f
  | ptr l o =>
    obtain⟨h1,L,b,h2,g,m⟩:=f;obtain⟨k,k1,r⟩:=h l L h2;have hl:l<σ.length:=by grind
    obtain⟨k',d,q⟩:=e l _ (bd hl);rw[k1]at d;cases d;simp only[nA,eJ,k1];refine⟨λB i=>?_,L,b,r,g,m⟩;grind
  | vec l k n es =>
    obtain⟨h1,h2,g⟩:=f;obtain⟨k1,p,p2⟩:=e l _ (bd h2);simp only[nA,eJ,p];refine⟨by grind,(b8.1 p2).1,λE k' n' es' i=>?_⟩;grind
  | ref l =>
    obtain⟨h1,L,h2,g,m⟩:=f;obtain⟨k,k1,r⟩:=h l L h2;have hl:l<σ.length:=by grind
    obtain⟨k',d,q⟩:=e l _ (bd hl);rw[k1]at d;cases d;simp only[nA,eJ,k1];refine⟨λB i=>?_,L,r,g,m⟩;grind
  | bp l w =>
    obtain⟨lv,h1,h2,g⟩:=f;obtain⟨k1,p,p2⟩:=e l _ (bd h2);simp only[nA,eJ,p];refine⟨lv,h1,(b8.1 p2).1,λE k' n' es' i=>?_⟩;grind
def dH.sub(c:jB ks σ=aa σ')(b:jB ks s.β=aa β'):∀{vs:List aj} {cs:List A},dH σ s vs (zP ks cs)->Dv ks.length cs=ab->dH σ' {s with β:=β'} vs cs
  | [],[],_,_=>trivial
  | [],_::_,h,_=>h.elim
  | _::_,[],h,_=>h.elim
  | v::vs,a::al,h,d=>by
    simp only[Dv]at d;cases e:EN ks.length a with
    | false=>grind
    | true=>simp only[e]at d;exact⟨h.1.sub c b e,dH.sub c b h.2 d⟩
def mE.sub(c:jB ks σ=aa σ')(b:jB ks s.β=aa β'){v:aj}{x:E1}(h:mE σ s v (yk ks x))(d:GP ks.length x=ab):mE σ' {s with β:=β'} v x:=by
  cases x with
  | one a=>exact fU.sub c b h d
  | agg cs=>obtain⟨vs,h1,h2⟩:=h;exact⟨vs,h1,h2.sub c b d⟩
def gn.sub(c:jB ks σ=aa σ')(b:jB ks s.β=aa β'):∀{vs:List aj} {xs:List E1},gn σ s vs (wW ks xs)->wo ks.length xs=ab->gn σ' {s with β:=β'} vs xs
  | [],[],_,_=>trivial
  | [],_::_,h,_=>h.elim
  | _::_,[],h,_=>h.elim
  | v::vs,a::al,h,d=>by
    simp only[wo]at d;cases e:GP ks.length a with
    | false=>grind
    | true=>simp only[e]at d;exact⟨h.1.sub c b e,gn.sub c b h.2 d⟩
def dc.sub(b:jB ks σ=aa σ')(a:jB ks s.β=aa β'){v:aj}{d:D}(h:dc σ s v (ij ks d))(c:uh ks.length d=ab):dc σ' {s with β:=β'} v d:=by
  cases d with
  | e x=>exact mE.sub b a h c
  | fe xs=>obtain⟨vs,h1,h2⟩:=h;exact⟨vs,h1,h2.sub b a c⟩
  | any=>trivial
def cd.sub(c:jB ks σ=aa σ')(b:jB ks s.β=aa β'):∀{vs:List aj} {ds:List D},cd σ s vs (gp ks ds)->lq ks.length ds=ab->cd σ' {s with β:=β'} vs ds
  | [],[],_,_=>trivial
  | [],_::_,h,_=>h.elim
  | _::_,[],h,_=>h.elim
  | v::vs,a::al,h,d=>by
    simp only[lq]at d;cases e:uh ks.length a with
    | false=>grind
    | true=>simp only[e]at d;exact⟨h.1.sub c b e,cd.sub c b h.2 d⟩
variable {σ2:List ba}{s2:St}
def dH.l3(d:s2.M=s.M)(c:∀(j:Nat) (B:ba),σ[j]?=aa B->∃k,ks[j]?=aa k/\σ2[k]?=aa B)(b:∀(j:Nat) (L:Loc),s.β[j]?=aa L->∃k,ks[j]?=aa k/\s2.β[k]?=aa L)(a:s.β.length=σ.length):
    ∀{vs:List aj} {cs:List A},dH σ s vs cs->dH σ2 s2 vs (zP ks cs)
  | [],[],_=>trivial
  | [],_::_,h=>h.elim
  | _::_,[],h=>h.elim
  | _::_,_::_,h=>⟨h.1.l3 d c b a,dH.l3 d c b a h.2⟩
def mE.l3(e:s2.M=s.M)(d:∀(j:Nat) (B:ba),σ[j]?=aa B->∃k,ks[j]?=aa k/\σ2[k]?=aa B)(c:∀(j:Nat) (L:Loc),s.β[j]?=aa L->∃k,ks[j]?=aa k/\s2.β[k]?=aa L)(b:s.β.length=σ.length){v:aj}{x:E1}(h:mE σ s v x):mE σ2 s2 v (yk ks x):=by
  cases x with
  | one a=>exact fU.l3 e d c b h
  | agg cs=>obtain⟨vs,h1,h2⟩:=h;exact⟨vs,h1,h2.l3 e d c b⟩
def gn.l3(d:s2.M=s.M)(c:∀(j:Nat) (B:ba),σ[j]?=aa B->∃k,ks[j]?=aa k/\σ2[k]?=aa B)(b:∀(j:Nat) (L:Loc),s.β[j]?=aa L->∃k,ks[j]?=aa k/\s2.β[k]?=aa L)(a:s.β.length=σ.length):
    ∀{vs:List aj} {xs:List E1},gn σ s vs xs->gn σ2 s2 vs (wW ks xs)
  | [],[],_=>trivial
  | [],_::_,h=>h.elim
  | _::_,[],h=>h.elim
  | _::_,_::_,h=>⟨h.1.l3 d c b a,gn.l3 d c b a h.2⟩
def dc.l3(f:s2.M=s.M)(c:∀(j:Nat) (B:ba),σ[j]?=aa B->∃k,ks[j]?=aa k/\σ2[k]?=aa B)(b:∀(j:Nat) (L:Loc),s.β[j]?=aa L->∃k,ks[j]?=aa k/\s2.β[k]?=aa L)(a:s.β.length=σ.length){v:aj}{d:D}(h:dc σ s v d):dc σ2 s2 v (ij ks d):=by
  cases d with
  | e x=>exact mE.l3 f c b a h
  | fe xs=>obtain⟨vs,h1,h2⟩:=h;exact⟨vs,h1,h2.l3 f c b a⟩
  | any=>trivial
end sub
def dL.rB{α:Type}:Nat->α->List α->List α
  | _,_,[]=>[]
  | 0,x,_::r=>x::r
  | k+1,x,y::r=>y::dL.rB k x r
def dL{α:Type}:List Nat->List α->List α->List α
  | [],new,old=>old++new
  | k::ks,x::new,old=>dL ks new (dL.rB k x old)
  | _::_,[],old=>old
theorem kA{α:Type}:∀(k:Nat) (x:α) (l:List α),dL.rB k x l=l.set k x
  | _,_,[]=>by simp[dL.rB]
  | 0,x,_::r=>by simp[dL.rB]
  | k+1,x,y::r=>by simp[dL.rB,kA k x r]
def ui{α:Type}:∀{ks:List Nat} {new old:List α},dF ks=ab->(∀k∈ks,k<old.length)->ks.length<=new.length ->
    (dL ks new old).length=old.length+(new.length-ks.length)/\(∀(j k:Nat),ks[j]?=aa k->(dL ks new old)[k]?=new[j]?) /\
    (∀j,(dL ks new old)[old.length+j]?=new[ks.length+j]?)/\(∀l,l<old.length->l∉ks->(dL ks new old)[l]?=old[l]?)
  | [],new,old,_,_,_=>by
    refine⟨by simp[dL],by simp,λj=>?_,λl g _=>?_⟩
    · simp only[dL,iS,bo]
      grind
    · simp[dL,jq g]
  | k::ks,[],old,_,_,h=>by grind
  | k::ks,x::new,old,a,b,d=>by
    have f:=a;simp only[dF]at a;cases e:gK k ks with
    | true=>grind
    | false =>
      simp only[e]at a;have o:k<old.length:=b k (by simp);have c:k∉ks:=λh=>by grind[tF]
      obtain⟨n,p,m,i⟩:=ui (ks:=ks) (new:=new) (old:=old.set k x) a (λk' Wt=>by grind) (by grind);simp only[dL,kA];grind
def Ev(X:Cx P)(f:aP)(args:List D)(σ:List ba)(res:D)(σ':List ba):Prop :=
  (∃fn,P.funcs[f]?=aa fn/\(fn.name== "runtime.NumGoroutine")=ae/\fn.body.isNone=ae) /\
  ∀s (vs:List aj),cd σ s vs args->aD σ s->∀(S:ak->St->Prop) (cs:List Frame),
    (∀a v s',sY P f a v s'->dc σ' s' v res->aD σ' s'->cJ σ s σ' s'->e9 X S (G a cs) s')->e9 X S (G (Frame.enter P f vs.toArray .normal) cs) s
def dK(X:Cx P)(f:aP)(args:List D)(σ:List ba)(res:ι->D)(σ':ι->List ba):Prop :=
  (∃fn,P.funcs[f]?=aa fn/\(fn.name== "runtime.NumGoroutine")=ae/\fn.body.isNone=ae) /\
  ∀s (vs:List aj),cd σ s vs args->aD σ s->∀(S:ak->St->Prop) (cs:List Frame),
    (∀i a v s',sY P f a v s'->dc (σ' i) s' v (res i)->aD (σ' i) s'->cJ σ s (σ' i) s'->e9 X S (G a cs) s')->e9 X S (G (Frame.enter P f vs.toArray .normal) cs) s
def Ev.KN{X:Cx P}{f:aP}{args:List D}{res:D}(h:Ev X f args σ res σ'):dK (ι:=Unit) X f args σ (λ_=>res) (λ_=>σ') :=
  ⟨h.1,λs vs hr hh S cs hS=>h.2 s vs hr hh S cs (hS ())⟩
def dK.EO{X:Cx P}{f:aP}{args:List D}{res:D}(h:dK (ι:=Unit) X f args σ (λ_=>res) (λ_=>σ')):Ev X f args σ res σ' :=
  ⟨h.1,λs vs hr hh S cs hS=>h.2 s vs hr hh S cs (λ_=>hS)⟩
def ym(s:St)(a:List Loc):Nat->Prop:=λb=>s.own b∨((∃L∈s.β,b∈L.bs)/\∀L∈a,b∉L.bs)
def kW(n:Nat):Nat->List Nat
  | 0=>[]
  | m+1=>n::kW (n+1) m
def zQ:∀(m n j:Nat),(kW n m)[j]?=if j<m then aa (n+j)else af
  | 0,n,j=>by simp[kW]
  | m+1,n,0=>by simp[kW]
  | m+1,n,j+1=>by simp only[kW,mF,zQ m (n+1) j,Nat.add_lt_add_iff_right];grind
def frame{ks:List Nat}{σ1:List ba}{a:St}{n:List Loc}(q:aD σ s)(O:jB ks σ=aa σs)(hβ:jB ks s.β=aa n)(hn:dF ks=ab)(hp:cx σ1=ab)(t:aD σ1 a)(st:cJ σs {s with β:=n,own:=ym s n} σ1 a)(P:ks.length<=σ1.length){res:D}(hr:dc σ1 a v res):
    ∃s2:St,s2.w=a.w/\dc (dL ks σ1 σ) s2 v (ij (ks++kW σ.length (σ1.length-ks.length)) res)/\aD (dL ks σ1 σ) s2/\cJ σ s (dL ks σ1 σ) s2/\s2.M=a.M/\s2.own=s.own/\∀L∈s2.β,L∈a.β∨(L∈s.β/\∀b∈L.bs,∀L'∈n,b∉L'.bs):=by
  have G:∀k∈ks,k<σ.length:=by intro k N;obtain⟨j,p,rfl⟩:=dz N;obtain⟨x,_,h2⟩:=(hU O).2 j _ (bd p);grind
  have F:∀k∈ks,k<s.β.length:=by rw[q.len];exact G
  have J:ks.length<=a.β.length:=by rw[t.len];exact P
  obtain⟨a1,a2,a3,a4⟩:=ui (new:=σ1) (old:=σ) hn G P;obtain⟨b1,b2,b3,b4⟩:=ui (new:=a.β) (old:=s.β) hn F J;obtain⟨c1,c2⟩:=hU O;obtain⟨d1,d2⟩:=hU hβ;let K:=ks++kW σ.length (σ1.length-ks.length);have R:∀j,j<σ1.length->∃k,K[j]?=aa k/\(dL ks σ1 σ)[k]?=σ1[j]?/\(dL ks a.β s.β)[k]?=a.β[j]?:=by
    intro j p;rcases cv j ks.length with m|E
    · refine⟨ks[j],?_,a2 j _ (bd m),b2 j _ (bd m)⟩
      grind
    · refine⟨σ.length+(j-ks.length),?_,?_,?_⟩
      · simp only[K]
        rw[fh E,zQ,bt (by omega)]
      · rw[a3];grind
      · rw[<-q.len,b3];grind
  have f:∀l L,(dL ks a.β s.β)[l]?=aa L->(∃j,j<σ1.length/\a.β[j]?=aa L/\(∀B,(dL ks σ1 σ)[l]?=aa B->σ1[j]?=aa B)/\(∀k,ks[j]?=aa k->k=l)/\(j≥ks.length->l=σ.length+(j-ks.length))) ∨
      (l<σ.length/\l∉ks/\s.β[l]?=aa L/\(dL ks σ1 σ)[l]?=σ[l]?):=by
    intro l L c;have X:l<(dL ks a.β s.β).length:=(b8.1 c).1;rcases cv l σ.length with m|E
    · by_cases r:l∈ks
      · obtain⟨j,p,rfl⟩:=dz r
        have N:=bd p;grind
      · exact .inr ⟨m,r,by rw[<-b4 l (by rw[q.len];exact m) r];exact c,a4 l m r⟩
    · rw[b1,t.len,q.len]at X
      refine .inl ⟨ks.length+(l-σ.length),by omega,?_,λB u=>?_,λk N=>?_,λ_=>by omega⟩
      · rw[<-b3,q.len,x8 E];exact c
      · rw[<-a3,x8 E];exact u
      grind
  have C:∀L∈n,L∈s.β:=by
    intro L c;obtain⟨j,p,rfl⟩:=dz c;have A:j<ks.length:=by grind
    obtain⟨x,V,U⟩:=d2 j _ (bd A);grind
  have other:∀l L,l∉ks->s.β[l]?=aa L->∀b∈L.bs,b<s.w.heap.size/\∀L'∈n,b∉L'.bs:=by
    intro l L z c b d;refine⟨q.lt L (bD c) b d,λL' fC oH=>?_⟩;obtain⟨j,p,rfl⟩:=dz fC;have A:j<ks.length:=by grind
    obtain⟨x,V,U⟩:=d2 j _ (bd A);rw[bd p]at V;cases V;have:=q.eH l ks[j] L _ c U b d oH;grind
  have out:∀b,b<s.w.heap.size->(∀L∈s.β,b∉L.bs)->∀L∈n,b∉L.bs:=λb _ h L c=>h L (C L c);have ex:Ext σ s (dL ks σ1 σ) ⟨dL ks a.β s.β,a.M,a.w,s.own⟩:=by
    refine⟨st.mem,λl B L u c=>?_⟩;have m:l<σ.length:=(b8.1 u).1;by_cases r:l∈ks
    · obtain⟨j,p,rfl⟩:=dz r
      have N:=bd p;obtain⟨x,V,U⟩:=c2 j _ N;obtain⟨y,y1,y2⟩:=d2 j _ N;rw[u]at U;cases U;rw[c]at y2;cases y2;obtain⟨B',L',p1,p2,p3⟩:=st.box j B L V y1;grind
    · exact⟨B,L,by grind,by grind,.refl _ _⟩
  refine⟨⟨dL ks a.β s.β,a.M,a.w,s.own⟩,rfl,?_,⟨t.mem,?_,?_,?_,?_,?_⟩,⟨st.size,?_,st.mem,?_,?_,ex.box,st.os,st.tape,st.output,rfl⟩,rfl,rfl,?_⟩
  · refine dc.l3 (s:=a) (s2:=⟨dL ks a.β s.β,a.M,a.w,s.own⟩) (σ2:=dL ks σ1 σ) (ks:=K) rfl (λj B u=>?_) (λj L c=>?_) t.len hr
    · grind
    · obtain⟨k,k1,_,k3⟩:=R j (by rw[<-t.len];grind)
      grind
  · simp only;rw[a1,b1,t.len,q.len]
  · intro l B L u c
    rcases f l L c with⟨j,p,g,Q,_⟩|⟨z,r,fC,Y⟩
    · exact eG.plain (σ:=σ1) (s:=a) (s':=⟨dL ks a.β s.β,a.M,a.w,s.own⟩) rfl rfl (jS hp B (bD (Q B u))) (t.box j B L (Q B u) g)
    · rw[Y]at u
      refine(q.box l B L u fC).carry ex q.len λb d=>?_;obtain⟨o1,W⟩:=other l L r fC b d;exact⟨st.keep b (.inr ⟨⟨L,bD fC,d⟩,W⟩),st.iq b o1 W⟩
  · intro l l' L L' c fC b d oH
    rcases f l L c with⟨j,p,g,_,XT,Ys⟩|⟨z,r,i,_⟩<;>rcases f l' L' fC with⟨j',A,I,_,Yt,Yu⟩|⟨Dk,hm',H,_⟩
    · have e:=t.eH j j' L L' g I b d oH
      grind
    · obtain⟨o1,W⟩:=other l' L' hm' H b oH
      rcases st.tB L (bD g) b d with h|⟨L0,h0,S⟩
      · grind
      grind
    · obtain⟨o1,W⟩:=other l L r i b d
      rcases st.tB L' (bD I) b oH with h|⟨L0,h0,S⟩
      · grind
      grind
    · exact q.eH l l' L L' i H b d oH
  · intro L c b d
    obtain⟨l,z,rfl⟩:=dz c;rcases f l _ (bd z)with⟨j,p,g,_⟩|⟨_,_,i,_⟩
    · exact t.lt _ (bD g) b d
    · have:=q.lt _ (bD i) b d
      have:=st.size;grind
  · intro b d
    refine⟨?_,λL c T=>?_⟩
    · have:=(q.own b d).1
      have:=st.size;grind
    · obtain⟨l,z,rfl⟩:=dz c
      rcases f l _ (bd z)with⟨j,p,g,_⟩|⟨_,_,i,_⟩
      · have ho:a.own b:=by rw[st.own];exact .inl d
        exact(t.own b ho).2 _ (bD g) T
      · exact(q.own b d).2 _ (bD i) T
  · intro b d
    exact st.keep b (.inl d)
  · intro b d Z o
    exact st.iq b d (out b d Z) o
  · intro L c b d
    obtain⟨l,z,rfl⟩:=dz c;rcases f l _ (bd z)with⟨j,p,g,_⟩|⟨_,_,i,_⟩
    · rcases st.tB _ (bD g) b d with h|⟨L0,h0,S⟩
      · grind
      grind
    grind
  · intro L c
    obtain⟨l,z,rfl⟩:=dz c;rcases f l _ (bd z)with⟨j,p,g,_⟩|⟨_,r,i,_⟩
    · grind
    grind
def er:D->Option (aP×List C)
 |.e (.one (.c (.fn (.func f) [] cap)))=>aa (f,cap)
 |_=>af
theorem oM{σ:List ba}{s:St}{a:aC->aj}{η:aC->D}(b:∀y,dc σ s (a y) (η y)):∀l:List aC,cd σ s (l.map a) (l.map η)
 |[]=>trivial
 |x::r=>⟨b x,oM b r⟩
def cd.append{σ:List ba}{s:St}:∀{vs Uq:List aj}{ds Dt:List D},cd σ s vs ds->cd σ s Uq Dt->cd σ s (vs++Uq) (ds++Dt)
 |[],_,[],_,_,h=>h
 |[],_,_::_,_,h,_=>h.elim
 |_::_,_,[],_,h,_=>h.elim
 |_::_,_,_::_,_,h,a=>⟨h.1,cd.append h.2 a⟩
def Oa:A->A
 |.vec _ k n es=>.c (.sl ae k n es)
 |.c (.sl _ k n es)=>.c (.sl ae k n es)
 |a=>a
def Dw{a:A}(h:fU σ s v a):fU σ s v (Oa a):=by
 cases a with
 |vec l k n es=>exact h.1
 |c x=>cases x<;>first|exact h|exact Rd.loose h
 |_=>exact h
def Ob:List A->List A
 |[]=>[]
 |a::r=>Oa a::Ob r
def Dx{σ:List ba}{s:St}:∀{vs:List aj}{cs:List A},dH σ s vs cs->dH σ s vs (Ob cs)
 |[],[],_=>trivial
 |[],_::_,h=>h.elim
 |_::_,[],h=>h.elim
 |_::_,_::_,h=>⟨Dw h.1,Dx h.2⟩
def Re:D->D
 |.e (.one a)=>.e (.one (Oa a))
 |.e (.agg cs)=>.e (.agg (Ob cs))
 |d=>d
def KO{d:D}(h:dc σ s v d):dc σ s v (Re d):=by
 cases d with
 |e x=>cases x with
  |one a=>exact Dw h
  |agg cs=>obtain⟨vs,c,b⟩:=h;exact⟨vs,c,Dx b⟩
 |fe xs=>exact h
 |any=>trivial
def nq:List D->List D
 |[]=>[]
 |a::r=>Re a::nq r
theorem qB{σ:List ba}{s:St}:∀{vs:List aj}{ds:List D},cd σ s vs ds->cd σ s vs (nq ds)
 |[],[],_=>trivial
 |[],_::_,h=>h.elim
 |_::_,[],h=>h.elim
 |_::_,_::_,h=>⟨KO h.1,qB h.2⟩
def fu:List C->List D
 |[]=>[]
 |c::r=>.e (.one (.c c))::fu r
theorem l4{σ:List ba}{s:St}:∀{vs:List aj}{cs:List C},(∀(j:Nat)(c:C),cs[j]?=aa c->∃v,vs[j]?=aa v/\Rd s.M v c)->vs.length=cs.length->cd σ s vs (fu cs)
 |[],[],_,_=>trivial
 |[],_::_,_,h=>by grind
 |_::_,[],_,h=>by grind
 |v::vs,c::cs,h,d=>by obtain⟨u,a,b⟩:=h 0 c rfl;simp at a;subst a;exact⟨b,l4 (λj c e=>by simpa using h (j+1) c (by grind)) (by grind)⟩
def yn{ks:List Nat}{l r:List α}(h:jB ks l=aa r):∀x∈r,x∈l:=by intro x a;obtain⟨e,b⟩:=hU h;obtain⟨j,d,rfl⟩:=dz a;obtain⟨y,f,c⟩:=b j _ (bd (by omega));grind
def aD.sub{ks:List Nat}{a:List Loc}(hh:aD σ s)(k:jB ks σ=aa σs)(g:jB ks s.β=aa a)(v:cx σs=ab)(t:dF ks=ab):
  aD σs {s with β:=a,own:=ym s a}/\ey s {s with β:=a,own:=ym s a}:=by
 obtain⟨c1,c2⟩:=hU k;obtain⟨d1,d2⟩:=hU g;have d:∀L∈a,L∈s.β:=yn g;refine⟨⟨hh.mem,by grind,?_,?_,?_,?_⟩,⟨rfl,λ_ _ _ h=>h,λ_ _ _=>rfl,hh.mem,?_⟩⟩
 .intro j B L q c;have hj:j<ks.length:=by grind
  obtain⟨x,r,u⟩:=c2 j _ (bd hj);obtain⟨y,i,n⟩:=d2 j _ (bd hj);rw[q]at r;cases r;simp only at c;rw[c]at i;cases i;exact eG.plain (σ:=σ) (s:=s) (s':={s with β:=a,own:=ym s a}) rfl rfl (jS v B (bD q)) (hh.box _ B L u n)
 .intro j o L L' c e b hb oH;simp only at c e;have hj:j<ks.length:=by grind
  have l:o<ks.length:=by grind
  obtain⟨y,i,n⟩:=d2 j _ (bd hj);obtain⟨w,f,p⟩:=d2 o _ (bd l);rw[c]at i;cases i;rw[e]at f;cases f;have:=hh.eH _ _ L L' n p b hb oH;exact ug t j o ks[j] (bd hj) (by grind)
 .intro L c b hb;exact hh.lt _ (d L c) b hb
 .rintro b (hb|⟨⟨L,c,hb⟩,m⟩)
  .exact⟨(hh.own b hb).1,λL c=>(hh.own b hb).2 L (d L c)⟩
  .exact⟨hh.lt L c b hb,m⟩
 .rintro b ((hb|⟨⟨L,c,hb⟩,_⟩)|⟨L,c,hb⟩)
  .grind
  .grind
  grind
def ey.back{σ1:List ba}{c s2:St}{a:List Loc}(hh:aD σ s)(h1:aD σ1 c)(st:cJ σs {s with β:=a,own:=ym s a} σ1 c)(i:s2.w=c.w)(e:s2.M=c.M)(j:s2.own=s.own)(d:∀L∈s2.β,L∈c.β∨(L∈s.β/\∀b∈L.bs,∀L'∈a,b∉L'.bs)):ey c s2:=by
 refine⟨i,λb o v h=>by grind,λb _ o=>by rw[e],λb o v h=>by rw[e]at h;exact h1.mem b o v h,?_⟩;rintro b (hb|⟨L,g,hb⟩)
 .left;rw[st.own];exact .inl (by grind)
 .rcases d L g with h|⟨h,f⟩
  .grind
  .left;rw[st.own];exact .inr ⟨⟨L,h,hb⟩,f b hb⟩
def rC{X:Cx P}{b:Frame}{k:List Item}{a:Act}{rest:List Nat}{ks:List Nat}{f:aP}(hb:b.kind≠.early)(Z:ops[i]?=aa o)(hw:aX o (yielded ops a.tmps)=ab)(Y:aD σ s)(x:∀w,(aq a.eval o).run P w=.ok (.enter f vs.toArray) w)(u:∀w,(aq a.eval o).events P w #[]=#[])(J:dK X f cu σs res σ1)(q:cd σ s vs (gp ks cu))(F:lq ks.length cu=ab)(m:jB ks σ=aa σs)(hp:cx σs=ab)(M:∀j,cx (σ1 j)=ab)(W:dF ks=ab)(K:∀j,ks.length<=(σ1 j).length)(h:∀j v s',dc (dL ks (σ1 j) σ) s' v (ij (ks++kW σ.length ((σ1 j).length-ks.length)) (res j))->aD (dL ks (σ1 j) σ) s'->cJ σ s (dL ks (σ1 j) σ) s'->e9 X S (G (b.aT (a.put o.dst v) (.inRegion ops rest::k)) cs) s'):
  e9 X S (G (b.aT a (.inRegion ops (i::rest)::k)) cs) s:=by
 obtain⟨_,p⟩:=J;refine .next rfl λg V=>?_;have R:=X.hZ V;have d:=Y.rely R;obtain⟨e,r⟩:=yj (l':=g.β) m d.len;obtain⟨z,H⟩:=d.sub m r hp W;have n:cd σ g vs (gp ks cu):=q.mono R.stepW.ext Y.len;have D:cd σs {g with β:=e,own:=ym g e} vs cu:=(n.sub (s:=g) m r F).mono (σ:=σs) (s:={g with β:=e}) (σ':=σs) (s':={g with β:=e,own:=ym g e}) ⟨λ_ _ _ h=>h,λl B L hB hL=>⟨B,L,hB,hL,.refl _ _⟩⟩ z.len;refine⟨_,g,_,qz Z hw hb (x g.w),?_,.ghost H (p _ vs D z S _ λj fr v s2 hl l5 Gr nU=>?_)⟩
 .refine⟨⟨σ,σ,d,d,.refl _ _⟩,ee.seen ?_⟩;rw[u];exact .nil
 refine rD (cs:=cs) (c:=b.aT a (.inRegion ops (i::rest)::k)) Gr hl λs3 t=>?_;have A:=Gr.rely t;have y:=nU.trans t.stepW;obtain⟨s4,E,I,N,T,O,Q,C⟩:=frame d m r W (M j) A y (K j) (l5.mono t.stepW.ext Gr.len);refine .ghost (ey.back d A y E O Q C) ?_;have U:=kI (b:=b) (a:=a) (k:=k) ops i rest v;rw[Z]at U;simp only[nK]at U;rw[U];exact h j v s4 I N (R.stepW.trans T)
def GQ{X:Cx P}{b:Frame}{k:List Item}{a:Act}{rest:List Nat}{ks:List Nat}{σ1:List ba}{f:aP}{res:D}(t:b.kind≠.early)(r:ops[i]?=aa o)(u:aX o (yielded ops a.tmps)=ab)(q:aD σ s)(e:∀w,(aq a.eval o).run P w=.ok (.enter f vs.toArray) w)(d:∀w,(aq a.eval o).events P w #[]=#[])(g:Ev X f cu σs res σ1)(c:cd σ s vs (gp ks cu))(n:lq ks.length cu=ab)(l:jB ks σ=aa σs)(x:cx σs=ab)(m:cx σ1=ab)(p:dF ks=ab)(j:ks.length<=σ1.length)(h:∀v s',dc (dL ks σ1 σ) s' v (ij (ks++kW σ.length (σ1.length-ks.length)) res)->aD (dL ks σ1 σ) s'->cJ σ s (dL ks σ1 σ) s'->e9 X S (G (b.aT (a.put o.dst v) (.inRegion ops rest::k)) cs) s'):
  e9 X S (G (b.aT a (.inRegion ops (i::rest)::k)) cs) s :=
 rC t r u q e d g.KN c n l x (λ_=>m) p (λ_=>j) (λ_=>h)
theorem iK(j:o.op=.call {callee:=.value fo,args:=xs,argTypes:=jK}){f:aP}{fn:Func}(d:P.funcs[f]?=aa fn)(i:(fn.name== "runtime.NumGoroutine")=ae)(g:fn.body.isNone=ae){a:Act}{cs:List aj}(h:a.eval fo=.func (.func f) #[] cs.toArray)(w:aA):
  (aq a.eval o).run P w=.ok (.enter f (xs.toList.map a.eval++cs).toArray) w/\(aq a.eval o).events P w #[]=#[]:=by
 have e:(xs.map a.eval++cs.toArray)=(xs.toList.map a.eval++cs).toArray:=by grind
 have c:fn.name≠ "runtime.NumGoroutine":=by grind
 have b:fn.body≠af:=by grind
 constructor
 .simp[aq,j,resolve,h,Deferred.ofValue,invoke,callFunc,d,c,b,e]
 .simp[aq,j,resolve,h,Deferred.ofValue,invoke,callFunc,d,c,b]
def iO.zR{X:Cx P}{Q:Fr->List ba->Prop}(L:∀σ s a,cf N σ s φ a->aX o (yielded all.toArray a.tmps)=ab)(J:o.op=.call {callee:=.value fo,args:=xs,argTypes:=jK}){f:aP}(y:er (bH φ fo)=aa (f,cap))(ks:List Nat)(r:dK X f cu σs res σ1)(m:∀s vs,cd σ s vs (xs.toList.map (bH φ)++fu cap)->cd σ s vs (gp ks cu))(B:lq ks.length cu=ab)(z:jB ks σ=aa σs)(V:cx σs=ab)(E:∀j,cx (σ1 j)=ab)(K:dF ks=ab)(D:∀j,ks.length<=(σ1 j).length)(d:Option Nat)(U:o.dst=d)(O:∀t,d=aa t->t<N)(k:∀j,iO X N all rest Q (kV d (ij (ks++kW σ.length ((σ1 j).length-ks.length)) (res j)) φ) (dL ks (σ1 j) σ)):iO X N all (o::rest) Q φ σ:=by
 subst U;intro s a g hh b kk cs S idx hb kX hQ;cases idx with
 |nil=>exact kX.elim
 |cons i idx =>
 obtain⟨hi,kX⟩:=kX;have p:=dJ g fo;unfold er at y;split at y
 case h_2=>cases y
 case h_1 f' Kz he =>
  cases y;rw[he]at p;have h:=fp p;generalize I:a.eval fo=fv at h;cases h with
  |fn fs lZ hl Dk f1 f2 h1 h2 r1 r2 =>
   have H:fs=[]:=jo hl;subst H;have n:cd σ s lZ (fu cap):=l4 (λj c hj=>⟨f2 j,h2 j (by grind),r2 j c hj⟩) Dk;have u:cd σ s (xs.toList.map a.eval++lZ) (gp ks cu):=by exact m _ _ ((oM (dJ g) xs.toList).append n)
   obtain⟨fn,x,l,e⟩:=r.1;refine rC hb hi (L _ _ _ g) hh (λw=>(iK J x l e I w).1) (λw=>(iK J x l e I w).2) r u B z V E K D λj v s' hr iQ st=>?_;refine k j s' _ ?_ iQ b kk cs S idx hb kX λF C M a3 q R T G=>hQ F C M a3 q R T (st.trans G);cases A:o.dst with
   |none=>exact g.mono st hh.len
   |some t=>exact(g.mono st hh.len).put (O t A) hr
def iO.M7{X:Cx P}{Q:Fr->List ba->Prop}(n:∀σ s a,cf N σ s φ a->aX o (yielded all.toArray a.tmps)=ab)(p:o.op=.call {callee:=.value fo,args:=xs,argTypes:=jK}){f:aP}(q:er (bH φ fo)=aa (f,cap))(ks:List Nat)(b:dK X f cu σs res σ1)(l:nq (xs.toList.map (bH φ)++fu cap)=gp ks cu)(i:lq ks.length cu=ab)(e:jB ks σ=aa σs)(u:cx σs=ab)(g:∀j,cx (σ1 j)=ab)(m:dF ks=ab)(c:∀j,ks.length<=(σ1 j).length)(d:Option Nat)(v:o.dst=d)(r:∀t,d=aa t->t<N)(k:∀j,iO X N all rest Q (kV d (ij (ks++kW σ.length ((σ1 j).length-ks.length)) (res j)) φ) (dL ks (σ1 j) σ)):iO X N all (o::rest) Q φ σ :=
 iO.zR n p q ks b (λs vs h=>by grind[qB]) i e u g m c d v r k
theorem iO.call{X:Cx P}{Q:Fr->List ba->Prop}(l:∀σ s a,cf N σ s φ a->aX o (yielded all.toArray a.tmps)=ab)(m:o.op=.call {callee:=.value fo,args:=xs,argTypes:=jK}){f:aP}(n:er (bH φ fo)=aa (f,cap))(ks:List Nat){σ1:List ba}{res:D}(c:Ev X f cu σs res σ1)(b:nq (xs.toList.map (bH φ)++fu cap)=gp ks cu)(i:lq ks.length cu=ab)(g:jB ks σ=aa σs)(q:cx σs=ab)(h:cx σ1=ab)(j:dF ks=ab)(e:ks.length<=σ1.length)(d:Option Nat)(r:o.dst=d)(p:∀t,d=aa t->t<N)(k:iO X N all rest Q (kV d (ij (ks++kW σ.length (σ1.length-ks.length)) res) φ) (dL ks σ1 σ)):iO X N all (o::rest) Q φ σ :=
 iO.M7 l m n ks c.KN b i g q (λ_=>h) j (λ_=>e) d r p (λ_=>k)
def Names.range(all:List aB):Names all (a9 all.toArray.size) all:=by
 have key:∀(l:List aB) (n:Nat),(∀j o,l[j]?=aa o->all[n+j]?=aa o)->Names all (List.range' n l.length) l:=by
  intro l;induction l with
  |nil=>intro n _;trivial
  |cons o r b =>
   intro n h;rw[gd,List.range'_succ];refine⟨by simpa using h 0 o rfl,b (n+1) λj a hj=>?_⟩;have:=h (j+1) a (by grind);grind
 grind[List.range_eq_range']
theorem AW.region{X:Cx P}{Q:Post}{id:Nat}(h:iO X N ops.toList ops.toList (λφ σ=>Q .normal φ σ) φ σ):AW X N (.region id ops ae) Q φ σ:=by intro s a f hh b k cs S hb hQ;refine .ctl hh rfl (λ_=>oJ) λc h1=>?_;have:=h c a (f.rely h1 hh) (hh.rely h1) b k cs S (a9 ops.size) hb (by simpa using Names.range ops.toList) λφ' σ' s' a' q d e st=>hQ .normal φ' σ' s' a' q d e (h1.stepW.trans st);simpa using this
def iO.nil{P:aK}{X:Cx P}{N:Nat}{all:List aB}{Q:Fr->List ba->Prop}{φ:Fr}{σ:List ba}(h:Q φ σ):iO X N all [] Q φ σ:=by
 intro s a f hh b k cs S idx _ c d;cases idx with
 |cons i idx=>exact c.elim
 |nil=>exact .ctl hh rfl (λ_=>iu) λe h1=>d φ σ e a h (f.rely h1 hh) (hh.rely h1) h1.stepW
def iO.mono{X:Cx P}{Q c:Fr->List ba->Prop}(h:iO X N all rest Q φ σ)(e:∀φ σ,Q φ σ->c φ σ):iO X N all rest c φ σ :=
 λs a f hh b k cs S idx hb hi hQ=>h s a f hh b k cs S idx hb hi λφ' σ' s' a' q d g st=>hQ φ' σ' s' a' (e _ _ q) d g st
def iL:Nat->List D->Fr
 |_,[]=>[]
 |i,d::r=>(i,d)::iL (i+1) r
def mO:∀(ds:List D)(i t:Nat),look (iL i ds) t=if i<=t then(ds[t-i]?).getD .any else .any
 |[],i,t=>by simp[iL,look]
 |d::r,i,t=>by
  simp only[iL,look];by_cases e:i=t
  .grind [Nat.beq_refl]
  .have:av i t=ae:=by grind[Nat.eq_of_beq_eq_true]
   rw[this];simp only[cond,mO r (i+1) t];grind
theorem cd.get{σ:List ba}{s:St}:∀{vs:List aj}{ds:List D},cd σ s vs ds->vs.length=ds.length/\∀(j:Nat),dc σ s ((vs[j]?).getD ah) ((ds[j]?).getD .any)
 |[],[],_=>⟨rfl,λj=>by simp[dc]⟩
 |[],_::_,h=>h.elim
 |_::_,[],h=>h.elim
 |v::vs,d::ds,h=>by
  obtain⟨h1,h2⟩:=cd.get h.2;refine⟨by grind,λj=>?_⟩;cases j with
  |zero=>simpa using h.1
  |succ j=>grind
def wq(φ:Fr):List ResultVar->Option (List D)
 |[]=>aa []
 |.tmp t::r=>match wq φ r with
  |some q=>aa (look φ t::q)
  |none=>af
 |.cell _ _::_=>af
def su:List D->Option (List E1)
 |[]=>aa []
 |.e x::r=>match su r with
  |some q=>aa (x::q)
  |none=>af
 |_::_=>af
def qC:List D->Option D
 |[d]=>aa d
 |ds=>match su ds with
  |some es=>aa (.fe es)
  |none=>af
def fz(a:Act):ResultVar->Sem aj
 |ResultVar.tmp t=>pure (a.tmps.getD t ah)
 |ResultVar.cell ad t=>do loadVar t (<-asAddr (a.tmps.getD ad ah))
def Dy(P:aK){N:Nat}{σ:List ba}{s:St}{φ:Fr}{a:Act}(f:cf N σ s φ a):∀{rs:List ResultVar}{ds:List D},wq φ rs=aa ds ->
  ∃vs,(∀w,(rs.mapM (fz a)).run P w=Result.ok vs w)/\cd σ s vs ds/\cN P (rs.mapM (fz a))
 |[],ds,h=>by cases h;exact⟨[],by simp,ar,by rw[List.mapM_nil];exact .pure⟩
 |.tmp t::r,ds,h=>by
  simp only[wq]at h;cases b:wq φ r with
  |none=>grind
  |some q =>
   simp[b]at h;subst h;obtain⟨vs,d,c,e⟩:=Dy P f b;refine⟨a.tmps.getD t ah::vs,?_,⟨f.slot t,c⟩,?_⟩
   .intro w;simp only[mI,bL,fz,cK,b6,d]
   .rw[mI];exact .bind .pure λ_=>.bind e λ_=>.pure
 |.cell ad t::r,ds,h=>by simp[wq]at h
def zT{σ:List ba}{s:St}:∀{vs:List aj}{ds:List D}{es:List E1},su ds=aa es->cd σ s vs ds->gn σ s vs es
 |[],[],es,h,_=>by cases h;trivial
 |[],_::_,_,_,h=>h.elim
 |_::_,[],_,_,h=>h.elim
 |v::vs,.e x::r,es,h,b=>by
  simp only[su]at h;cases a:su r with
  |none=>grind
  |some q=>simp[a]at h;subst h;exact⟨b.1,zT a b.2⟩
 |_::_,.fe _::_,es,h,_=>by simp[su]at h
 |_::_,.any::_,es,h,_=>by simp[su]at h
def zU{ds:List D}{d:D}(h:qC ds=aa d)(a:cd σ s vs ds):dc σ s (if h:vs.length=1 then vs[0]else .tuple vs.toArray) d:=by
 unfold qC at h;split at h
 .rename_i g;cases h
  match vs,a with
  |[v],a=>simpa using a.1
 .rename_i c;cases b:su ds with
  |none=>grind
  |some es =>
   simp[b]at h;subst h;have f:vs.length≠1:=by
    intro e;rw[(cd.get a).1]at e
    match ds,e with
    |[x],_=>grind
   rw[dif_neg f];exact⟨vs,rfl,zT b a⟩
def zV(P:aK)(fn:Func)(φ:Fr)(d:D):Prop:=∀{N:Nat}{σ:List ba}{s:St}{a:Act},cf N σ s φ a->∃v,dc σ s v d/\∀w,(∀b o u,s.M b o=aa u->w.cell? ⟨b,o,af⟩=aa u)->(results fn a.tmps).run P w=.ok v w/\∀e∈(results fn a.tmps).events P w #[],∃b o u,e=⟨.cell ⟨b,o,af⟩,ae,ae⟩/\s.M b o=aa u
def sv{a:Act}(f:cf N σ s φ a){fn:Func}{ds:List D}{d:D}(h:wq φ fn.results.toList=aa ds)(c:qC ds=aa d):
  ∃v,(∀w,(results fn a.tmps).run P w=.ok v w)/\dc σ s v d/\cN P (results fn a.tmps):=by
 obtain⟨vs,i,b,g⟩:=Dy P f h;refine⟨_,λw=>?_,zU c b,?_⟩
 .have e:(fn.results.mapM (fz a)).run P w=Result.ok vs.toArray w:=by grind[Array.mapM_eq_mapM_toList,Sem.run_map,Go.Result.andThen_ok]
  unfold results;rw[bL];refine(dm (λr=>Result.andThen r _) (Eq.trans ?_ e)).trans ?_
  .congr 2
  .simp
 .unfold results;have e:cN P (fn.results.mapM (fz a)):=by rw[pC];exact .map g
  exact .bind e λ_=>.pure
theorem zV.of{fn:Func}{ds:List D}{d:D}(h:wq φ fn.results.toList=aa ds)(hj:qC ds=aa d):zV P fn φ d:=by intro N σ s a f;obtain⟨v,h1,h2,b⟩:=sv (P:=P) f h hj;exact⟨v,h2,λw _=>⟨h1 w,λe c=>by rw[b w #[]]at c;grind⟩⟩
section
def aD.kz(h:aD σ s):aD (σ.map λ_=>.dead) s:=by
 refine⟨h.mem,by simp[h.len],λl B L a c=>?_,h.eH,h.lt,h.own⟩;simp only[mJ]at a;cases b:σ[l]? with
 |none=>grind
 |some x=>rw[b]at a;cases a;trivial
structure M9(ls:List Nat)(s s':St):Prop where
 β:s'.β=s.β
 M:s'.M=s.M
 own:s'.own=s.own
 size:s.w.heap.size<=s'.w.heap.size
 keep:∀b,(s.own b∨∃(l:Nat) (L:Loc),s.β[l]?=aa L/\l∉ls/\b∈L.bs)->s'.w.heap[b]?=s.w.heap[b]?
 mem:∀b o v,s.M b o=aa v->s'.w.cell? ⟨b,o,af⟩=aa v
 os:s'.w.os=s.w.os
 tape:s'.w.tape=s.w.tape
 output:s'.w.output=s.w.output
def b5.Yx(h:b5 s s')(ls:List Nat):M9 ls s s' :=
 ⟨h.β,h.M,h.own,h.size,λb hb=>h.keep b (hb.imp id λ⟨l,L,h1,_,a⟩=>⟨L,bD h1,a⟩),h.mem,h.os,h.tape,h.output⟩
theorem M9.cat{ls:List Nat}{a s2:St}(h:M9 [l] s a)(k:M9 ls a s2):M9 (l::ls) s s2:=by refine⟨k.β.trans h.β,k.M.trans h.M,k.own.trans h.own,gB h.size k.size,λb hb=>?_,λb o v c=>k.mem b o v (by rw[h.M];exact c),k.os.trans h.os,k.tape.trans h.tape,k.output.trans h.output⟩;rw[k.keep b,h.keep b (hb.imp id λ⟨l',L,h1,h2,d⟩=>⟨l',L,h1,λe=>h2 (by grind),d⟩)];rw[h.own,h.β];grind
def GW{r:Nat}(a:w.heap[r]?=aa (.deferred (aa []))):
  (Instr.takeDeferred r).run P w=.ok [] {w with heap:=w.heap.setIfInBounds r (.deferred af)}/\(Instr.takeDeferred r).events P w #[]=#[⟨.obj r,ae,ae⟩,⟨.obj r,ab,ae⟩]:=by
 have b:(getObj r).run P w=.ok (.deferred (aa [])) w:=by simp only[getObj,Sem.run,a]
 have e:(setObj r (.deferred af)).run P w=.ok () {w with heap:=w.heap.setIfInBounds r (.deferred af)}:=by simp only[setObj,Sem.run,a]
 have d:∀es,(getObj r).events P w es=es.push ⟨.obj r,ae,ae⟩:=λes=>by simp only[getObj,Sem.events,Sem.runT,a];rfl
 have c:∀es,(setObj r (.deferred af)).events P w es=es.push ⟨.obj r,ab,ae⟩:=λes=>by simp only[setObj,Sem.events,Sem.runT,a];rfl
 constructor
 .simp[Instr.takeDeferred,b,e]
 .simp[Instr.takeDeferred,b,d,c]
variable {X:Cx P}{main:Bool}
def KR{a:Frame}{r:Nat}{ds:List Deferred}(c:a.mode=.returning)(f:a.defers={target:=.collected r,args:=#[]}::ds)(b:w.heap[r]?=aa (.deferred (aa []))):
  aG P main (G a cs) w=.go (G {a with defers:=ds} cs) {w with heap:=w.heap.setIfInBounds r (.deferred af)} (seen P a.fn #[⟨.obj r,ae,ae⟩,⟨.obj r,ab,ae⟩]):=by obtain⟨e,d⟩:=GW (P:=P) b;simp[G,aG,unwind,c,f,e,d,GStep.after]
def uv(s:St):List Deferred->List Nat->Prop
 |[],[]=>True
 |d::ds,l::ls=>(∃r:Nat,s.β[l]?=aa ⟨.int .i64 r,[r]⟩/\s.w.heap[r]?=aa (.deferred (aa []))/\(∀o,s.M r o=af)/\d={target:=.collected r,args:=#[]})/\l∉ls/\uv s ds ls
 |_,_=>False
def nB.taken{σ:List ba}{s:St}(hh:aD σ s):∀{ds:List Deferred}{ls:List Nat},nB σ s ds ls->uv s ds ls
 |[],[],_=>trivial
 |[],_::_,r=>r.elim
 |_::_,[],r=>r.elim
 |d::ds,l::ls,⟨⟨h1,L,r,h2,c,b⟩,a,g⟩=>by
  obtain⟨r',k1,h,f⟩:=hh.box l _ L h1 h2;subst k1;simp at c;have e:r'=r:=by omega
  subst e;exact⟨⟨r',h2,h,f,b⟩,a,nB.taken hh g⟩
def uv.mono{s s':St}{b:Nat}(h:M9 [b] s s'):∀{ds:List Deferred}{ls:List Nat},b∉ls->uv s ds ls->uv s' ds ls
 |[],[],_,_=>trivial
 |[],_::_,_,r=>r.elim
 |_::_,[],_,r=>r.elim
 |d::ds,l::ls,a,⟨⟨r,h1,h2,g,e⟩,c,f⟩=>by simp only[dD,not_or]at a;refine⟨⟨r,by rw[h.β];exact h1,by rw[h.keep r (.inr ⟨l,_,h1,by grind,by simp⟩)];exact h2,λo=>by rw[h.M];grind,e⟩,c,uv.mono h a.2 f⟩
def pU:∀(ls:List Nat)(f:Frame)(s:St)(σ:List ba),aD σ s->(∀B∈σ,B=.dead)->f.mode=.returning->uv s f.defers ls ->
  (∀s',M9 ls s s'->e9 X S (G {f with defers:=[]} cs) s')->e9 X S (G f cs) s
 |[],f,s,σ,t,m,D,n,k=>by
  have p:f.defers=[]:=by
   cases p:f.defers with
   |nil=>rfl
   |cons d ds=>rw[p]at n;exact n.elim
  have:=k s ((b5.refl t).Yx _);have e:{f with defers:=[]}=f:=by cases f;simp_all
  grind
 |l::ls,f,s,σ,t,m,D,n,k=>by
  cases p:f.defers with
  |nil=>rw[p]at n;exact n.elim
  |cons d ds =>
   rw[p]at n;obtain⟨⟨r,y,R,U,N⟩,J,K⟩:=n;subst N;refine .next rfl λi C=>?_;have g:=X.hZ C;have a:=t.rely g;have H:i.β[l]?=aa ⟨.int .i64 r,[r]⟩:=by rw[g.β];exact y
   have E:i.w.heap[r]?=aa (.deferred (aa [])):=by rw[g.keep r (.inr ⟨_,bD y,by simp⟩)];exact R
   have O:∀o,i.M r o=af:=λo=>by rw[g.M];grind
   let s2:St:={i with w:={i.w with heap:=i.w.heap.setIfInBounds r (.deferred af)}}
   have I:∀b,b≠r->s2.w.heap[b]?=i.w.heap[b]?:=λb c=>by grind
   have j:∀b o v,i.M b o=aa v->s2.w.cell? ⟨b,o,af⟩=aa v:=by
    intro b o v A;have x:b≠r:=by grind
    rw[<-a.mem b o v A];simp only[aU];grind
   have u:aD σ s2:=by
    refine⟨j,a.len,λl' B L Q z=>?_,a.eH,λL z b c=>?_,λb c=>⟨?_,(a.own b c).2⟩⟩
    .rw[m B (bD Q)];trivial
    .have:=a.lt L z b c;grind
    .have:=(a.own b c).1;grind
   have q:∃L∈i.β,r∈L.bs:=⟨_,bD H,by simp⟩
   have st:Step σ i σ s2:=by refine⟨by grind,λb _ c=>I b ?_,λ_ _ _ h=>h,λ_ _ _ _=>rfl,λL z b c=>.inr ⟨L,z,c⟩,λ_ B L h T=>⟨B,L,h,T,.refl _ _⟩,rfl,rfl,rfl,rfl⟩;grind
   have un:M9 [l] s s2:=by
    refine⟨g.β,g.M,g.own,gB g.size (by grind),λb c=>?_,λb o v A=>j b o v (by rw[g.M];exact A),g.os,g.tape,g.output⟩;have x:b≠r:=by
     rintro rfl;rcases c with c|⟨l',L',F,p2,p3⟩
     .exact(t.own b c).2 _ (bD y) (by simp)
     .exact p2 (by simp;exact t.eH l' l L' _ F y b p3 (by simp))
    rw[I b x];exact g.keep b (c.imp id λ⟨l',L',F,_,p3⟩=>⟨L',bD F,p3⟩)
   refine⟨_,s2,_,KR D p E,⟨⟨σ,σ,a,u,st⟩,ee.seen (.two ?_ ?_)⟩,?_⟩
   .exact⟨rfl,.inr q⟩
   .exact⟨rfl,.inr q⟩
   refine pU ls {f with defers:=ds} s2 σ u m D (K.mono un J) λs' hu=>?_;exact k s' (un.cat hu)
end
def cn(n:Nat)(f g:Nat->List C):Prop:=∀i,i<n->f i=g i
def Flat.BH{es':Nat->List C}(h:Flat M k n es vs)(a:cn n es es'):Flat M k n es' vs :=
 ⟨h.len,λi hi=>by rw[<-a i hi];exact h.width i hi,λi hi j c hj=>h.rd i hi j c (by rw[a i hi];exact hj)⟩
def Vm:C->C->Option (List Prop)
 |.int k n,.int k' n'=>match E8 k k' with|true=>aa [n=n']|false=>af
 |.bool b,.bool b'=>aa [b=b']
 |.str s,.str s'=>aa [s=s']
 |.sl t k n es,.sl t' k' n' es'=>match av k k' with
  |true=>match t,t' with
   |false,ab=>af
   |_,_=>aa [n=n',cn n es es']
  |false=>match t,t' with
   |true,_=>aa [n=0,n'=0]
   |_,_=>af
 |.val x,.val y=>aa [x=y]
 |x,y=>aa [x=y]
def OP{x y:C}(h:Vm x y=aa ps)(c:au ps)(r:Rd M v x):Rd M v y:=by
 unfold Vm at h;split at h
 .rename_i k n k' n';cases d:E8 k k'<;>simp[d]at h
  subst h;cases yO d;cases(show n=n' from c);exact r
 .cases h;rename_i b f;cases(show b=f from c);exact r
 .cases h;rename_i b f;cases(show b=f from c);exact r
 .rename_i t k n es t' k' n' es';cases d:av k k' with
  |true =>
   simp only[d]at h;have e:=bT d;subst e;cases t<;>cases t'<;>simp at h
   all_goals (subst h;obtain⟨rfl,g⟩:=(show n=n'/\cn n es es' from c);first|exact r.BH g|exact r.loose.BH g)
  |false =>
   simp only[d]at h;cases t<;>simp at h
   subst h;obtain⟨rfl,rfl⟩:=(show n=0/\n'=0 from c)
   obtain⟨a,cap,vs,rfl,_,_,i,_⟩:=r.flat;grind[Rd.iV]
 .cases h;rename_i x y;cases(show x=y from c);exact r
 .cases h;cases c;exact r
def RN:A->A->Option (List Prop)
 |.c x,.c y=>Vm x y
 |.vec _ k n es,.c (.sl ae k' n' es')=>match av k k' with|true=>aa [n=n',cn n es es']|false=>af
 |.vec l k n es,.vec l' k' n' es'=>match av l l' with
  |true=>match av k k' with|true=>aa [n=n',cn n es es']|false=>af
  |false=>af
 |.ptr l o,.ptr l' o'=>match av l l' with|true=>(match av o o' with|true=>aa []|false=>af)|false=>af
 |.ref l,.ref l'=>match av l l' with|true=>aa []|false=>af
 |.bp l w,.bp l' w'=>match av l l' with|true=>aa [w=w']|false=>af
 |_,.any=>aa []
 |_,_=>af
def HA{x y:A}(h:RN x y=aa ps)(c:au ps)(r:fU σ s v x):fU σ s v y:=by
 unfold RN at h;split at h
 .exact OP h c r
 .rename_i k n es k' n' es';cases a:av k k'<;>simp[a]at h
  subst h;have e:=bT a;subst e;obtain⟨rfl,d⟩:=(show n=n'/\cn n es es' from c)
  exact r.1.BH d
 .rename_i l k n es l' k' n' es';cases b:av l l'<;>simp[b]at h
  cases a:av k k'<;>simp[a]at h
  subst h;have e:=bT a;have f:=bT b;subst e f;obtain⟨rfl,d⟩:=(show n=n'/\cn n es es' from c)
  exact⟨r.1.BH d,r.2.1,r.2.2⟩
 .grind [Nat.eq_of_beq_eq_true]
 .grind [Nat.eq_of_beq_eq_true]
 .rename_i l w l' w';cases b:av l l'<;>simp[b]at h
  have f:=bT b;subst f;subst h;cases(show w=w' from c);exact r
 .exact fU.cell r
 grind
def jC:List Prop->List Prop->List Prop
 |[],q=>q
 |p::r,q=>p::jC r q
@[simp] theorem au.cat{p q:List Prop}:au (jC p q)↔au p/\au q:=by
 induction p with
 |nil=>simp[jC]
 |cons x r a=>simp only[jC,au.cons,a,and_assoc]
def Nq:List A->List A->Option (List Prop)
 |[],[]=>aa []
 |a::al,b::bs=>match RN a b with
  |some p=>match Nq al bs with
   |some q=>aa (jC p q)
   |none=>af
  |none=>af
 |_,_=>af
def Cb{σ:List ba}{s:St}:∀{vs:List aj}{xs ys:List A}{ps:List Prop},Nq xs ys=aa ps->au ps->dH σ s vs xs->dH σ s vs ys
 |[],[],[],_,_,_,_=>trivial
 |_::_,[],_,_,_,_,h=>h.elim
 |[],_::_,_,_,_,_,h=>h.elim
 |[],[],_::_,_,h,_,_=>by simp[Nq]at h
 |_::_,_::_,[],_,h,_,_=>by simp[Nq]at h
 |v::vs,a::al,b::bs,ps,h,c,f=>by
  simp only[Nq]at h;cases e:RN a b with
  |none=>grind
  |some p =>
   cases d:Nq al bs with
   |none=>grind
   |some q =>
    simp[e,d]at h;subst h;rw[au.cat]at c;exact⟨HA e c.1 f.1,Cb d c.2 f.2⟩
def RO:E1->E1->Option (List Prop)
 |.one a,.one b=>RN a b
 |.agg al,.agg bs=>Nq al bs
 |_,_=>af
def HB{x y:E1}(h:RO x y=aa ps)(a:au ps)(r:mE σ s v x):mE σ s v y:=by
 cases x<;>cases y<;>simp only[RO,reduceCtorEq]at h
 .exact HA h a r
 .obtain⟨vs,c,b⟩:=r;exact⟨vs,c,Cb h a b⟩
def Cd:List E1->List E1->Option (List Prop)
 |[],[]=>aa []
 |a::al,b::bs=>match RO a b with
  |some p=>match Cd al bs with
   |some q=>aa (jC p q)
   |none=>af
  |none=>af
 |_,_=>af
def DT{σ:List ba}{s:St}:∀{vs:List aj}{xs ys:List E1}{ps:List Prop},Cd xs ys=aa ps->au ps->gn σ s vs xs->gn σ s vs ys
 |[],[],[],_,_,_,_=>trivial
 |_::_,[],_,_,_,_,h=>h.elim
 |[],_::_,_,_,_,_,h=>h.elim
 |[],[],_::_,_,h,_,_=>by simp[Cd]at h
 |_::_,_::_,[],_,h,_,_=>by simp[Cd]at h
 |v::vs,a::al,b::bs,ps,h,c,f=>by
  simp only[Cd]at h;cases e:RO a b with
  |none=>grind
  |some p =>
   cases d:Cd al bs with
   |none=>grind
   |some q =>
    simp[e,d]at h;subst h;rw[au.cat]at c;exact⟨HB e c.1 f.1,DT d c.2 f.2⟩
def BC:D->D->Option (List Prop)
 |.e x,.e y=>RO x y
 |.fe xs,.fe ys=>Cd xs ys
 |_,.any=>aa []
 |_,_=>af
theorem pO{x y:D}(h:BC x y=aa ps)(a:au ps)(r:dc σ s v x):dc σ s v y:=by
 cases x<;>cases y<;>simp only[BC,reduceCtorEq]at h
 .exact HB h a r
 .trivial
 .obtain⟨vs,c,b⟩:=r;exact⟨vs,c,DT h a b⟩
 .trivial
 .trivial
def pn(φ:Fr):Fr->Option (List Prop)
 |[]=>aa []
 |(i,d)::r=>match BC (look φ i) d with
  |some p=>match pn φ r with
   |some q=>aa (jC p q)
   |none=>af
  |none=>af
def cG{φ:Fr}:∀{φ':Fr}{ps:List Prop},pn φ φ'=aa ps->au ps->qP φ φ'
 |[],_,_,_=>λ_ _ _ _ _=>trivial
 |(i,d)::r,ps,h,b=>by
  simp only[pn]at h;cases e:BC (look φ i) d with
  |none=>grind
  |some p =>
   cases a:pn φ r with
   |none=>grind
   |some q =>
    simp[e,a]at h;subst h;rw[au.cat]at b;intro σ s v t c;simp only[look];cases f:av i t with
    |true =>
     grind[Nat.eq_of_beq_eq_true,pO]
    |false=>exact cG a b.2 σ s v t c
def kh(σ:List ba):Bool:=match cx σ with|true=>l7 σ|false=>ae
def w7(h:kh σ=ab):cx σ=ab/\l7 σ=ab:=by unfold kh at h;grind
def nB.Ak{σ:List ba}{s:St}:∀{ds:List Deferred}{ls:List Nat},nB σ s ds ls->∀l∈ls,σ[l]?=aa .pK
 |[],[],_,l,hl=>by grind
 |[],_::_,r,_,_=>r.elim
 |_::_,[],r,_,_=>r.elim
 |d::ds,b::ls,⟨⟨h1,_⟩,_,a⟩,l,hl=>by
  rcases dD.1 hl with rfl|hl
  .exact h1
  .exact nB.Ak a l hl
def b7(fn:Func)(a:Nat)(res:D)(σ':List ba):Post:=λe φ σ1 =>
 (e=.ret∨e=.normal)/\∃ks ds d ps,wq φ fn.results.toList=aa ds/\qC ds=aa d/\BC d (ij ks res)=aa ps/\au ps/\uh ks.length res=ab /\
  jB ks σ1=aa σ'/\kh σ'=ab/\dF ks=ab/\(∀j,j<a->ks[j]?=aa j)
def zW(P:aK)(fn:Func)(a:Nat)(res:D)(σ':List ba):Post:=λe φ σ1 =>
 (e=.ret∨e=.normal)/\∃ks d ps,zV P fn φ d/\BC d (ij ks res)=aa ps/\au ps/\uh ks.length res=ab /\
  jB ks σ1=aa σ'/\kh σ'=ab/\dF ks=ab/\(∀j,j<a->ks[j]?=aa j)
def b7.Zo{fn:Func}{a:Nat}{res:D}{e:Exit}{σ1:List ba}(h:b7 fn a res σ' e φ σ1):zW P fn a res σ' e φ σ1:=by obtain⟨c,ks,ds,d,ps,h1,h2,b⟩:=h;exact⟨c,ks,d,ps,zV.of h1 h2,b⟩
def dK.HC{X:Cx P}{f:aP}{fn:Func}{args:List D}{σ':ι->List ba}(hf:P.funcs[f]?=aa fn)(N:(fn.name== "runtime.NumGoroutine")=ae)(hb:fn.body=aa c)(hlen:args.length<=fn.ntmps)(h:∀s a,cf fn.ntmps σ s (iL 0 args) a->aD σ s->∀(b:Frame) (k:List Item) (cs:List Frame) (S:ak->St->Prop),b.kind≠.early->b.roundOf=af ->
  (∀e φ' σ1 s' a',(∃j,zW P fn σ.length (res j) (σ' j) e φ' σ1)->cf fn.ntmps σ1 s' φ' a'->aD σ1 s'->cJ σ s σ1 s'->ends X S b k cs e a' s')->e9 X S (G (b.aT a (.code c::k)) cs) s):dK X f args σ res σ':=by
 refine⟨⟨fn,hf,N,by grind⟩,λs vs hr hh S cs hS=>?_⟩;obtain⟨hl,hg⟩:=cd.get hr;let b:Frame:={fn:=f,tmps:=#[],todo:=[],defers:=[],mode:=.run,kind:=.normal,roundOf:=af}
 have z:Frame.enter P f vs.toArray .normal=b.aT {tmps:=vs.toArray++Array.replicate (fn.ntmps-vs.toArray.size) ah,defers:=[]} [.code c]:=by simp[Frame.enter,Frame.aT,hf,hb,b]
 rw[z];refine h s {tmps:=vs.toArray++Array.replicate (fn.ntmps-vs.toArray.size) ah,defers:=[]} ⟨by grind,⟨[],ar⟩,λt=>?_⟩ hh b [] cs S (by simp[b]) rfl ?_
 .rw[mO];simp only[jJ,bZ,kt];have:=hg t;rcases cv t vs.length with uc|QL
  .have e:(vs.toArray++Array.replicate (fn.ntmps-vs.toArray.size) ah).getD t ah=(vs[t]?).getD ah:=by simp only[dx];grind
   grind
  .rw[qg (by omega)];trivial
 .rintro e φ' σ1 s1 a1 ⟨O,U,ks,d,ps,h1,h3,h4,h5,Q,T,h8,h9⟩ f' R st;obtain⟨Y,V⟩:=w7 T;have fin:∀(fr:Frame) s2,b5 s1 s2->fr.fn=f->fr.tmps=a1.tmps->fr.defers=a1.defers->fr.mode=.returning->fr.kind=.normal->e9 X S (G fr cs) s2:=by
   intro fr s2 rm e1 e2 e3 e4 e5;have f2:=f'.rely rm R;have n:=R.rely rm;have g:=st.trans rm.stepW;obtain⟨v,r2,Z⟩:=h1 f2;obtain⟨i,r⟩:=yj (l':=s2.β) Q n.len;have r4:=(pO h3 h4 r2).sub Q r h5;obtain⟨c1,c2⟩:=hU Q;obtain⟨d1,d2⟩:=hU r;have A:∀L∈i,L∈s2.β:=yn r;have K:aD (σ' O) {s2 with β:=i}:=by obtain⟨C,_⟩:=n.sub Q r Y h8;refine⟨C.mem,C.len,λj B L J q=>?_,C.eH,C.lt,λb hb=>⟨(n.own b hb).1,λL q=>(n.own b hb).2 L (A L q)⟩⟩;exact eG.plain (σ:=σ' O) (s:={s2 with β:=i,own:=ym s2 i}) (s':={s2 with β:=i}) rfl rfl (jS Y B (bD J)) (C.box j B L J q)
   have W:cJ σ s (σ' O) {s2 with β:=i}:=by refine⟨g.size,g.keep,g.mem,g.iq,λL q b hb=>g.tB _ (A L q) b hb,λl B L J q=>?_,g.os,g.tape,g.output,g.own⟩;have hl:l<σ.length:=(b8.1 J).1;obtain⟨B',L',p1,p2,p3⟩:=g.box l B L J q;grind
   obtain⟨ls,I⟩:=f2.defers;refine pU ls fr s2 _ n.kz (by simp) e4 (by rw[e3];exact I.taken n) λH m=>?_;have p:b5 {s2 with β:=i} {H with β:=i}:=by
    refine⟨rfl,m.M,m.own,m.size,λb hb=>m.keep b (hb.imp id ?_),m.mem,m.os,m.tape,m.output⟩;rintro⟨L,q,hb⟩;obtain⟨j,hj,rfl⟩:=dz q;have E:j<ks.length:=by grind
    obtain⟨y,y1,y2⟩:=d2 j _ (bd E);obtain⟨x,x1,x2⟩:=c2 j _ (bd E);rw[bd hj]at y1;cases y1;refine⟨_,_,y2,λhc=>?_,hb⟩;rw[I.Ak _ hc]at x2;cases x2;exact l8 V _ (bD x1) rfl
   have hG:ey H {H with β:=i}:=⟨rfl,λ_ _ _ h=>h,λ_ _ _=>rfl,λb o v hv=>m.mem b o v (by rw[<-m.M];exact hv),λb hb=>hb.imp id λ⟨L,q,hb⟩=>⟨L,by rw[m.β];grind,hb⟩⟩
   refine .ghost hG (hS O _ v _ ⟨e1,e4,rfl,e5,fn,by grind,λw hw=>?_⟩ (r4.mono p.stepW.ext K.len) (K.rely p) (W.trans p.stepW));show(results fn fr.tmps).run P w=_/\∀e∈(results fn fr.tmps).events P w #[],_;rw[e2];have F:∀b o u,s2.M b o=aa u->w.cell? ⟨b,o,af⟩=aa u:=λb o u h=>hw b o u (by show H.M b o=aa u;rw[m.M];exact h);refine⟨(Z w F).1,λe U=>?_⟩;obtain⟨b,o,u,q1,q2⟩:=(Z w F).2 e U;exact⟨b,o,u,q1,by show H.M b o=aa u;rw[m.M];exact q2⟩
  rcases U with rfl|rfl
  .intro pre;exact .ctl R rfl (λ_=>BL rfl) λs2 rm=>fin _ s2 rm rfl rfl (j7 _) rfl rfl
  .exact .ctl R rfl (λ_=>BM rfl) λs2 rm=>fin _ s2 rm rfl rfl (j7 _) rfl rfl
def dK.Np{X:Cx P}{f:aP}{fn:Func}{args:List D}{σ':ι->List ba}(i:P.funcs[f]?=aa fn)(d:(fn.name== "runtime.NumGoroutine")=ae)(hb:fn.body=aa c)(g:args.length<=fn.ntmps)(h:∀s a,cf fn.ntmps σ s (iL 0 args) a->aD σ s->∀(b:Frame) (k:List Item) (cs:List Frame) (S:ak->St->Prop),b.kind≠.early->b.roundOf=af ->
  (∀e φ' σ1 s' a',(∃j,b7 fn σ.length (res j) (σ' j) e φ' σ1)->cf fn.ntmps σ1 s' φ' a'->aD σ1 s'->cJ σ s σ1 s'->ends X S b k cs e a' s')->e9 X S (G (b.aT a (.code c::k)) cs) s):dK X f args σ res σ' :=
 dK.HC i d hb g λs a f hh b k cs S h1 h2 hQ=>h s a f hh b k cs S h1 h2 λe φ' σ1 s' a' ⟨j,q⟩=>hQ e φ' σ1 s' a' ⟨j,q.Zo⟩
def dK.GR{X:Cx P}{f:aP}{fn:Func}{args:List D}{σ':ι->List ba}(l:P.funcs[f]?=aa fn)(d:(fn.name== "runtime.NumGoroutine")=ae)(hb:fn.body=aa c)(g:args.length<=fn.ntmps)(h:AW X fn.ntmps c (λe φ σ1=>∃j,zW P fn σ.length (res j) (σ' j) e φ σ1) (iL 0 args) σ):dK X f args σ res σ' :=
 dK.HC l d hb g λs a f hh b k cs S m _ i=>h s a f hh b k cs S m i
def dK.intro{X:Cx P}{f:aP}{fn:Func}{args:List D}{σ':ι->List ba}(l:P.funcs[f]?=aa fn)(d:(fn.name== "runtime.NumGoroutine")=ae)(hb:fn.body=aa c)(g:args.length<=fn.ntmps)(h:AW X fn.ntmps c (λe φ σ1=>∃j,b7 fn σ.length (res j) (σ' j) e φ σ1) (iL 0 args) σ):dK X f args σ res σ' :=
 dK.Np l d hb g λs a f hh b k cs S m _ i=>h s a f hh b k cs S m i
def Ev.intro{P:aK}{X:Cx P}{f:aP}{fn:Func}{c:Code}{args:List D}{σ σ':List ba}{res:D}(d:P.funcs[f]?=aa fn)(a:(fn.name== "runtime.NumGoroutine")=ae)(hb:fn.body=aa c)(b:args.length<=fn.ntmps)(h:AW X fn.ntmps c (b7 fn σ.length res σ') (iL 0 args) σ):Ev X f args σ res σ' :=
 (dK.intro d a hb b (AW.mono h λ_ _ _ q=>⟨(),q⟩)).EO
inductive It where
 |code (c:Code)
 |blk (id:Nat)
 |ops (all rest:List aB)
def AK{P:aK}(X:Cx P)(N:Nat)(Qf:Post):List It->Post
 |[],e,φ,σ=>Qf e φ σ
 |.code c::K,.normal,φ,σ=>AW X N c (AK X N Qf K) φ σ
 |.code _::K,e,φ,σ=>AK X N Qf K e φ σ
 |.blk id::K,.exit Gy,φ,σ=>if Gy=id then AK X N Qf K .normal φ σ else AK X N Qf K (.exit Gy) φ σ
 |.blk _::K,e,φ,σ=>AK X N Qf K e φ σ
 |.ops all rest::K,.normal,φ,σ=>iO X N all rest (AK X N Qf K .normal) φ σ
 |.ops _ _::K,e,φ,σ=>AK X N Qf K e φ σ
section
variable {X:Cx P}{Qf:Post}{K:List It}
def AK.of_code(h:AK X N Qf [.code c] .normal φ σ):AW X N c Qf φ σ:=h
theorem AK.skip(h:AK X N Qf K .normal φ σ):AK X N Qf (.code .skip::K) .normal φ σ:=AW.skip h
theorem AK.seq{x y:Code}(h:AK X N Qf (.code x::.code y::K) .normal φ σ):AK X N Qf (.code (.seq x y)::K) .normal φ σ:=by refine AW.seq (AW.mono h ?_);intro e φ' σ' q;cases e<;>exact q
theorem AK.block{id:Nat}{c:Code}(h:AK X N Qf (.code c::.blk id::K) .normal φ σ):AK X N Qf (.code (.block id c)::K) .normal φ σ:=by refine AW.block (AW.mono h ?_);intro e φ' σ' q;cases e<;>exact q
theorem AK.O0{id:Nat}(h:AK X N Qf K .normal φ σ):AK X N Qf (.blk id::K) .normal φ σ:=h
theorem AK.region{id:Nat}{ops:Array aB}(h:AK X N Qf (.ops ops.toList ops.toList::K) .normal φ σ):AK X N Qf (.code (.region id ops ae)::K) .normal φ σ:=AW.region h
theorem AK.O1(h:AK X N Qf K .normal φ σ):AK X N Qf (.ops all []::K) .normal φ σ:=iO.nil h
def AK.qO:∀{K:List It},Qf .ret φ σ->AK X N Qf K .ret φ σ
 |[],h=>h
 |.code _::K,h=>AK.qO (K:=K) h
 |.blk _::K,h=>AK.qO (K:=K) h
 |.ops _ _::K,h=>AK.qO (K:=K) h
def AK.ret(h:Qf .ret φ σ):AK X N Qf (.code .ret::K) .normal φ σ:=AW.ret (AK.qO h)
def jV(id:Nat):List It->Option (List It)
 |[]=>af
 |.blk i::K=>match av id i with|true=>aa K|false=>jV id K
 |_::K=>jV id K
def AK.uQ{id:Nat}:∀{K a:List It},jV id K=aa a->AK X N Qf a .normal φ σ->AK X N Qf K (.exit id) φ σ
 |[],_,h,_=>by cases h
 |.blk i::K,a,h,q=>by
  simp only[jV]at h;cases hb:av id i with
  |true =>
   simp[hb]at h;subst h;have e:=bT hb;simp only[AK,e,bZ];exact q
  |false =>
   simp[hb]at h;have b:id≠i:=λe=>by grind[Nat.beq_refl]
   simp only[AK,b,bJ];exact AK.uQ h q
 |.code _::K,a,h,q=>AK.uQ (K:=K) h q
 |.ops _ _::K,a,h,q=>AK.uQ (K:=K) h q
theorem AK.exit{id:Nat}{a:List It}(b:jV id K=aa a)(h:AK X N Qf a .normal φ σ):AK X N Qf (.code (.exit id)::K) .normal φ σ:=AW.exit (AK.uQ b h)
theorem AK.cond{c:aC}{x y:Code}{b:Bool}{t:Nat}(d:c=.tmp t)(hl:look φ t=.e (.one (.c (.bool b))))(a:b=ab->AK X N Qf (.code x::K) .normal φ σ)(f:b=ae->AK X N Qf (.code y::K) .normal φ σ):AK X N Qf (.code (.cond c x y)::K) .normal φ σ:=AW.cond d hl a f
def AK.loop{S:Type}{c:Code}(I:S->Prop)(fr:S->Fr)(st:S->List ba)(a:S->Nat)(x:S)(f:I x)(b:qP φ (fr x))(d:st x=σ)(round:∀x,I x->AK X N (λe φ' σ'=>match e with
   |.normal=>∃y,I y/\a y<a x/\qP φ' (fr y)/\σ'=st y
   |e=>AK X N Qf K e φ' σ') [.code c] .normal (fr x) (st x)):AK X N Qf (.code (.loop c)::K) .normal φ σ:=by refine AW.loop I fr st a x f b d λy g=>AW.mono (round y g) ?_;intro e φ' σ' q;cases e<;>exact q
end
def c9{α a:Type}:List α->(List α->Option a)->Option a
 |[],k=>k []
 |x::r,k=>c9 r λq=>k (x::q)
theorem cM{a:Type}(l:List α)(k:List α->Option a):c9 l k=k l:=by
 induction l generalizing k with
 |nil=>rfl
 |cons x r b=>simp[c9,b]
def yA(φ:Fr)(all:List aB)(j:Nat):Option (Option Bool) :=
 match eh j all with
 |some oj=>match oj.dst with
  |some d=>match look φ d with
   |.e (.one (.c (.bool ab)))=>aa (aa ab)
   |.e (.one (.c (.bool ae)))=>aa (aa ae)
   |.fe []=>aa af
   |_=>af
  |none=>af
 |none=>af
def oQ{r:Option Bool}(h:yA φ all j=aa r){a:Act}(f:cf N σ s φ a):yielded all.toArray a.tmps j=r:=by
 unfold yA at h;rw[eJ]at h;unfold yielded;cases k:all[j]? with
 |none=>grind
 |some oj =>
  simp only[k]at h;simp only[gO,k,nK];cases o:oj.dst with
  |none=>grind
  |some d =>
   simp only[o]at h;simp only[nK];have c:=f.slot d;have key:∀v,a.tmps.getD d ah=v->v≠ah->a.tmps[d]?=aa v:=by intro v e l;simp only[dx]at e;grind
   split at h
   .rename_i g;cases h;rw[g]at c;have b:=fp c;generalize e:a.tmps.getD d ah=v at b;cases b;rw[key _ e (by simp[ah])]
   .rename_i g;cases h;rw[g]at c;have b:=fp c;generalize e:a.tmps.getD d ah=v at b;cases b;rw[key _ e (by simp[ah])]
   .rename_i g;cases h;rw[g]at c;obtain⟨vs,m,n⟩:=c;have i:vs=[]:=by cases vs with
     |nil=>rfl
     |cons _ _=>exact n.elim
    subst i;simp only[dx]at m;grind
   grind
def TR(T:List (Nat×TI))(φ:Fr)(σ:List ba)(o:aB):Option (D×List ba×List Prop) :=
 match o.op with
 |.move x|.assign x=>aa (bH φ x,σ,[])
 |.pick c a b=>match bH φ c with
  |.e (.one (.c (.bool ab)))=>aa (bH φ a,σ,[])
  |.e (.one (.c (.bool ae)))=>aa (bH φ b,σ,[])
  |_=>af
 |.binOp op _ x y _=>match bH φ x,bH φ y with
  |.e (.one (.c a)),.e (.one (.c b))=>match KV op a b with
   |some (c,obs)=>aa (.e (.one (.c c)),σ,obs)
   |none=>af
  |_,_=>af
 |.unOp op _ x=>match bH φ x with
  |.e (.one (.c a))=>match TQ op a with
   |some c=>aa (.e (.one (.c c)),σ,[])
   |none=>af
  |_=>af
 |.extract x j=>match bH φ x with
  |.fe xs=>match eh j xs with
   |some e=>aa (.e e,σ,[])
   |none=>af
  |_=>af
 |.alloc E=>match bz T E with
  |some i=>c9 (σ++[.cells E (i.zero.map A.c)]) λσ'=>aa (.e (.one (.ptr σ.length 0)),σ',[])
  |none=>af
 |.box E x=>match kg (bH φ x)with
  |some cs=>c9 (σ++[.cells E cs]) λσ'=>aa (.e (.one (.ptr σ.length 0)),σ',[])
  |none=>af
 |.load t x=>match bz T t with
  |some i=>match bH φ x with
   |.e (.one (.ptr l off))=>match eh l σ with
    |some (.cells _ cs)=>match lU i (gH off cs)with
     |some e=>aa (.e e,σ,[])
     |none=>af
    |_=>af
   |.e (.one (.c (.rp cs)))=>match lU i (cs.map A.c)with
    |some e=>aa (.e e,σ,[])
    |none=>af
   |_=>af
  |none=>af
 |.store t x y=>match bz T t with
  |some i=>match bH φ x with
   |.e (.one (.ptr l off))=>match eh l σ with
    |some (.cells E cs)=>match kg (bH φ y)with
     |some new=>match av new.length i.size with
      |true=>match eQ off new cs with
       |some lZ=>c9 (dL.rB l (.cells E lZ) σ) λσ'=>aa (.any,σ',[])
       |none=>af
      |false=>af
     |none=>af
    |_=>af
   |_=>af
  |none=>af
 |.fieldAddr t x f=>match iY T t f with
  |some (k,_)=>match bH φ x with
   |.e (.one (.ptr l off))=>aa (.e (.one (.ptr l (off+k))),σ,[])
   |.e (.one (.c (.rp cs)))=>aa (.e (.one (.c (.rp (gH k cs)))),σ,[])
   |_=>af
  |none=>af
 |.field t x f=>match iY T t f with
  |some (k,j)=>match bH φ x with
   |.e (.agg cs)=>match lU j (gH k cs)with
    |some e=>aa (.e e,σ,[])
    |none=>af
   |_=>af
  |none=>af
 |.nilCheck x=>match bH φ x with
  |.e (.one (.ptr l off))=>aa (.e (.one (.ptr l off)),σ,[])
  |.e (.one (.c (.rp cs)))=>aa (.e (.one (.c (.rp cs))),σ,[])
  |_=>af
 |.build t parts=>match yy T (bH φ) t parts.toList with
  |some cs=>aa (.e (.agg cs),σ,[])
  |none=>af
 |.buildSlice t n parts=>match KW T (bH φ) t n parts.toList with
  |some (k,es)=>aa (.e (.one (.c (.sl ab k n λi=>es.getD i []))),σ,[])
  |none=>af
 |_=>af
theorem B6{T:List (Nat×TI)}(m:c6 P T){x:D}(h:TR T φ σ o=aa (x,σ',obs))(n:au obs):bx P o (bH φ) σ x σ':=by
 unfold TR at h;split at h
 .grind [bx.move]
 .grind [bx.assign]
 .rename_i c a b d;split at h
  .rename_i e;cases h;exact bx.pick d e
  .rename_i e;cases h;exact bx.pick d e
  grind
 .grind [bx.binOp]
 .grind [bx.unOp]
 .grind [bx.extract,cT]
 .grind [cM,bx.alloc]
 .grind [cM,bx.box]
 .rename_i t y d;split at h
  .grind [bx.DI,cT,bx.Hf]
  grind
 .rename_i t y z d;split at h
  .rename_i i hi;split at h
   .rename_i l off hx;split at h
    .grind [cM,kA,bx.store,cT,Nat.eq_of_beq_eq_true]
    grind
   grind
  grind
 .rename_i t y f d;split at h
  .rename_i k j g;split at h
   .rename_i l off hx;cases h;exact bx.qJ m d hx g
   .grind [bx.sA]
   grind
  grind
 .grind [bx.field]
 .grind [bx.sC,bx.uH]
 .grind [bx.build]
 .grind [bx.buildSlice]
 grind
def fD(N:Nat):Option Nat->Bool
 |some d=>bn (d+1) N
 |none=>ab
def iw{d:Option Nat}(h:fD N d=ab):∀t,d=aa t->t<N:=by intro t a;subst a;exact dy h
theorem dC(h:o.guard=af){a:Act}:aX o (yielded all.toArray a.tmps)=ab:=by simp[aX,h]
section
variable {T:List (Nat×TI)}
def tc(η:aC->D):Option aC->Option (Option Int)
 |none=>aa af
 |some x=>match η x with
  |.e (.one (.c (.int _ j)))=>aa (aa j)
  |_=>af
def iz{a:aC->aj}(d:∀y,dc σ s (a y) (η y)){x:Option aC}{b:Option Int}(h:tc η x=aa b):(x.map a=af/\b=af)∨∃k j,x.map a=aa (.int k j)/\b=aa j:=by
 cases x with
 |none=>cases h;grind
 |some y =>
  right;simp only[tc]at h;split at h
  .rename_i k j c;cases h;have:=d y;rw[c]at this;have:=fp this;generalize e:a y=v at this;cases this;grind
  grind
def cU(d:Nat):Option Int->Nat
 |none=>d
 |some j=>j.toNat
def gh(n:Nat):Option Int->Option Int->List Prop
 |none,af=>[]
 |some l,af=>[0<=l,l<=n]
 |none,aa h=>[0<=h,h<=n]
 |some l,aa h=>[0<=l,l<=h,h<=n]
def mM{isS:Bool}{cap:Nat}(m:n<=cap){lo hi:Option aj}{l h:Option Int}(i:(lo=af/\l=af)∨∃k j,lo=aa (.int k j)/\l=aa j)(g:(hi=af/\h=af)∨∃k j,hi=aa (.int k j)/\h=aa j)(b:au (gh n l h))(w:aA):(Instr.sliceBounds isS n cap lo hi af).run P w=.ok (cU 0 l,cU n h,cap) w/\cU 0 l<=cU n h/\cU n h<=n:=by
 rcases i with⟨rfl,rfl⟩|⟨d,l,rfl,rfl⟩<;>rcases g with⟨rfl,rfl⟩|⟨f,h,rfl,rfl⟩
 .exact⟨by simp[Instr.sliceBounds,cU],by simp[cU],by simp[cU]⟩
 .obtain⟨a,c⟩:0<=h/\h<=(n:Int):=b;refine⟨?_,by simp[cU],by simp only[cU];omega⟩;simp[Instr.sliceBounds,cU,run_sliceBound (P:=P) w f h cap _ a (by omega)]
 .obtain⟨a,c⟩:0<=l/\l<=(n:Int):=b;refine⟨?_,by simp only[cU];omega,by simp[cU]⟩;simp[Instr.sliceBounds,cU,run_sliceBound (P:=P) w d l n _ a c]
 .obtain⟨a,c,o⟩:0<=l/\l<=h/\h<=(n:Int):=b;have e:((h.toNat:Nat):Int)=h:=ya (by omega);refine⟨?_,by simp only[cU];omega,by simp only[cU];omega⟩;simp[Instr.sliceBounds,cU,run_sliceBound (P:=P) w f h cap _ (by omega) (by omega),run_sliceBound (P:=P) w d l h.toNat _ a (by omega)]
def en(w:aA)(k:IntKind)(i:Int)(y:Nat)(code:BoundsCode)(b:0<=i)(a:i<=(y:Int))(es:Array Event):(Instr.sliceBound (.int k i) y code).events P w es=es:=by simp[Instr.sliceBound,asIntOf,b,a]
def oK{isS:Bool}{cap:Nat}{lo hi:Option aj}{l h:Option Int}(o:n<=cap)(m:(lo=af/\l=af)∨∃k j,lo=aa (.int k j)/\l=aa j)(i:(hi=af/\h=af)∨∃k j,hi=aa (.int k j)/\h=aa j)(c:au (gh n l h))(w:aA)(es:Array Event):(Instr.sliceBounds isS n cap lo hi af).events P w es=es:=by
 have p:∀(isS:Bool) (v:Option aj) (d:Nat) (w:aA) (es:Array Event),v=af->(Instr.sliceBounds isS n cap af af af).events P w es=es:=λisS v d w es _=>by simp[Instr.sliceBounds]
 rcases m with⟨rfl,rfl⟩|⟨g,l,rfl,rfl⟩<;>rcases i with⟨rfl,rfl⟩|⟨b,h,rfl,rfl⟩
 .simp[Instr.sliceBounds]
 .obtain⟨a,f⟩:0<=h/\h<=(n:Int):=c;simp[Instr.sliceBounds,en (P:=P) w b h cap _ a (by omega)]
 .obtain⟨a,f⟩:0<=l/\l<=(n:Int):=c;simp[Instr.sliceBounds,en (P:=P) w g l n _ a f]
 .obtain⟨a,f,q⟩:0<=l/\l<=h/\h<=(n:Int):=c;have e:((h.toNat:Nat):Int)=h:=ya (by omega);simp[Instr.sliceBounds,run_sliceBound (P:=P) w b h cap _ (by omega) (by omega),en (P:=P) w b h cap _ (by omega) (by omega),en (P:=P) w g l h.toNat _ a (by omega)]
def qH(s:List UInt8):Option Int->Option Int->List UInt8
 |none,af=>s
 |some l,af=>s.drop l.toNat
 |none,aa h=>s.take h.toNat
 |some l,aa h=>(s.take h.toNat).drop l.toNat
theorem bx.Hc(r:c6 P T){lo hi:Option aC}(h:o.op=.slice t x lo hi af){i:TI}(k:bz T t=aa i)(y:i.desc=.string){s:List UInt8}{l u:Option Int}(v:η x=.e (.one (.c (.str s))))(hl:tc η lo=aa l)(q:tc η hi=aa u)(z:au (gh s.length l u)):bx P o η σ (.e (.one (.c (.str (qH s l u))))) σ:=by
 refine .quiet λst ρ hh hr=>?_;have h1:=hr x;rw[v]at h1;replace h1:=fp h1;generalize f:ρ x=vx at h1;cases h1 with
 |@str sb _ m p =>
 have b:sb.size=s.length:=by rw[<-m];exact iB.symm
 obtain⟨hb,g,d⟩:=mM (P:=P) (isS:=ae) (n:=sb.size) (cap:=sb.size) (aZ _) (iz hr hl) (iz hr q) (by grind) st.w;have a:=(r t i k).run_underlying (w:=st.w);rw[y]at a;have j:=oK (P:=P) (isS:=ae) (n:=sb.size) (cap:=sb.size) (aZ _) (iz hr hl) (iz hr q) (by grind) st.w;refine⟨.string (sb.extract (cU 0 l) (cU sb.size u)),?_,Rd.str ?_ ?_,by simp[aq,h,f,Instr.sliceAt,a,Instr.slice,j]⟩
 .simp[aq,h,f,Instr.sliceAt,a,Instr.slice,hb]
 .rw[Lib.extract_data,m,b];rw[b]at g d;cases l<;>cases u<;>simp only[qH,cU]at g d⊢
  .simp
  .simp
  .grind [List.take_of_length_le]
  .rw[List.drop_take]
 .cases l<;>cases u<;>simp only[qH,qk,List.length_take]<;>omega
def lV(l:Nat)(f:Nat->List C):Nat->List C:=λi=>f (l+i)
def Oj(tt:Bool):Option Int->Bool
 |none=>tt
 |some _=>ae
theorem bx.K6(q:c6 P T){lo hi:Option aC}(h:o.op=.slice t x lo hi af){i ie:TI}(p:bz T t=aa i)(J:i.desc=.slice E)(D:bz T E=aa ie){tt:Bool}{l u:Option Int}(A:∀s v,dc σ s v (η x)->Rd s.M v (.sl tt ie.size n es))(hl:tc η lo=aa l)(z:tc η hi=aa u)(y:au (gh n l u)):
  bx P o η σ (.e (.one (.c (.sl (Oj tt u) ie.size (cU n u-cU 0 l) (lV (cU 0 l) es))))) σ:=by
 refine .quiet λst ρ hh hr=>?_;have h1:=A st _ (hr x);obtain⟨a,cap,vs,m,g,G,B,L,K⟩:=h1.flat;rw[m]at h1;obtain⟨hb,I,C⟩:=mM (P:=P) (isS:=ab) g (iz hr hl) (iz hr z) y st.w;have d:=(q t i p).run_underlying (w:=st.w);rw[J]at d;refine⟨.slice (if cap=cU 0 l then a else a.map (·.add (cU 0 l*ie.size))) (cU n u-cU 0 l) (cap-cU 0 l),?_,?_,by simp[aq,h,m,Instr.sliceAt,d,Instr.slice,hb,oK (P:=P) (isS:=ab) g (iz hr hl) (iz hr z) y st.w]⟩
 .simp[aq,h,m,Instr.sliceAt,d,Instr.slice,hb,(q E ie D).run_sizeOf]
 .cases h1 with
  |sl b off f _ _ _ F H hm' M8 =>
   refine Rd.sl b (off+cU 0 l*ie.size) (λi j=>f (cU 0 l+i) j) (by omega) (by omega) ?_ (λi hi=>F _ (by omega)) (λr=>?_) (λi hi j c hj=>?_) (λi hi j c hj=>M8 _ (by omega) j c hj)
   .intro k;cases u with
    |none=>simp only[Oj]at k;have:=B k;simp only[cU];omega
    |some u=>cases k
   .rw[bh (by omega),H (by omega)];simp[dh]
   .have:=hm' (cU 0 l+i) (by omega) j c hj;grind
def bx.K4(m:c6 P T){b dst:ay}(h:o.op=.convert b dst x){i i2:TI}{k k':IntKind}{j:Int}(hi:bz T b=aa i)(g:bz T dst=aa i2)(p:i2.desc=.int k')(n:η x=.e (.one (.c (.int k j))))(l:bq k' j):
  bx P o η σ (.e (.one (.c (.int k' j)))) σ:=by refine .quiet λst ρ hh hr=>?_;have h1:=hr x;rw[n]at h1;replace h1:=fp h1;generalize f:ρ x=vx at h1;cases h1;have d:=(m b i hi).run_underlying (w:=st.w);have a:=(m dst i2 g).run_underlying (w:=st.w);rw[p]at a;exact⟨.int k' j,by simp[aq,h,f,convert,d,a,Conv.intToInt,lB l],Rd.int l,by simp[aq,h,f,convert,d,a,Conv.intToInt]⟩
theorem bx.K5(k:c6 P T){b dst:ay}(h:o.op=.convert b dst x){i i2:TI}{s:List UInt8}(hi:bz T b=aa i)(j:bz T dst=aa i2)(m:i2.desc=.string)(l:η x=.e (.one (.c (.str s)))):
  bx P o η σ (.e (.one (.c (.str s)))) σ:=by refine .quiet λst ρ hh hr=>?_;have h1:=hr x;rw[l]at h1;have g:=fp h1;generalize f:ρ x=vx at g;cases g;have d:=(k b i hi).run_underlying (w:=st.w);have a:=(k dst i2 j).run_underlying (w:=st.w);rw[m]at a;exact⟨_,by simp[aq,h,f,convert,d,a];rfl,by grind,by simp[aq,h,f,convert,d,a]⟩
def uD(f:Nat->List C):Nat->Nat->Option (List UInt8)
 |_,0=>aa []
 |i,n+1=>match f i with
  |[.int .u8 v]=>match uD f (i+1) n with
   |some r=>aa (UInt8.ofNat v.toNat::r)
   |none=>af
  |_=>af
def xg{M:Mem}{f:Nat->List C}:∀{n i:Nat}{r:List UInt8}{vs:List aj},uD f i n=aa r->vs.length=n->(∀j,j<n->∀c,(f (i+j))[0]?=aa c->∃v,vs[j]?=aa v/\Rd M v c) ->
  ∃xs:List Int,vs=xs.map (Value.int .u8)/\r=xs.map (λx=>UInt8.ofNat x.toNat)
 |0,i,r,vs,h,d,_=>by cases h;exact⟨[],by grind,rfl⟩
 |n+1,i,r,[],h,d,_=>by grind
 |n+1,i,r,v::vs,h,d,a=>by
  simp only[uD]at h;split at h
  .rename_i x p;split at h
   .rename_i q e;cases h;obtain⟨u,b,g⟩:=a 0 (by omega) (.int .u8 x) (by grind)
    simp at b;subst b;cases g;obtain⟨xs,m,l⟩:=xg (vs:=vs) e (by grind) (λj k c o=>by
     have:=a (j+1) (by omega) c (by grind)
     simpa using this)
    exact⟨x::xs,by grind,by grind⟩
   grind
  grind
def nv{P:aK}(w:aA){F:aj->ByteArray->Sem (ForInStep ByteArray)}(a:∀x s,F (.int .u8 x) s=pure (.yield (s.push (UInt8.ofNat x.toNat)))):∀(xs:List Int)(s:ByteArray),
  (forIn (m:=Sem) (xs.map (Value.int .u8)) s F).run P w=.ok ⟨s.data++(xs.map λx=>UInt8.ofNat x.toNat).toArray⟩ w
 |[],s=>by simp
 |x::xs,s=>by simp only[oE,List.forIn_cons,a,bL,cK,b6];rw[nv w a xs];congr 2;apply Array.ext';simp[ByteArray.push]
end
def OA(X:Cx P)(N:Nat)(all:List aB)(o:aB)(φ:Fr)(σ:List ba)(x:D)(σ':List ba):Prop :=
 ∀s a,cf N σ s φ a->aD σ s->∀(b:Frame) (k:List Item) (cs:List Frame) (S:ak->St->Prop) (i:Nat) (rest:List Nat),b.kind≠.early->all.toArray[i]?=aa o ->
  (∀v s',dc σ' s' v x->aD σ' s'->cJ σ s σ' s'->e9 X S (G (b.aT (a.put o.dst v) (.inRegion all.toArray rest::k)) cs) s')->e9 X S (G (b.aT a (.inRegion all.toArray (i::rest)::k)) cs) s
section
variable {X:Cx P}{φ':Fr}{x:D}
theorem OA.l0(p:∀σ s a,cf N σ s φ a->aX o (yielded all.toArray a.tmps)=ab)(h:bx P o (bH φ) σ x σ'):OA X N all o φ σ x σ':=by
 intro s a f hh b k cs S i rest hb hi hK;refine yF hb hi (p _ _ _ f) λg d=>?_;have c:=hh.rely d;obtain⟨q,s',h1,h2,e,l,n⟩:=h g a.eval c (dJ (f.rely d hh));have m:=d.stepW.trans (l.nT c);have j:pJ g s' ((aq a.eval o).events P g.w #[]):=⟨⟨σ,σ',c,e,l⟩,n⟩;cases q with
 |value v=>exact⟨_,s',v,h1,.inl rfl,j,hK v s' h2 e m⟩
 |skip=>simp only[OR]at h2;subst h2;exact⟨_,s',ah,h1,.inr ⟨rfl,rfl⟩,j,hK ah s' ar e m⟩
 |_=>exact h2.elim
def OA.pass(e:∀σ s a,cf N σ s φ a->aX o (yielded all.toArray a.tmps)=ae):OA X N all o φ σ (.fe []) σ:=by intro s a f hh b k cs S i rest hb hi hK;exact .ctl hh rfl (λ_=>KA hi (e _ _ _ f)) λd c=>hK ah d ⟨[],rfl,ar⟩ (hh.rely c) c.stepW
def iO.yN{Q:Fr->List ba->Prop}(h:OA X N all o φ σ x σ')(g:∀t,o.dst=aa t->t<N)(k:iO X N all rest Q (kV o.dst x φ) σ'):iO X N all (o::rest) Q φ σ:=by
 intro s a f hh b kk cs S idx hb kX hQ;cases idx with
 |nil=>exact kX.elim
 |cons i idx =>
 refine h s a f hh b kk cs S i idx hb kX.1 λv s' hv iQ st=>k s' _ ?_ iQ b kk cs S idx hb kX.2 λc σ2 s2 a2 q d h2 nU=>hQ c σ2 s2 a2 q d h2 (st.trans nU);cases e:o.dst with
 |none=>exact f.mono st hh.len
 |some t=>exact(f.mono st hh.len).put (g t e) hv
end
abbrev di:=List D->List ba->Option (D×List ba×List Prop)
def w9:List (Nat×di)->Nat->Option di
 |[],_=>af
 |(i,g)::r,f=>cond (av i f) (aa g) (w9 r f)
def dw(X:Cx P)(f:aP)(g:di):Prop:=∀args σ res σ' obs,g args σ=aa (res,σ',obs)->au obs->Ev X f args σ res σ'
def bA(X:Cx P)(CT:List (Nat×di)):Prop:=∀f g,w9 CT f=aa g->dw X f g
def bA.nil{X:Cx P}:bA X []:=λ_ _ h=>by cases h
def bA.cons{X:Cx P}{f:aP}{g:di}{CT:List (Nat×di)}(h:dw X f g)(r:bA X CT):bA X ((f,g)::CT):=by
 intro a b h2;simp only[w9]at h2;cases hb:av f a with
 |true=>grind[Nat.eq_of_beq_eq_true]
 |false=>rw[hb]at h2;exact r a b h2
def W0:A->List Nat->List Nat
 |.ptr l _,ks=>cond (gK l ks) ks (ks++[l])
 |.vec l _ _ _,ks=>cond (gK l ks) ks (ks++[l])
 |.ref l,ks=>cond (gK l ks) ks (ks++[l])
 |.bp l _,ks=>cond (gK l ks) ks (ks++[l])
 |_,ks=>ks
def W1:List A->List Nat->List Nat
 |[],ks=>ks
 |a::r,ks=>W1 r (W0 a ks)
def ZD:D->List Nat->List Nat
 |.e (.one a),ks=>W0 a ks
 |.e (.agg cs),ks=>W1 cs ks
 |_,ks=>ks
def RQ:List D->List Nat->List Nat
 |[],ks=>ks
 |a::r,ks=>RQ r (ZD a ks)
def z9(l:Nat):List Nat->Nat->Option Nat
 |[],_=>af
 |k::r,i=>match av k l with|true=>aa i|false=>z9 l r (i+1)
def qQ{l:Nat}:∀{ks:List Nat}{i j:Nat},z9 l ks i=aa j->i<=j/\ks[j-i]?=aa l
 |[],_,_,h=>by cases h
 |k::r,i,j,h=>by
  simp only[z9]at h;cases a:av k l with
  |true=>rw[a]at h;cases h;exact⟨aZ _,by grind[Nat.eq_of_beq_eq_true]⟩
  |false =>
   rw[a]at h;obtain⟨c,b⟩:=qQ h;grind
def QN(ks:List Nat):A->Option A
 |.ptr l o=>match z9 l ks 0 with|some i=>aa (.ptr i o)|none=>af
 |.ref l=>match z9 l ks 0 with|some i=>aa (.ref i)|none=>af
 |.bp l w=>match z9 l ks 0 with|some i=>aa (.bp i w)|none=>af
 |.vec _ _ _ _=>af
 |.c x=>aa (.c x)
 |.any=>aa .any
def T1(ks:List Nat):List A->Option (List A)
 |[]=>aa []
 |a::r=>match QN ks a with
  |some b=>match T1 ks r with
   |some q=>aa (b::q)
   |none=>af
  |none=>af
def Vr(ks:List Nat):D->Option D
 |.e (.one a)=>match QN ks a with|some b=>aa (.e (.one b))|none=>af
 |.e (.agg cs)=>match T1 ks cs with|some b=>aa (.e (.agg b))|none=>af
 |.fe _=>af
 |.any=>aa .any
def E9(ks:List Nat):List D->Option (List D)
 |[]=>aa []
 |a::r=>match Vr ks a with
  |some b=>match E9 ks r with
   |some q=>aa (b::q)
   |none=>af
  |none=>af
def HI{ks:List Nat}{a b:A}(h:QN ks a=aa b):nA ks b=a/\EN ks.length b=ab:=by
 cases a with
 |ptr l o =>
  simp only[QN]at h;split at h
  .rename_i i hi;cases h;obtain⟨_,d⟩:=qQ hi;simp only[kt]at d;have e:i<ks.length:=(b8.1 d).1;exact⟨by simp[nA,eJ,d],qf e⟩
  grind
 |ref l =>
  simp only[QN]at h;split at h
  .rename_i i hi;cases h;obtain⟨_,d⟩:=qQ hi;simp only[kt]at d;have e:i<ks.length:=(b8.1 d).1;exact⟨by simp[nA,eJ,d],qf e⟩
  grind
 |bp l w =>
  simp only[QN]at h;split at h
  .rename_i i hi;cases h;obtain⟨_,d⟩:=qQ hi;simp only[kt]at d;have e:i<ks.length:=(b8.1 d).1;exact⟨by simp[nA,eJ,d],qf e⟩
  grind
 |vec l k n es=>cases h
 |c x=>cases h;exact⟨rfl,rfl⟩
 |any=>cases h;exact⟨rfl,rfl⟩
def HJ{ks:List Nat}:∀{a b:List A},T1 ks a=aa b->zP ks b=a/\Dv ks.length b=ab
 |[],b,h=>by cases h;exact⟨rfl,rfl⟩
 |a::r,b,h=>by
  simp only[T1]at h;split at h
  .rename_i x f;split at h
   .rename_i q c;cases h;obtain⟨i,g⟩:=HI f;obtain⟨e,d⟩:=HJ c;exact⟨by simp[zP,i,e],by simp[Dv,g,d]⟩
   grind
  grind
def OS{ks:List Nat}{a b:D}(h:Vr ks a=aa b):ij ks b=a/\uh ks.length b=ab:=by
 unfold Vr at h;split at h
 .rename_i a;split at h
  .rename_i x e;cases h;obtain⟨d,c⟩:=HI e;exact⟨by simp[ij,yk,d],by simp[uh,GP,c]⟩
  grind
 .rename_i cs;split at h
  .rename_i x e;cases h;obtain⟨d,c⟩:=HJ e;exact⟨by simp[ij,yk,d],by simp[uh,GP,c]⟩
  grind
 .cases h
 .cases h;exact⟨rfl,rfl⟩
def DV{ks:List Nat}:∀{a b:List D},E9 ks a=aa b->gp ks b=a/\lq ks.length b=ab
 |[],b,h=>by cases h;exact⟨rfl,rfl⟩
 |a::r,b,h=>by
  simp only[E9]at h;split at h
  .rename_i x f;split at h
   .rename_i q c;cases h;obtain⟨i,g⟩:=OS f;obtain⟨e,d⟩:=DV c;exact⟨by simp[gp,i,e],by simp[lq,g,d]⟩
   grind
  grind
def Ha(CT:List (Nat×di))(φ:Fr)(σ:List ba)(fo:aC)(xs:List aC):Option (D×List ba×List Prop) :=
 match er (bH φ fo)with
 |none=>af
 |some (f,cap)=>match w9 CT f with
  |none=>af
  |some g =>
   let args:=nq (xs.map (bH φ)++fu cap);let ks:=RQ args []
   match E9 ks args with
   |none=>af
   |some cu=>match jB ks σ with
    |none=>af
    |some σs=>match g cu σs with
     |none=>af
     |some (res,σ1,obs)=>match cx σs,cx σ1,dF ks,bn ks.length σ1.length with
      |true,ab,ab,ab=>aa (ij (ks++kW σ.length (σ1.length-ks.length)) res,dL ks σ1 σ,obs)
      |_,_,_,_=>af
theorem OA.Nr{X:Cx P}{CT:List (Nat×di)}(hC:bA X CT)(J:∀σ s a,cf N σ s φ a->aX o (yielded all.toArray a.tmps)=ab)(H:o.op=.call {callee:=.value fo,args:=xs,argTypes:=jK}){f:aP}(v:er (bH φ fo)=aa (f,cap)){g:di}(A:w9 CT f=aa g){ks:List Nat}{σ1:List ba}{res:D}(E:E9 ks (nq (xs.toList.map (bH φ)++fu cap))=aa cu)(y:jB ks σ=aa σs)(u:g cu σs=aa (res,σ1,obs))(K:cx σs=ab)(C:cx σ1=ab)(I:dF ks=ab)(B:ks.length<=σ1.length)(p:au obs):OA X N all o φ σ (ij (ks++kW σ.length (σ1.length-ks.length)) res) (dL ks σ1 σ):=by
 obtain⟨l,z⟩:=DV E;intro s a k hh b kk cs S i rest hb hi hK;have q:=hC f g A _ _ _ _ _ u p;have n:=dJ k fo;unfold er at v;split at v
 case h_2=>cases v
 case h_1 f' Kz he =>
  cases v;rw[he]at n;have e:=fp n;generalize G:a.eval fo=fv at e;cases e with
  |fn fs lZ hl Dk f1 f2 h1 h2 r1 r2 =>
   have F:fs=[]:=jo hl;subst F;have m:cd σ s lZ (fu cap):=l4 (λj c hj=>⟨f2 j,h2 j (by grind),r2 j c hj⟩) Dk;have r:cd σ s (xs.toList.map a.eval++lZ) (gp ks cu):=by rw[l];exact qB ((oM (dJ k) xs.toList).append m)
   obtain⟨fn,t,h,d⟩:=q.1;exact GQ hb hi (J _ _ _ k) hh (λw=>(iK H t h d G w).1) (λw=>(iK H t h d G w).2) q r z y K C I B hK
theorem OA.call{X:Cx P}{CT:List (Nat×di)}(hC:bA X CT){x:D}(e:∀σ s a,cf N σ s φ a->aX o (yielded all.toArray a.tmps)=ab)(h:o.op=.call {callee:=.value fo,args:=xs,argTypes:=jK})(b:Ha CT φ σ fo xs.toList=aa (x,σ',obs))(c:au obs):OA X N all o φ σ x σ':=by
 unfold Ha at b;split at b
 .cases b
 rename_i f cap hf;split at b
 .cases b
 rename_i g d;simp only at b;split at b
 .cases b
 grind[OA.Nr,Nat.le_of_ble_eq_true]
def Am{d:D}(h:uh 0 d=ab):ij [] d=d:=by
 have i:∀{a:A},EN 0 a=ab->nA [] a=a:=by intro a b;cases a<;>simp only[EN]at b<;>first|rfl|(simp at b)
 have j:∀{l:List A},Dv 0 l=ab->zP [] l=l:=by
  intro l;induction l with
  |nil=>intro _;rfl
  |cons a r c =>
   intro h;simp only[Dv]at h;cases b:EN 0 a with
   |false=>grind
   |true=>simp only[b]at h;simp[zP,i b,c h]
 have g:∀{a:E1},GP 0 a=ab->yk [] a=a:=by
  intro a b;cases a with
  |one a=>simp[yk,i b]
  |agg cs=>simp[yk,j b]
 have f:∀{l:List E1},wo 0 l=ab->wW [] l=l:=by
  intro l;induction l with
  |nil=>intro _;rfl
  |cons a r c =>
   intro h;simp only[wo]at h;cases b:GP 0 a with
   |false=>grind
   |true=>simp only[b]at h;simp[wW,g b,c h]
 cases d with
 |e x=>simp[ij,g h]
 |fe xs=>simp[ij,f h]
 |any=>rfl
def zZ(CT:List (Nat×di))(φ:Fr)(fo:aC)(xs:List aC):Option (D×List Prop) :=
 match er (bH φ fo)with
 |none=>af
 |some (f,cap)=>match w9 CT f with
  |none=>af
  |some g=>match E9 [] (nq (xs.map (bH φ)++fu cap))with
   |none=>af
   |some cu=>match g cu []with
    |some (res,[],obs)=>match uh 0 res with
     |true=>aa (res,obs)
     |false=>af
    |_=>af
theorem OA.zZ{P:aK}{X:Cx P}{N:Nat}{all:List aB}{φ:Fr}{σ:List ba}{o:aB}{CT:List (Nat×di)}(hC:bA X CT){fo:aC}{xs:Array aC}{jK:Array ay}{x:D}{obs:List Prop}(h:∀σ s a,cf N σ s φ a->aX o (yielded all.toArray a.tmps)=ab)(i:o.op=.call {callee:=.value fo,args:=xs,argTypes:=jK})(b:AM.zZ CT φ fo xs.toList=aa (x,obs))(c:au obs):OA X N all o φ σ x σ:=by
 unfold AM.zZ at b;split at b
 .cases b
 rename_i f cap hf;split at b
 .cases b
 rename_i g e;split at b
 .cases b
 rename_i cu ZE;split at b
 case h_2=>cases b
 rename_i res ZF Vs;split at b
 case h_2=>cases b
 rename_i d;cases b;have:=OA.Nr (σ:=σ) hC h i hf e ZE rfl Vs rfl rfl rfl (aZ _) c;simpa[kW,Am d,dL]using this
structure Gs(N:Nat)(σ:List ba)(s:St)(V:Nat->D)(a:Act):Prop where
 size:a.tmps.size=N
 defers:∃ls,nB σ s a.defers ls
 slot:∀t,dc σ s (a.tmps.getD t ah) (V t)
def Gs.GX{V:Nat->D}{a:Act}(f:Gs N σ s V a)(h:∀t σ s v,dc σ s v (V t)->dc σ s v (look φ t)):cf N σ s φ a :=
 ⟨f.size,f.defers,λt=>h t _ _ _ (f.slot t)⟩
def cZ(e:Edge):Bool:=Region.binds .any e
structure uw{P:aK}(X:Cx P)(N:Nat)(ops:Array aB)(φ:Fr)(S:Nat->List ba)(x:Nat->D)(p:Nat->Fr)(free c:Nat->Bool)(m:Nat->Nat->Prop)(idx:Nat->Option Nat)(φ':Fr):Prop where
 de:P.follows Departure.mixedOrders=ab
 back:∀i o,ops[i]?=aa o->∀e∈o.after,cZ e=ab->e.on<i
 GY:∀i o d,ops[i]?=aa o->o.dst=aa d->idx d=aa i/\d<N
 wu:∀d i,idx d=aa i->∃o,ops[i]?=aa o/\o.dst=aa d
 quiet:∀i,c i=ae->S (i+1)=S i
 one:∀i o,ops[i]?=aa o->free i=ae->OA X N ops.toList o (p i) (S i) (x i) (S (i+1))
 all:∀i o,ops[i]?=aa o->free i=ab->c i=ae/\∀k,OA X N ops.toList o (p i) (S k) (x i) (S k)
 cl:∀L:Nat->Prop,(∀i o,ops[i]?=aa o->L i->∀e∈o.after,cZ e=ab->L e.on)->∀i j,m i j->(L i->L j)/\∃o,ops[i]?=aa o/\((∀e∈o.after,cZ e=ab->L e.on)->L j)
 comp:∀i f,i<ops.size->f<ops.size->c f=ab->i≠f->free i=ae->(f<i/\m i f)∨(i<f/\m f i)
 QH:∀i o,ops[i]?=aa o->∀t σ s v,dc σ s v (match idx t with|some j=>(if ∃e∈o.after,cZ e=ab/\e.on=j then x j else if ∃oj,ops[j]?=aa oj/\∃e∈oj.after,cZ e=ab/\e.on=i then look φ t else .any)|none=>look φ t)->dc σ s v (look (p i) t)
 fin:∀t σ s v,dc σ s v (match idx t with|some j=>x j|none=>look φ t)->dc σ s v (look φ' t)
open Classical in
noncomputable def fE(φ:Fr)(x:Nat->D)(idx:Nat->Option Nat)(L:Array Bool)(t:Nat):D :=
 match idx t with
 |some j=>if L.getD j ae=ab then x j else look φ t
 |none=>look φ t
theorem mem_ready:i∈aW .any ops L↔∃o,ops[i]?=aa o/\L.getD i ab=ae/\∀e∈o.after,cZ e=ab->L.getD e.on ae=ab:=by
 unfold aW;simp only[mG,qp,bP,iC];constructor
 .rintro⟨b,j,a⟩;rw[fx b]at a;simp only[lR,fK,Array.all_eq_true',lS,iC]at a;refine⟨ops[i],fx b,j,λe d g=>?_⟩;rcases a e d with h|h
  .unfold cZ at g;grind
  grind
 .rintro⟨o,b,j,a⟩;have f:i<ops.size:=(gN.1 b).1;refine⟨f,j,?_⟩;rw[b];simp only[lR,fK,Array.all_eq_true',lS,iC];intro e d;cases g:Region.binds .any e with
  |false=>grind
  |true=>exact .inr (a e d g)
section
variable {X:Cx P}{φ':Fr}{S:Nat->List ba}{x:Nat->D}{p:Nat->Fr}{free c:Nat->Bool}{m:Nat->Nat->Prop}{idx:Nat->Option Nat}
def uw.chain(h:uw X N ops φ S x p free c m idx φ'){i:Nat}:∀{k:Nat},i<=k->(∀g,i<=g->g<k->c g=ae)->S k=S i
 |0,b,_=>by grind
 |k+1,b,a=>by
  rcases cv k i with hl|hl
  .grind
  .rw[h.quiet k (a k hl (by omega)),h.chain (k:=k) hl (λg h1 h2=>a g h1 (by omega))]
def uw.last(h:uw X N ops φ S x p free c m idx φ')(e:∀i,i<ops.size->L.getD i ae=ab){s0:St}{a:Act}(q:k<=ops.size)(n:∀f,f<ops.size->c f=ab->(L.getD f ae=ab↔f<k))(b:Gs N (S k) s (fE φ x idx L) a)(hh:aD (S k) s)(st:cJ (S 0) s0 (S k) s):
  cf N (S ops.size) s φ' a/\aD (S ops.size) s/\cJ (S 0) s0 (S ops.size) s:=by
 have d:S ops.size=S k:=h.chain q (λg h1 h2=>by grind)
 rw[<-d]at b hh st;refine⟨b.GX λt σ s v l=>h.fin t σ s v ?_,hh,st⟩;unfold fE at l;cases hi:idx t with
 |none=>grind
 |some j =>
  simp only[hi]at l⊢;obtain⟨o,r,_⟩:=h.wu _ _ hi;grind
theorem ef(hi:i<L.size):(L.setIfInBounds i ab).getD j ae=ab↔j=i∨L.getD j ae=ab:=by simp only[dx];grind
theorem count_set:∀{l:List Bool}{i:Nat},l[i]?=aa ae->((l.set i ab).filter (λb=>!b)).length+1=(l.filter (λb=>!b)).length
 |[],_,h=>by grind
 |b::r,0,h=>by grind
 |b::r,i+1,h=>by simp at h;have:=count_set (l:=r) h;cases b<;>simp[List.set_cons_succ]<;>omega
theorem ux(t:Nat)(L:Array Bool):Region.linearise.go .any ops 0 t L []=[]:=by simp[Region.linearise.go]
theorem nY(n t:Nat)(L:Array Bool):Region.linearise.go .any ops (n+1) t L []=match(aW .any ops L)[t % (aW .any ops L).length]? with
  |some i=>i::Region.linearise.go .any ops n (t / (aW .any ops L).length) (L.setIfInBounds i ab) []
  |none=>[]:=by
 simp only[Region.linearise.go]
 change (match(aW .any ops L)[t % (aW .any ops L).length]? with
   |some i=>Region.linearise.go .any ops n (t / (aW .any ops L).length) (L.setIfInBounds i ab) [i]
   |none=>[].reverse)=_
 grind[linearise_go_acc]
def uw.arr(h:uw X N ops φ S x p free c m idx φ'){Z:ak->St->Prop}{b:Frame}{kk:List Item}(hb:b.kind≠.early){s0:St}(hQ:∀s a,cf N (S ops.size) s φ' a->aD (S ops.size) s->cJ (S 0) s0 (S ops.size) s->e9 X Z (G (b.aT a kk) cs) s):
  ∀(l:Nat) (L:Array Bool),L.size=ops.size->(L.toList.filter (λb=>!b)).length<=l ->
   (∀i o,ops[i]?=aa o->L.getD i ae=ab->∀e∈o.after,cZ e=ab->L.getD e.on ae=ab) ->
   ∀(k:Nat) (s:St) (a:Act),k<=ops.size->(∀f,f<ops.size->c f=ab->(L.getD f ae=ab↔f<k))->Gs N (S k) s (fE φ x idx L) a->aD (S k) s->cJ (S 0) s0 (S k) s ->
   ∀t,e9 X Z (G (b.aT a (.inRegion ops (Region.linearise.go .any ops l t L [])::kk)) cs) s:=by
 have fin:∀(s:St) (a:Act),cf N (S ops.size) s φ' a->aD (S ops.size) s->cJ (S 0) s0 (S ops.size) s->e9 X Z (G (b.aT a (.inRegion ops []::kk)) cs) s :=
  λs a a1 a2 a3=>.ctl a2 rfl (λ_=>iu) λs1 R=>hQ s1 a (a1.rely R a2) (a2.rely R) (a3.trans R.stepW)
 intro l;induction l with
 |zero =>
  intro L hs hf BK k s a Y E n hh st;have B:∀i,i<ops.size->L.getD i ae=ab:=by
   intro i hi;have hm:L[i]'(by omega)∈L.toList:=by simp
   cases hb:L[i]'(by omega)with
   |true=>simp[dx,fx (by omega:i<L.size),hb]
   |false =>
    have:L[i]'(by omega)∈L.toList.filter (λb=>!b):=mG.2 ⟨hm,by grind⟩;grind
  intro t;rw[ux];obtain⟨a1,a2,a3⟩:=h.last B Y E n hh st;grind
 |succ l ih =>
  intro L hs hf BK k s a Y E n hh st;intro t;rw[nY];cases Ut:(aW .any ops L)[t % (aW .any ops L).length]? with
  |none =>
   have hr:aW .any ops L=[]:=by
    cases hr:aW .any ops L with
    |nil=>rfl
    |cons y ys =>
     grind[Nat.mod_lt]
   have B:∀i,i<ops.size->L.getD i ae=ab:=by
    intro i;induction i using Nat.strongRecOn with
    |_ i Yy =>
     intro hi;cases hb:L.getD i ae with
     |true=>rfl
     |false =>
      have hm:i∈aW .any ops L:=mem_ready.2 ⟨ops[i],fx hi,by
       grind,λe U Yz=>by
       have:=h.back i _ (fx hi) e U Yz
       grind⟩
      grind
   obtain⟨a1,a2,a3⟩:=h.last B Y E n hh st;grind
  |some i =>
   have hi:=bD Ut;obtain⟨o,W,TN,Od⟩:=mem_ready.1 hi;have M:i<ops.size:=(gN.1 W).1;have J:¬L.getD i ae=ab:=by grind
   have Uu:=h.cl (λj=>L.getD j ae=ab) BK;have Ww:∀g,m g i->¬L.getD g ae=ab:=λg hg hL=>J ((Uu g i hg).1 hL);have hup:∀g,m i g->L.getD g ae=ab:=λg hg=>by grind
   have F:(L.setIfInBounds i ab).size=ops.size:=by grind
   have C:((L.setIfInBounds i ab).toList.filter (λb=>!b)).length<=l:=by
    have h1:L.toList[i]?=aa ae:=by rw[x6,fx (by omega:i<L.size)];simpa[dx,fx (by omega:i<L.size)]using J
    grind[count_set]
   have Uv:∀j o',ops[j]?=aa o'->(L.setIfInBounds i ab).getD j ae=ab->∀e∈o'.after,cZ e=ab->(L.setIfInBounds i ab).getD e.on ae=ab:=by grind[ef]
   have YA:cf N (S k) s (p i) a:=n.GX λt σ s v T=>h.QH i o W t σ s v (by
    unfold fE at T;cases r:idx t with
    |none=>grind
    |some j =>
     simp only[r]at T⊢;split
     .grind
     .split
      .grind
      .trivial)
   have O:∀(σ':List ba) (s':St) (v:aj),cJ (S k) s σ' s'->dc σ' s' v (x i)->Gs N σ' s' (fE φ x idx (L.setIfInBounds i ab)) (a.put o.dst v):=by
    intro σ' s' v u T;cases hd:o.dst with
    |none =>
     refine⟨n.size,n.defers.imp λ_ h1=>h1.mono u.ext,λt=>?_⟩;have z:=(n.slot t).mono u.ext hh.len;simp only[Act.put];unfold fE at z⊢;cases r:idx t with
     |none=>grind
     |some j =>
      simp only[r]at z⊢;obtain⟨oj,Uw,Ux⟩:=h.wu _ _ r;grind[ef]
    |some d =>
     obtain⟨YB,YC⟩:=h.GY i o d W hd;refine⟨by simp[Act.put,n.size],n.defers.imp λ_ h1=>h1.mono u.ext,λt=>?_⟩;simp only[Act.put];by_cases e:d=t
     .subst e;have Wx:d<a.tmps.size:=by rw[n.size];exact YC
      simp only[dx,tY Wx,fK];unfold fE;simp only[YB];rw[bt ((ef (by omega)).2 (.inl rfl))];exact T
     .have z:=(n.slot t).mono u.ext hh.len;simp only[dx]at z⊢;rw[rn e];unfold fE at z⊢;cases r:idx t with
      |none=>grind
      |some j =>
       simp only[r]at z⊢;obtain⟨oj,Uw,Ux⟩:=h.wu _ _ r;grind[ef]
   have A:∀(k':Nat),k'<=ops.size->OA X N ops.toList o (p i) (S k) (x i) (S k')->(∀f,f<ops.size->c f=ab->((L.setIfInBounds i ab).getD f ae=ab↔f<k')) ->
     e9 X Z (G (b.aT a (.inRegion ops (i::Region.linearise.go .any ops l (t / (aW .any ops L).length) (L.setIfInBounds i ab) [])::kk)) cs) s:=by intro k' Wt YD Uy;have:=YD s a YA hh b kk cs Z i (Region.linearise.go .any ops l (t / (aW .any ops L).length) (L.setIfInBounds i ab) []) hb (by grind);simp only[pE]at this;exact this λv s' T iQ u=>ih _ F C Uv k' s' _ Wt Uy (O _ _ _ u T) iQ (st.trans u) _
   have same:c i=ae->∀f,f<ops.size->c f=ab->((L.setIfInBounds i ab).getD f ae=ab↔f<k):=by grind[ef]
   cases q:free i with
   |true =>
    obtain⟨hq,V⟩:=h.all i o W q;exact A k Y (V k) (same hq)
   |false =>
    have w:=h.one i o W q;have K:S i=S k:=by
     rcases Nat.le_total k i with Q|Q
     .refine h.chain Q λg h1 h2=>?_;cases U:c g with
      |false=>rfl
      |true =>
       exfalso;rcases h.comp i g M (by omega) U (by omega) q with⟨_,hc⟩|⟨hc,_⟩
       .grind
       .omega
     .refine(h.chain Q λg h1 h2=>?_).symm;cases U:c g with
      |false=>rfl
      |true =>
       exfalso;have hLg:=(E g (by omega) U).2 h2;by_cases Oe:g=i
       .grind
       .rcases h.comp i g M (by omega) U (λe=>Oe e.symm) q with⟨hc,_⟩|⟨_,hc⟩
        .omega
        grind
    rw[K]at w;cases I:c i with
    |false =>
     rw[h.quiet i I,K]at w;exact A k Y w (same I)
    |true =>
     refine A (i+1) (by omega) w λf QI TO=>?_;rw[ef (by omega)];by_cases H:f=i
     .grind
     .simp only[H,false_or];rcases h.comp i f M QI TO (λe=>H e.symm) q with⟨h1,hc⟩|⟨h1,hc⟩
      .grind
      grind
end
def HR(P:aK):List TypeDesc->List Field->Nat->Prop
 |[],[],_=>True
 |d::ds,f::fs,i=>f.name≠ "_"/\f.offset=i/\P.underlying f.type=aa d/\(match d with|.int _|.string|.bool=>True|_=>False)/\HR P ds fs (i+1)
 |_,_,_=>False
def RS(d:Nat)(xs ys:Array aj)(f:Field)(_:Option Bool×Unit):Sem (ForInStep (Option Bool×Unit)) :=
 if f.name= "_" then pure (ForInStep.yield (af,()))
 else do
  let a<-part f.type xs f.offset;let b<-part f.type ys f.offset;let r<-Op.equalIn d f.type a b
  if r=ae then pure (ForInStep.done (aa ae,()))else pure (ForInStep.yield (af,()))
def qR{P:aK}(w:aA)(d:Nat)(xs ys:Array aj):∀{ds:List TypeDesc}{fs:List Field}{i:Nat}{vs ws:List aj}{b:Bool},HR P ds fs i->jb ds vs ws=aa b->(∀j v,vs[j]?=aa v->xs[i+j]?=aa v)->(∀j v,ws[j]?=aa v->ys[i+j]?=aa v) ->
  (Op.eqFields (d+1) xs ys fs).run P w=.ok b w/\∀es,(forIn fs (af,()) (RS (d+1) xs ys)).events P w es=es
 |[],[],i,[],[],b,_,h,_,_=>by cases h;simp[Op.eqFields]
 |[],[],i,_::_,_,b,_,h,_,_=>by cases h
 |[],[],i,[],_::_,b,_,h,_,_=>by cases h
 |[],_::_,i,_,_,b,s,_,_,_=>s.elim
 |_::_,[],i,_,_,b,s,_,_,_=>s.elim
 |t::ds,f::fs,i,[],_,b,_,h,_,_=>by cases h
 |t::ds,f::fs,i,_::_,[],b,_,h,_,_=>by cases h
 |t::ds,f::fs,i,v::vs,u::us,b,⟨A,D,r,F,E⟩,h,x,B=>by
  simp only[jb]at h;cases l:pX t v u with
  |none=>grind
  |some a =>
   cases C:jb ds vs us with
   |none=>grind
   |some b' =>
    simp[l,C]at h;subst h;obtain⟨H,p⟩:=qR w d xs ys E C (λj v G=>by have:=x (j+1) v (by grind);grind) (λj v G=>by have:=B (j+1) v (by grind);grind);have g:xs[i]?=aa v:=by simpa using x 0 v rfl
    have c:ys[i]?=aa u:=by simpa using B 0 u rfl
    have k:(isAgg f.type).run P w=.ok ae w:=by unfold isAgg underlying;cases t<;>simp at F<;>simp[r]
    have n:∀(e:Array aj) (z:aj),e[i]?=aa z->(part f.type e f.offset).run P w=.ok z w:=by intro e z q;unfold part;simp[k,D,q]
    have m:∀(e:Array aj) (z:aj),e[i]?=aa z->∀es,(part f.type e f.offset).events P w es=es:=by intro e z q es;unfold part;simp[k,D,q]
    have o:∀es,(Op.equalIn (d+1) f.type v u).events P w es=es:=by
     intro es;unfold pX at l;split at l<;>first
      |(cases l;done)
      |(unfold Op.equalIn;simp[underlying,r];done)
      |(unfold Op.equalIn;simp[underlying,r];split<;>rfl)
    have y:(Op.equalIn (d+1) f.type v u).run P w=.ok a w:=by unfold pX at l;grind[run_equalIn_int,run_equalIn_string,run_equalIn_bool]
    refine⟨?_,λes=>?_⟩
    .rw[Op.eqFields.eq_2,bt A];simp only[bL,n xs v g,n ys u c,y,b6];cases a
     .simp
     grind
    .rw[List.forIn_cons];simp only[RS,A,bJ,aJ,bL,n xs v g,n ys u c,y,b6,aO,m xs v g,m ys u c,o];cases a
     .simp
     .simpa using p es
def lb{fs:List Field}{ds:List TypeDesc}(d:P.underlying t=aa (.struct fs.toArray))(c:P.stoodInHeld t=ae)(f:P.eqGuardType P.depth t=ae)(i:HR P ds fs 0):
  P.eqGuardType P.depth t=ae/\∀(w:aA) (vs ws:List aj) (b:Bool),jb ds vs ws=aa b->(Op.equal t (.agg vs.toArray) (.agg ws.toArray)).run P w=.ok b w/\∀es,(Op.equal t (.agg vs.toArray) (.agg ws.toArray)).events P w es=es:=by
 refine⟨f,λw vs ws b h=>?_⟩;have g:P.fieldsOf t=fs.toArray:=by unfold Program.fieldsOf;rw[d]
 have key:=qR w 9998 vs.toArray ws.toArray i h (λj v e=>by grind) (λj v e=>by grind);refine⟨?_,λes=>?_⟩
 rotate_left
 .show (Op.equalIn (9999+1) t _ _).events P w es=es;have k:=key.2 es;unfold Op.equalIn;simp[underlying,d,c];show Result.evThen ((forIn fs (af,()) (RS 9999 vs.toArray ws.toArray)).run P w) ((forIn fs (af,()) (RS (9998+1) vs.toArray ws.toArray)).events P w es) _=es;rw[k];cases(forIn fs (af,()) (RS 9999 vs.toArray ws.toArray)).run P w with
  |ok a w'=>obtain⟨o,_⟩:=a;cases o<;>rfl
  |halt x w'=>rfl
 show(Op.equalIn (9999+1) t _ _).run P w=_;grind[run_equalIn_agg]
def Nf:List TypeDesc->List A->List A->Option Bool
 |[],[],[]=>aa ab
 |.int _::ds,.c (.int k a)::cs,.c (.int k' b)::es=>match E8 k k' with
  |true=>match Nf ds cs es with
   |some r=>aa ((a==b)&&r)
   |none=>af
  |false=>af
 |.string::ds,.c (.str a)::cs,.c (.str b)::es=>match Nf ds cs es with
  |some r=>aa ((a==b)&&r)
  |none=>af
 |.bool::ds,.c (.bool a)::cs,.c (.bool b)::es=>match Nf ds cs es with
  |some r=>aa ((a==b)&&r)
  |none=>af
 |_,_,_=>af
def Ch:∀{ds:List TypeDesc}{cs es:List A}{b:Bool}{vs ws:List aj},Nf ds cs es=aa b->dH σ s vs cs->dH σ s ws es->jb ds vs ws=aa b:=by
 intro ds;induction ds with
 |nil =>
  intro cs es b vs ws h c e;cases cs<;>cases es<;>simp only[Nf,reduceCtorEq]at h
  cases vs<;>cases ws<;>first|exact c.elim|exact e.elim|(simpa[jb]using h)
 |cons d ds ih =>
  intro cs es b vs ws h c e;unfold Nf at h;split at h
  .grind
  .rename_i m i k a f k' b' es' heq;cases heq;split at h
   .rename_i l;cases yO l;split at h
    .rename_i r g;cases h;cases vs with
     |nil=>exact c.elim
     |cons v vs=>cases ws with
      |nil=>exact e.elim
      |cons w ws =>
       obtain⟨v1,j⟩:=c;obtain⟨w1,w2⟩:=e;cases(show Rd s.M v (.int k a)from v1);cases(show Rd s.M w (.int k b')from w1);simp[jb,pX,ih g j w2]
    grind
   grind
  .rename_i i a f b' es' heq;cases heq;split at h
   .rename_i r g;cases h;cases vs with
    |nil=>exact c.elim
    |cons v vs=>cases ws with
     |nil=>exact e.elim
     |cons w ws =>
      obtain⟨v1,j⟩:=c;obtain⟨w1,w2⟩:=e;cases(show Rd s.M v (.str a)from v1)with
      |str hx _ =>
      cases(show Rd s.M w (.str b')from w1)with
      |str hy _ =>
      simp only[jb,pX,ih g j w2];grind[ByteArray.toList_eq]
   grind
  .rename_i i a f b' es' heq;cases heq;split at h
   .rename_i r g;cases h;cases vs with
    |nil=>exact c.elim
    |cons v vs=>cases ws with
     |nil=>exact e.elim
     |cons w ws =>
      obtain⟨v1,j⟩:=c;obtain⟨w1,w2⟩:=e;cases(show Rd s.M v (.bool a)from v1);cases(show Rd s.M w (.bool b')from w1);simp[jb,pX,ih g j w2]
   grind
  grind
section
variable {T:List (Nat×TI)}
def kY:BinOp->Bool->Option Bool
 |.eql,b=>aa b
 |.neq,b=>aa (!b)
 |_,_=>af
def sI{x y:aj}{b c:Bool}(d:match x,y with|.agg _,.agg _=>True|.bool _,.bool _=>True|_,_=>False)(a:(Op.equal t x y).run P w=.ok b w)(h:kY op b=aa c):
  (binOp op t x y).run P w=.ok (.bool c) w:=by
 cases op<;>simp only[kY,reduceCtorEq,dk]at h
 .subst h;cases x<;>cases y<;>simp only at d<;>simp[binOp,a]
 .subst h;cases x<;>cases y<;>simp only at d<;>simp[binOp,a]
def oa{x y:aj}{b c:Bool}(d:match x,y with|.agg _,.agg _=>True|.bool _,.bool _=>True|_,_=>False)(e:(Op.equal t x y).run P w=.ok b w)(a:∀es,(Op.equal t x y).events P w es=es)(h:kY op b=aa c)(es:Array Event):
  (binOp op t x y).events P w es=es:=by cases op<;>simp only[kY,reduceCtorEq,dk]at h<;>(cases x<;>cases y<;>simp only at d<;>simp[binOp,a])
def u4(op:BinOp)(t:ay)(x y:aC)(xs ys:Array aj)(w:aA)(a:P.eqGuardType P.depth t=ae)(es:Array Event):(eqGuard op t x y (.agg xs) (.agg ys)).events P w es=es:=by cases op<;>simp[eqGuard,a]
theorem bx.structEq(u:c6 P T)(h:o.op=.binOp op t x y ty){i:TI}(hi:bz T t=aa i)(k:i.eq≠[]){cs es:List A}{b c:Bool}(v:η x=.e (.agg cs))(r:η y=.e (.agg es))(l:Nf i.eq cs es=aa b)(p:kY op b=aa c):bx P o η σ (.e (.one (.c (.bool c)))) σ:=by refine .quiet λs z hh hr=>?_;have h1:=hr x;have h2:=hr y;rw[v]at h1;rw[r]at h2;obtain⟨vs,n,f⟩:=h1;obtain⟨j,q,g⟩:=h2;obtain⟨m,heq⟩:=(u t i hi).eqs k;have a:=sI (x:=.agg vs.toArray) (y:=.agg j.toArray) ar (heq s.w vs j b (Ch l f g)).1 p;have d:=oa (x:=.agg vs.toArray) (y:=.agg j.toArray) ar (heq s.w vs j b (Ch l f g)).1 (heq s.w vs j b (Ch l f g)).2 p;refine⟨.bool c,?_,Rd.bool,by simp only[aq,h,n,q,aJ,run_eqGuard_agg s.w op t x y _ _ m,u4 op t x y _ _ s.w m,aO,bL,b6,a,d,Sem.events_pure]⟩;simp only[aq,h,n,q,bL,run_eqGuard_agg s.w op t x y _ _ m,b6,a,cK]
theorem bx.Ot(q:c6 P T)(h:o.op=.binOp op t x y ty){i:TI}(hi:bz T t=aa i)(u:i.desc=.bool){a b c:Bool}(r:η x=.e (.one (.c (.bool a))))(p:η y=.e (.one (.c (.bool b))))(n:kY op (a==b)=aa c):bx P o η σ (.e (.one (.c (.bool c)))) σ:=by
 refine .quiet λs m hh hr=>?_;have h1:=hr x;have h2:=hr y;rw[r]at h1;rw[p]at h2;replace h1:=fp h1;replace h2:=fp h2;generalize j:m x=vx at h1;generalize g:m y=vy at h2;cases h1;cases h2;have l:P.underlying t=aa .bool:=by rw[(q t i hi).QG,u]
 have d:=sI (P:=P) (w:=s.w) (x:=.bool a) (y:=.bool b) ar (run_equal_bool s.w t a b l) n;have k:∀es,(Op.equal t (.bool a) (.bool b)).events P s.w es=es:=λes=>by show(Op.equalIn (9999+1) t _ _).events P s.w es=es;unfold Op.equalIn;simp[underlying,l]
 have f:=oa (P:=P) (w:=s.w) (x:=.bool a) (y:=.bool b) ar (run_equal_bool s.w t a b l) k n;refine⟨.bool c,?_,Rd.bool,by simp only[aq,h,j,g,aJ,eqGuard_at_bool,Sem.events_pure,cK,aO,bL,b6,d,f]⟩;simp only[aq,h,j,g,bL,eqGuard_at_bool,cK,b6,d]
def bx.Rr(h:o.op=.binOp .xor t x y ty){a b:Int}(n:η x=.e (.one (.c (.int .i64 a))))(m:η y=.e (.one (.c (.int .i64 b))))(q:0<=a)(h1:0<=b):
  bx P o η σ (.e (.one (.c (.int .i64 ((a.toNat ^^^ b.toNat:Nat):Int))))) σ:=by
 refine .quiet λs l hh hr=>?_;have e1:=hr x;have e2:=hr y;rw[n]at e1;rw[m]at e2;replace e1:=fp e1;replace e2:=fp e2;generalize g:l x=vx at e1;generalize f:l y=vy at e2;cases e1 with|int ha =>
 cases e2 with|int hb =>
 have p:a.toNat ^^^ b.toNat<2 ^ 63:=by apply Nat.xor_lt_two_pow<;>simp only[bq]at ha hb<;>omega
 have k:bq .i64 ((a.toNat ^^^ b.toNat:Nat):Int):=by simp only[bq];omega
 refine⟨.int .i64 ((a.toNat ^^^ b.toNat:Nat):Int),?_,.int k,?_⟩
 rotate_left
 .simp only[aq,h,g,f,aJ,fX,iW,aO,Go.binOp,dn,eN,bJ,Op.intBits,bL,b6,cK,Sem.events_pure]
 have d:((BitVec.ofInt 64 a) ^^^ (BitVec.ofInt 64 b)).toNat=a.toNat ^^^ b.toNat:=by rw[BitVec.toNat_xor,BitVec.toNat_ofInt,BitVec.toNat_ofInt];simp only[bq]at ha hb;congr 1<;>omega
 have i:(BitVec.ofInt IntKind.i64.bits a ^^^ BitVec.ofInt IntKind.i64.bits b).toNat=a.toNat ^^^ b.toNat:=d;have j:(Go.binOp .xor t (.int .i64 a) (.int .i64 b)).run P s.w=.ok (.int .i64 ((a.toNat ^^^ b.toNat:Nat):Int)) s.w:=by simp only[Go.binOp,dn,eN,bJ,Op.intBits,cK];grind[lB]
 simp only[aq,h,g,f,bL,fX,b6,j,cK]
def bx.ER(z:c6 P T){k dst:ay}(h:o.op=.convert k dst x){i i2 ie:TI}(hi:bz T k=aa i)(D:bz T dst=aa i2)(Q:i.desc=.slice E)(F:i2.desc=.string)(L:bz T E=aa ie)(B:ie.desc=.int .u8){tt:Bool}{r:List UInt8}(K:∀s v,dc σ s v (η x)->Rd s.M v (.sl tt 1 n es))(hb:uD es 0 n=aa r):bx P o η σ (.e (.one (.c (.str r)))) σ:=by
 refine .mL λs R hh hr=>?_;have h1:=K s _ (hr x);obtain⟨vs,I,b⟩:=dE (P:=P) hh h1;obtain⟨a,cap,O,m,J,N,_⟩:=h1.flat;have H:n<=9223372036854775807:=by omega
 have A:vs.length=n:=by rw[I.len];omega
 obtain⟨xs,e1,e2⟩:=xg (M:=s.M) (vs:=vs) hb A (λj hj c S=>by
  obtain⟨v,U,p2⟩:=I.rd j hj 0 c (by grind)
  grind)
 have C:=(z k i hi).run_underlying (w:=s.w);have g:=(z dst i2 D).run_underlying (w:=s.w);have l:=(z E ie L).run_underlying (w:=s.w);rw[Q]at C;rw[F]at g;rw[B]at l;have y:r.length<=9223372036854775807:=by grind
 have f:∃u:ByteArray,(Conv.bytesToString (.slice a n cap)).run P s.w=.ok (.string u) s.w/\u.data.toList=r:=by
  cases a with
  |none =>
   have t:r=[]:=by
    have:vs=[]:=by rw[m]at b;have h2:=b.1;simp[Builtin.firstCells]at h2;grind
    grind
   exact⟨ByteArray.empty,by simp[Conv.bytesToString],by rw[t];rfl⟩
  |some ad =>
   rw[m]at b;have h2:=b.1;simp only[Builtin.firstCells,Nat.mul_one]at h2;refine⟨⟨#[]++(xs.map λx=>UInt8.ofNat x.toNat).toArray⟩,?_,by grind⟩;simp only[Conv.bytesToString,bL,h2,b6,e1];rw[List.forIn_toArray,nv (P:=P) s.w (λ_ _=>rfl) xs ByteArray.empty];rfl
 obtain⟨u,q,G⟩:=f;refine⟨.string u,?_,Rd.str G y,?_⟩
 rotate_left
 .intro e d;simp only[aq,h,m,aJ,convert,C,g,aO,b6,l,q,bL,events_underlying,Sem.events_pure]at d;cases a with
  |none=>simp[Conv.bytesToString]at d
  |some ad =>
   have p:=gy (P:=P) hh (h1.BH (λ_ _=>rfl)) (w:=s.w) rfl;rw[m]at b p;have h2:=b.1;simp only[Builtin.firstCells,Nat.mul_one]at h2 p;unfold Conv.bytesToString at d;simp only at d;rw[aJ,h2,aO,cN.bind (P:=P) ?_ λ_=>.pure]at d
   .grind [ry]
   .rw[List.forIn_toArray];refine cN.G6 (λx s=>?_) _ _;split
    .exact .pure
    .exact .bind .stuck λ_=>.pure
 simp only[aq,h,m,bL,convert,C,g,b6,l,q,cK]
end
def uE(η:aC->D):List aC->Option (List C)
 |[]=>aa []
 |x::r=>match η x with
  |.e (.one (.c c))=>match uE η r with
   |some q=>aa (c::q)
   |none=>af
  |_=>af
def u5{σ:List ba}{s:St}{a:aC->aj}{η:aC->D}(d:∀y,dc σ s (a y) (η y)):∀{xs:List aC}{cs:List C},uE η xs=aa cs->xs.length=cs.length/\∀(j:Nat)(c:C),cs[j]?=aa c->∃v,(xs.map a)[j]?=aa v/\Rd s.M v c
 |[],cs,h=>by cases h;grind
 |x::r,cs,h=>by
  simp only[uE]at h;split at h
  .rename_i c f;split at h
   .rename_i q e;cases h;obtain⟨k,i⟩:=u5 d e;refine⟨by grind,λj g b=>?_⟩;cases j with
    |zero =>
     simp at b;subst b;have:=d x;rw[f]at this;exact⟨a x,by simp,fp this⟩
    |succ j=>grind
   grind
  grind
section
variable {T:List (Nat×TI)}
theorem bx.makeFunc{fn:Fn}{a b:Array aC}(h:o.op=.makeFunc fn a b){g f:List C}(l:uE η a.toList=aa g)(hb:uE η b.toList=aa f):bx P o η σ (.e (.one (.c (.fn fn g f)))) σ:=by
 refine .quiet λs d hh hr=>?_;obtain⟨a1,a2⟩:=u5 hr l;obtain⟨n,m⟩:=u5 hr hb;have i:a.map d=(a.toList.map d).toArray:=by grind
 have k:b.map d=(b.toList.map d).toArray:=by grind
 refine⟨.func fn (a.toList.map d).toArray (b.toList.map d).toArray,?_,?_,by simp only[aq,h,Instr.makeFunc];rfl⟩
 .simp only[aq,h,Instr.makeFunc,i,k];rfl
 .refine Rd.fn _ _ (by grind) (by grind) (λj=>((a.toList.map d)[j]?).getD ah) (λj=>((b.toList.map d)[j]?).getD ah) ?_ ?_ ?_ ?_
  .grind
  .grind
  .grind
  grind
def z0:TypeDesc->Bool
 |.interface _=>ab
 |_=>ae
def tK(t:ay):D->Option C
 |.e (.one (.c c))=>aa (.ifs t c)
 |.e (.agg cs)=>match gE cs with
  |some q=>aa (.KQ t q)
  |none=>af
 |_=>af
def Ci{d:D}{c:C}(h:tK t d=aa c)(r:dc σ s v d):Rd s.M (.iface t v) c:=by
 unfold tK at h;split at h
 .cases h;exact Rd.ifs (fp r) (fp r).cell
 .split at h
  .rename_i q f;cases h;obtain⟨vs,rfl,g⟩:=r;have b:=kL f g;refine Rd.KQ (by have:=b.length;grind) (λj=>(vs[j]?).getD ah) (λj e=>by grind) λj c e=>?_;obtain⟨v,k,i⟩:=b.get (j:=j) (a:=.c c) (by grind);rw[k];exact i
  grind
 grind
theorem bx.makeInterface(j:c6 P T){t:ay}{x:aC}(h:o.op=.makeInterface t x){i:TI}(hi:bz T t=aa i)(b:z0 i.desc=ae){c:C}(g:tK t (η x)=aa c):bx P o η σ (.e (.one (.c c))) σ:=by
 refine .quiet λs f hh hr=>?_;have d:=(j t i hi).run_underlying (w:=s.w);refine⟨.iface t (f x),?_,Ci g (hr x),?_⟩
 rotate_left
 .simp only[aq,h,Instr.makeInterface,aJ,bL,d,aO,b6,events_underlying];cases a:i.desc<;>rw[a]at b<;>first|(cases b;done)|simp
 simp only[aq,h,Instr.makeInterface,bL,d,b6];cases a:i.desc<;>rw[a]at b<;>first|(cases b;done)|simp
end
def zJ(op:BinOp)(k:IntKind)(a:Int)(k':IntKind)(b:Int):Option (Int×List Prop) :=
 match k with
 |.u64=>match op with
  |.shl=>aa (((a.toNat*2 ^ b.toNat % 18446744073709551616:Nat):Int),[0<=b,b<=64])
  |.shr=>aa (((a.toNat / 2 ^ b.toNat:Nat):Int),[0<=b,b<=64])
  |.and=>match k' with|.u64=>aa (((a.toNat &&& b.toNat:Nat):Int),[])|_=>af
  |.xor=>match k' with|.u64=>aa (((a.toNat ^^^ b.toNat:Nat):Int),[])|_=>af
  |_=>af
 |_=>af
section
variable {T:List (Nat×TI)}
theorem bits_nat{a:Int}(h:bq .u64 a):(BitVec.ofInt IntKind.u64.bits a).toNat=a.toNat:=by rw[BitVec.toNat_ofInt];simp only[bq]at h;simp only[IntKind.bits];omega
def EL{k k':IntKind}{a b c:Int}(t:ay)(f:zJ op k a k' b=aa (c,obs))(j:au obs)(g:bq k a)(p:bq k' b)(w:aA):
  bq k c/\(Go.binOp op t (.int k a) (.int k' b)).run P w=.ok (.int k c) w/\(Go.binOp op t (.int k a) (.int k' b)).events P w #[]=#[]:=by
 unfold zJ at f;split at f
 .split at f
  .cases f;obtain⟨m,l⟩:0<=b/\b<=64:=j;have q:a.toNat*2 ^ b.toNat % 18446744073709551616<18446744073709551616:=jy _ (by decide);simp only[bq]at g;refine⟨by simp only[bq];omega,?_⟩;have h:IntKind.wrap .u64 (a*2 ^ (min b.toNat IntKind.u64.bits))=((a.toNat*2 ^ b.toNat % 18446744073709551616:Nat):Int):=by
    have i:min b.toNat IntKind.u64.bits=b.toNat:=by rw[show IntKind.u64.bits=64 from rfl];omega
    have n:a=(a.toNat:Int):=by omega
    rw[i,n];simp only[IntKind.wrap,IntKind.bits,IntKind.signed,bF];grind
   simp only[Go.binOp,Op.shift,bh (show¬b<0 by omega),h];exact⟨rfl,rfl⟩
  .cases f;obtain⟨m,l⟩:0<=b/\b<=64:=j;simp only[bq]at g;have o:a.toNat / 2 ^ b.toNat<=a.toNat:=Nat.div_le_self _ _;refine⟨by simp only[bq];grind,?_⟩;have h:a.fdiv (2 ^ (min b.toNat IntKind.u64.bits))=((a.toNat / 2 ^ b.toNat:Nat):Int):=by
    have i:min b.toNat IntKind.u64.bits=b.toNat:=by rw[show IntKind.u64.bits=64 from rfl];omega
    grind
   simp only[Go.binOp,Op.shift,bh (show¬b<0 by omega),h];exact⟨rfl,rfl⟩
  .split at f
   .cases f;have l:a.toNat &&& b.toNat<=a.toNat:=Nat.and_le_left;have d:bq .u64 ((a.toNat &&& b.toNat:Nat):Int):=by simp only[bq]at g⊢;omega
    refine⟨d,?_⟩;have e:(BitVec.ofInt IntKind.u64.bits a &&& BitVec.ofInt IntKind.u64.bits b).toNat=a.toNat &&& b.toNat:=by grind[bits_nat]
    simp only[Go.binOp,dn,eN,bJ,Op.intBits,e,lB d];exact⟨rfl,rfl⟩
   grind
  .split at f
   .cases f;have d:bq .u64 ((a.toNat ^^^ b.toNat:Nat):Int):=by simp only[bq]at g p⊢;have:a.toNat ^^^ b.toNat<2 ^ 64:=Nat.xor_lt_two_pow (by omega) (by omega);omega
    refine⟨d,?_⟩;have e:(BitVec.ofInt IntKind.u64.bits a ^^^ BitVec.ofInt IntKind.u64.bits b).toNat=a.toNat ^^^ b.toNat:=by grind[bits_nat]
    simp only[Go.binOp,dn,eN,bJ,Op.intBits,e,lB d];exact⟨rfl,rfl⟩
   grind
  grind
 grind
theorem bx.bits{k k':IntKind}{a b c:Int}(h:o.op=.binOp op t x y ty)(p:η x=.e (.one (.c (.int k a))))(l:η y=.e (.one (.c (.int k' b))))(j:zJ op k a k' b=aa (c,obs))(m:au obs):
  bx P o η σ (.e (.one (.c (.int k c)))) σ:=by
 refine .quiet λs i hh hr=>?_;have h1:=hr x;have h2:=hr y;rw[p]at h1;rw[l]at h2;replace h1:=fp h1;replace h2:=fp h2;generalize f:i x=vx at h1;generalize d:i y=vy at h2;cases h1 with|int ha =>
 cases h2 with|int hb =>
 obtain⟨n,g,q⟩:=EL (P:=P) t j m ha hb s.w;exact⟨.int k c,by simp only[aq,h,bL,f,d,fX,b6,g,cK],.int n,by simp[aq,h,f,d,fX,iW,g,q]⟩
end
def n5(i:Nat)(ci:List C)(es:Nat->List C):Nat->List C:=λj=>if j=i then ci else es j
def pQ(lo hi:Nat)(z:List C)(es:Nat->List C):Nat->List C:=λj=>if lo<=j/\j<hi then z else es j
section
variable {T:List (Nat×TI)}{g:Nat}
def HY(u:aD σ s)(h:σ[l]?=aa (.buf E k n es)){k' f:Nat}(m:fU σ s v (.bp l (.el g k' i f)))(r:g=n):
  ∃b c vs zs,s.β[l]?=aa ⟨.slice (aa ⟨b,0,af⟩) 0 c,[b]⟩/\v=.pointer (aa ⟨b,i*k'+f,af⟩)/\s.w.heap[b]?=aa (.cells (vs++zs).toArray E (0,0))/\(vs++zs).length=c*k/\n<=c/\c<=9223372036854775807/\Flat s.M k n es vs/\∀o,s.M b o=af:=by
 obtain⟨B,⟨b,c,d,z⟩,_,y⟩:=m;obtain⟨L,e,a⟩:=(y _ _ _ _ h).2 r;rw[d]at a;rcases u.box l _ L h e with⟨_,rfl⟩|⟨C,c1,vs,zs,rfl,t,q,p,A,x,j⟩
 .cases a
 .cases a;exact⟨b,c,vs,zs,e,z,t,q,p,A,x,j⟩
def HZ{g:Nat->aj}:∀{ds:List C}{m:Nat},(∀j c,ds[j]?=aa c->Rd s.M (g (m+j)) c)->dH σ s ((a9 ds.length).map λj=>g (m+j)) (ds.map A.c)
 |[],m,_=>trivial
 |d::ds,m,h=>by rw[gd,x3];refine⟨h 0 d rfl,?_⟩;have:=HZ (ds:=ds) (m:=m+1) (λj c a=>by have:=h (j+1) c (by grind);rwa [show m+1+j=m+(j+1) by omega]);grind[Function.comp_def]
theorem bx.UM(A:c6 P T)(h:o.op=.indexAddr t x y){i ie:TI}(hi:bz T t=aa i)(L:i.desc=.slice E)(H:bz T E=aa ie){q m:Nat}{j:Int}{kk:IntKind}(G:η x=.e (.one (.bp l (.sl g ie.size q m))))(J:η y=.e (.one (.c (.int kk j))))(N:0<=j)(h1:j<m):bx P o η σ (.e (.one (.bp l (.el g ie.size (q+j.toNat) 0)))) σ:=by
 refine .quiet λs C hh hr=>?_;have f:=hr x;rw[G]at f;have h2:=hr y;rw[J]at h2;replace h2:=fp h2;generalize u:C y=vy at h2;cases h2;have d:=f;change fU σ s (C x) (.bp l _)at d;obtain⟨lv,⟨a,a0,cap,K,D,I,M,F,z,n⟩,p,r⟩:=d;obtain⟨b,rfl,rfl⟩:=n (by omega);have B:=(A t i hi).run_underlying (w:=s.w);rw[L]at B;obtain⟨k,rfl⟩:∃k:Nat,j=k:=⟨j.toNat,by omega⟩
 have v:k<m:=by omega
 refine⟨.pointer (aa ⟨b,(q+k)*ie.size,af⟩),?_,⟨lv,⟨b,K,z,by simp⟩,p,r⟩,?_⟩<;>
 simp[aq,h,D,u,Instr.indexAt,asIntOf,B,(A E ie H).run_sizeOf,dh,v,gU]
def bx.Ov(r:c6 P T){f:Nat}(h:o.op=.fieldAddr t x f){m q:Nat}{j:TI}(v:η x=.e (.one (.bp l (.el g m i q))))(p:iY T t f=aa (off,j)):bx P o η σ (.e (.one (.bp l (.el g m i (q+off))))) σ:=by refine .quiet λs u hh hr=>?_;have h1:=hr x;rw[v]at h1;have a:=h1;change fU σ s (u x) (.bp l _)at a;obtain⟨lv,⟨b,w,k,n⟩,d,c⟩:=a;exact⟨.pointer (aa ⟨b,i*m+q+off,af⟩),by simp[aq,h,n,lG r p],⟨lv,⟨b,w,k,by grind⟩,d,c⟩,by simp[aq,h,n,mV r p]⟩
theorem bx.UN(h:o.op=.nilCheck x){j q:Nat}(p:η x=.e (.one (.bp l (.el g j i q)))):bx P o η σ (.e (.one (.bp l (.el g j i q)))) σ:=by refine .quiet λs f hh hr=>?_;have h1:=hr x;rw[p]at h1;have c:=h1;have a:=h1;change fU σ s (f x) (.bp l _)at a;obtain⟨lv,⟨b,r,n,d⟩,m,k⟩:=a;exact⟨f x,by simp[aq,h,d],c,by simp[aq,h,d]⟩
theorem bx.UO(y:c6 P T)(h:o.op=.call {callee:=.builtin .len,args:=#[x],argTypes:=jK})(j:jK[0]?=aa t){i:TI}(hi:bz T t=aa i)(C:i.desc=.slice E){D q m:Nat}(A:η x=.e (.one (.bp l (.sl g D q m)))):bx P o η σ (.e (.one (.c (.int .i64 m)))) σ:=by
 refine .quiet λs v hh hr=>?_;have h1:=hr x;rw[A]at h1;have b:=h1;change fU σ s (v x) (.bp l _)at b;obtain⟨lv,⟨a,a0,cap,F,k,B,n,r,z,f⟩,u,p⟩:=b;have d:=(y t i hi).run_underlying (w:=s.w);rw[C]at d;refine⟨.int .i64 m,?_,Rd.int (by simp only[bq];omega),?_⟩<;>
 simp[aq,h,resolve,invoke,builtin,Builtin.len_,k,d,goInt,j]
theorem bx.sliceB(z:c6 P T){lo hi:Option aC}(h:o.op=.slice t x lo hi af){i ie:TI}(s:bz T t=aa i)(J:i.desc=.slice E)(G:bz T E=aa ie){q m:Nat}{d u:Option Int}(D:η x=.e (.one (.bp l (.sl g ie.size q m))))(hl:tc η lo=aa d)(C:tc η hi=aa u)(B:au (gh m d u)):bx P o η σ (.e (.one (.bp l (.sl g ie.size (q+cU 0 d) (cU m u-cU 0 d))))) σ:=by
 refine .quiet λst ρ hh hr=>?_;have h1:=hr x;rw[D]at h1;have j:=h1;change fU σ st (ρ x) (.bp l _)at j;obtain⟨lv,⟨a,a0,cap,I,y,f,K,n,v,k⟩,p,r⟩:=j;obtain⟨hb,H,F⟩:=mM (P:=P) (isS:=ab) f (iz hr hl) (iz hr C) B st.w;have c:=(z t i s).run_underlying (w:=st.w);rw[J]at c;refine⟨.slice (if cap=cU 0 d then a else a.map (·.add (cU 0 d*ie.size))) (cU m u-cU 0 d) (cap-cU 0 d),?_,⟨lv,⟨_,a0,_,I,rfl,by omega,by omega,n,v,λA=>?_⟩,p,r⟩,by simp[aq,h,y,Instr.sliceAt,c,Instr.slice,hb,oK (P:=P) (isS:=ab) f (iz hr hl) (iz hr C) B st.w]⟩
 .simp[aq,h,y,Instr.sliceAt,c,Instr.slice,hb,(z E ie G).run_sizeOf]
 .obtain⟨b,rfl,rfl⟩:=k (by omega);refine⟨b,rfl,?_⟩;rw[bh (by omega)];simp[dh,gU]
def bx.Rs(G:c6 P T)(h:o.op=.load t x){f:Nat}{z:TI}{e:E1}(K:η x=.e (.one (.bp l (.el g k i f))))(B:g=n)(hl:σ[l]?=aa (.buf E k n es))(hi:bz T t=aa z)(H:lU z ((gH f (es i)).map A.c)=aa e)(q:i<n):bx P o η σ (.e e) σ:=by
 refine .mL λs N hh hr=>?_;have h1:=hr x;rw[K]at h1;obtain⟨b,W,vs,U,O,F,d,R,Q,L,J,V⟩:=HY hh hl h1 B;have X:=J.width i q;let g:Nat->aj:=λj=>vs.getD (i*k+j) ah;have B:∀j c,(gH f (es i))[j]?=aa c->vs[i*k+(f+j)]?=aa (g (f+j))/\Rd s.M (g (f+j)) c:=by intro j c hj;rw[mf,pG]at hj;obtain⟨v,v1,S⟩:=J.rd i q (f+j) c hj;grind
 have C:=HZ (σ:=σ) (s:=s) (g:=g) (ds:=gH f (es i)) (m:=f) (λj c hj=>(B j c hj).2);have a:∀(j:Nat) (v:aj),((a9 (gH f (es i)).length).map λj=>g (f+j))[j]?=aa v->s.w.cell? ⟨b,i*k+f+j,af⟩=aa v:=by
  intro j v hj;simp only[mJ]at hj;by_cases u:j<(gH f (es i)).length
  .simp[u]at hj;subst hj;have h2:=(B j _ (bd u)).1;simp only[aU,d];grind
  grind
 obtain⟨v,r,D⟩:=lF (s:=s) (σ:=σ) (P:=P) (G t z hi) (b:=b) (off:=i*k+f) (e:=e) a C H;refine⟨v,by simp[aq,h,F,Instr.loadAt,Instr.sureAddr,r],D,λI y=>?_⟩;have p:I∈(loadVar t ⟨b,i*k+f,af⟩).events P s.w #[]:=by
  have e:aq N o=(do pure (.value (<-loadVar t ⟨b,i*k+f,af⟩))):=by simp[aq,h,F,Instr.loadAt,Instr.sureAddr]
  rw[e]at y;simpa[r]using y
 obtain⟨j,hj,rfl⟩:=iD (G t z hi) (n:=(gH f (es i)).length) (λj hj=>⟨_,a j (g (f+j)) (by grind)⟩) (by have:=nV H;grind) I p;exact nP (bD O) (by simp)
def Flat.put{ny:List aj}{f:Nat}{cc ci:List C}(h:Flat M k n es vs)(hi:i<n)(s:eQ f cc (es i)=aa ci)(hl:ny.length=cc.length)(q:∀(j:Nat)(c:C),cc[j]?=aa c->∃v,ny[j]?=aa v/\Rd M v c):
  i*k+f+ny.length<=vs.length/\Flat M k n (n5 i ci es) (vs.take (i*k+f)++ny++vs.drop (i*k+f+ny.length)):=by
 obtain⟨h1,h2⟩:=oY s;have x:=h.width i hi;have hb:i*k+k<=n*k:=by have:=dY k (show i+1<=n by omega);grind
 have t:=h.len;have m:i*k+f+ny.length<=vs.length:=by omega
 have d:∀p,(vs.take (i*k+f)++ny++vs.drop (i*k+f+ny.length))[p]?=if p<i*k+f then vs[p]? else if p<i*k+f+ny.length then ny[p-(i*k+f)]? else vs[p]?:=by
  intro p;have w:(vs.take (i*k+f)).length=i*k+f:=by grind
  by_cases c1:p<i*k+f
  .grind
  .rw[bh c1];by_cases c2:p<i*k+f+ny.length
   .grind
   .rw[bh c2,fh (by grind),pG];grind
 refine⟨m,⟨by grind,λb a=>?_,λb a j c hj=>?_⟩⟩
 .simp only[n5];split
  .grind
  .exact h.width b a
 .simp only[n5]at hj;rw[d];split at hj
  .rename_i e;subst e;rw[h2]at hj;by_cases c1:j<f
   .rw[ju,jq (by grind),ig,bt c1]at hj;rw[bt (by omega)];exact h.rd b hi j c hj
   .by_cases c2:j<f+cc.length
    .rw[ju,fh (by grind),jq (by grind)]at hj;obtain⟨v,v1,u⟩:=q _ c hj;refine⟨v,?_,u⟩;rw[bh (by omega),bt (by omega),<-v1];congr 1;grind
    .rw[fh (by grind),pG]at hj;rw[bh (by omega),bh (by omega)];refine h.rd b hi j c ?_;grind
  .rename_i e;have o:j<k:=by have:=(b8.1 hj).1;have:=h.width b a;omega
   rcases cv b i with l|r
   .have:(b+1)*k<=i*k:=dY k l;rw[gU,Nat.one_mul]at this;rw[bt (by omega)];exact h.rd b a j c hj
   .have:(i+1)*k<=b*k:=dY k (by omega);rw[gU,Nat.one_mul]at this;rw[bh (by omega),bh (by omega)];exact h.rd b a j c hj
def aD.dL(hh:aD σ s)(hl:σ[l]?=aa (.buf E k n es)){e a:List aj}{i:Nat}(z:s.β[l]?=aa ⟨.slice (aa ⟨b,0,af⟩) 0 i,[b]⟩)(A:(vs++e).length=i*k)(q:n<=i)(p:i<=9223372036854775807){es':Nat->List C}(f:s.w.heap[b]?=aa (.cells (vs++e).toArray E (0,0)))(B:Flat s.M k n es' a)(u:a.length=vs.length)(y:∀o,s.M b o=af):
  aD (σ.set l (.buf E k n es')) {s with w:=s.w.setRow b (a++e).toArray}/\Step σ s (σ.set l (.buf E k n es')) {s with w:=s.w.setRow b (a++e).toArray}:=by
 have j:(s.w.setRow b (a++e).toArray).heap[b]?=aa (.cells (a++e).toArray E (0,0)):=setRow_heap s.w b _ _ E _ f;have m:∀c,c≠b->(s.w.setRow b (a++e).toArray).heap[c]?=s.w.heap[c]?:=λc d=>setRow_other s.w b c _ d;have r:s.β.set l ⟨.slice (aa ⟨b,0,af⟩) 0 i,[b]⟩=s.β:=by apply gR;grind
 obtain⟨G,H⟩:=hh.gV (M':=s.M) (w':=s.w.setRow b (a++e).toArray) (B':=.buf E k n es') (L':=⟨.slice (aa ⟨b,0,af⟩) 0 i,[b]⟩) hl z ⟨λ_=>rfl,aZ _⟩ (by simp[World.setRow])
  (λc d F=>m c (by grind)) (λ_ _ _ _=>rfl) (λ_ _ _ h=>h) (λc x v t=>by
   have D:c≠b:=by grind
   have:=hh.mem c x v t;rw[<-this];simp only[aU]
   grind) (λc d=>⟨.inl d,by grind⟩) rfl rfl rfl
  (.inr ⟨b,i,a,e,rfl,j,by grind,q,p,B,y⟩)
 grind
def qK{α:Type}:∀{new l:List α},new.length=l.length->eQ 0 new l=aa new
 |[],[],_=>rfl
 |[],_::_,h=>by grind
 |_::_,[],h=>by grind
 |n::ns,c::cs,h=>by simp only[eQ,qK (new:=ns) (l:=cs) (by grind)]
def bx.He(Q:c6 P T)(h:o.op=.store t x y){f:Nat}{B:TI}{new:List A}{cc ci:List C}(Z:η x=.e (.one (.bp l (.el g k i f))))(hg:g=n)(hl:σ[l]?=aa (.buf E k n es))(hi:bz T t=aa B)(hy:kg (η y)=aa new)(W:new.length=B.size)(M:gE new=aa cc)(I:(es i).length=k->eQ f cc (es i)=aa ci)(u:i<n):
  bx P o η σ .any (σ.set l (.buf E k n (n5 i ci es))):=by
 intro s c hh hr;have h1:=hr x;rw[Z]at h1;obtain⟨b,c0,vs,H,U,O,a,L,K,J,V,S⟩:=HY hh hl h1 hg;have m:=kJ hy (hr y);have F:=kL M m;have N:=dH.closed F;have G:(c y).cells.toList.length=cc.length:=by have:=F.length;grind
 replace I:=I (V.width i u);obtain⟨q1,X⟩:=V.put u I G N;have p:(c y).cells.size=B.size:=by rw[<-W,<-m.length,iB]
 obtain⟨Y,t2⟩:=hh.dL hl U L K J a X (by grind) S;have z:=run_storeCells_at P b (i*k+f) E (c y).cells.toList 0 (vs++H).toArray s.w a (by grind) m.cell;have D:((vs++H).toArray.toList.take (i*k+f+0)++(c y).cells.toList++(vs++H).toArray.toList.drop (i*k+f+0+(c y).cells.toList.length))=vs.take (i*k+f)++(c y).cells.toList++vs.drop (i*k+f+(c y).cells.toList.length)++H:=by grind
 rw[D]at z;refine⟨.skip,_,?_,rfl,Y,t2,?_⟩
 .simp[aq,h,O,Instr.storeAt,Instr.sureAddr,storeVar,(Q t B hi).run_sizeOf,p,z]
 .intro R d;have e:aq c o=(do storeVar t ⟨b,i*k+f,af⟩ (c y);pure .skip):=by simp[aq,h,O,Instr.storeAt,Instr.sureAddr]
  rw[e]at d;have q:R∈(storeCells ⟨b,i*k+f,af⟩ (c y).cells.toList).events P s.w #[]:=by
   simp only[storeVar,aJ,(Q t B hi).run_sizeOf,p,aO,events_sizeOf,dn,eN,bJ,bL,b6,Sem.events_pure]at d;generalize(storeCells ⟨b,i*k+f,af⟩ (c y).cells.toList).run P s.w=r at d;cases r with
   |ok v w'=>simpa using d
   |halt x w'=>simpa using d
  rcases dW (c y).cells.toList 0 (vs++H).toArray s.w #[] a (by grind) m.cell R q with Kn|⟨j,_,_,rfl⟩
  .grind
  .exact ky (bD U) (by simp) (S _)
end
section
def aD.yc(hh:aD σ s)(g:∀o,s.M b o=af)(h:∀o v,vs[o]?=aa v->s.w.cell? ⟨b,o,af⟩=aa v):
  aD (σ.map λ_=>.dead) {s with M:=λa o=>if a=b then vs[o]? else s.M a o}/\∀a o v,s.M a o=aa v->(if a=b then vs[o]? else s.M a o)=aa v:=by
 have c:=hh.kz;refine⟨⟨λa o v d=>?_,c.len,λl B L f i=>?_,c.eH,c.lt,c.own⟩,λa o v d=>?_⟩
 .by_cases e:a=b
  .grind
  .simp only[e,bJ]at d;exact c.mem a o v d
 .have:=bD f;simp at this;rw[<-this.2];trivial
 grind
def ee.tZ{M':Mem}{es:Array Event}(h:ee {s with M:=M'} es){L:Loc}(j:L∈s.β)(hb:b∈L.bs)(i:∀c o v,s.M c o=aa v->M' c o=aa v)(f:∀c o v,M' c o=aa v->c=b∨s.M c o=aa v):ee s es:=by
 intro e d;have h1:=h e d;unfold nz at h1⊢;split at h1
 .obtain⟨a1,a2,a3⟩:=h1;refine⟨a1,a2,?_⟩;rcases a3 with a3|⟨a3,a4⟩|⟨a3,v,a4⟩
  .grind
  .refine .inr (.inl ⟨a3,λg=>?_⟩);have:=a4 g;rename_i a _;cases k:s.M a.block a.off with
   |none=>rfl
   |some v=>grind
  grind
 all_goals exact h1
end
def Gq(k:Nat)(f:Nat->Nat->aj):Nat->List C:=λi=>(a9 k).map λj=>.val (f i j)
theorem oG{f:Nat->Nat->aj}{c:C}(h:(Gq k f i)[j]?=aa c):j<k/\c=.val (f i j):=by
 have a:j<k:=by have:=(b8.1 h).1;simpa[Gq]using this
 simp[Gq,a]at h;grind
def BI{f:Nat->Nat->aj}(h:j<k):(Gq k f i)[j]?=aa (.val (f i j)):=by simp[Gq,h]
def Rd.exact{M:Mem}{v:aj}{t:Bool}{k n:Nat}{es:Nat->List C}(h:Rd M v (.sl t k n es)):
  ∃f:Nat->Nat->aj,Rd M v (.sl t k n (Gq k f))/\(∀i,i<n->(es i).length=k)/\∀i,i<n->∀j c,(es i)[j]?=aa c->Rd M (f i j) c:=by
 cases h with
 |sl b off f a hb ht hk ha hm hr =>
  have d:∀i,i<n->∀j,j<k->∃c,(es i)[j]?=aa c:=λi hi j hj=>⟨_,bd (by grind)⟩
  refine⟨f,.sl b off f a hb ht (λi _=>by simp[Gq]) ha (λi hi j c hj=>?_) (λi hi j c hj=>?_),hk,hr⟩
  .grind [oG]
  .obtain⟨h1,rfl⟩:=oG hj;obtain⟨e,h2⟩:=d i hi j h1;exact .val (hr i hi j e h2).cell
def yV{L:Loc}{a c:Option Addr}{cap:Nat}(d:σ[l]?=aa (.buf E k n es))(g:s.β[l]?=aa L)(e:L.v=.slice c 0 cap)(f:n<=cap)(i:cap<=9223372036854775807)(m:0<cap->∃b,c=aa ⟨b,0,af⟩/\a=aa ⟨b,0,af⟩):fU σ s (.slice a n cap) (.bp l (.sl n k 0 n)) :=
 ⟨L.v,⟨a,c,cap,cap,rfl,f,by omega,i,e,λh=>by grind⟩,(b8.1 d).1,λj k' n' es' he=>by rw[d]at he;cases he;exact⟨aZ _,λ_=>⟨L,g,rfl⟩⟩⟩
def qu{ie:TI}(h:kQ P o x y E ie){k:Nat}{tx:Bool}{es':Nat->List C}{ρ:aC->aj}(p:aD σ s)(h1:fU σ s (ρ x) (.bp l (.sl n ie.size 0 n)))(hl:σ[l]?=aa (.buf E ie.size n es))(V:Rd s.M (ρ y) (.sl tx ie.size k es'))(H:(n+k)*ie.bytes<=140737488355328):
  ∃nx s',(aq ρ o).run P s.w=.ok nx s'.w/\OR (σ.set l (.buf E ie.size (n+k) (cD n es es'))) s' nx (.e (.one (.bp l (.sl (n+k) ie.size 0 (n+k)))))/\aD (σ.set l (.buf E ie.size (n+k) (cD n es es'))) s'/\Step σ s (σ.set l (.buf E ie.size (n+k) (cD n es es'))) s'/\ee s ((aq ρ o).events P s.w #[]):=by
 obtain⟨t,t2,i,i2,ho,hi,hd,r,u⟩:=h.op;have B:l<σ.length:=(b8.1 hl).1;obtain⟨lv,⟨a,a0,cap,q,hv,K,QD,J,EJ,hc4⟩,_,TB⟩:=h1;obtain⟨L,hL,T3⟩:=(TB _ _ _ _ hl).2 rfl;rw[EJ]at T3;have MZ:q=cap:=by omega
 subst MZ;have O:0<q->∃b,a0=aa ⟨b,0,af⟩/\a=aa ⟨b,0,af⟩:=λh=>by grind
 have N:l<s.β.length:=(b8.1 hL).1;have Y:=bD hL;have R:=p.box l _ L hl hL;rw[cW ho,hv];have row:0<q->∃b vs zs,a=aa ⟨b,0,af⟩/\L=⟨.slice (aa ⟨b,0,af⟩) 0 q,[b]⟩/\s.w.heap[b]?=aa (.cells (vs++zs).toArray E (0,0))/\(vs++zs).length=q*ie.size/\Flat s.M ie.size n es vs/\∀o,s.M b o=af:=by
  intro G;obtain⟨b,e1,e2⟩:=O G;rcases R with⟨_,rfl⟩|⟨m,c1,vs,zs,rfl,h3,h4,h5,h6,h7,h8⟩
  .grind
  grind
 by_cases h0:k=0
 .subst h0;have f:=ix (P:=P) (ty:=o.type) hi hd r u h.elem p (a:=a) K V;simp only[gT];have ha:cn n es (cD n es es'):=λi hi=>by simp[cD,hi]
  have TD:eG (σ.set l (.buf E ie.size n (cD n es es'))) ⟨s.β.set l L,s.M,s.w,s.own⟩ (.buf E ie.size n (cD n es es')) L:=by
   rcases R with h3|⟨m,c1,vs,zs,V,h3,h4,h5,h6,h7,h8⟩
   .exact .inl h3
   .exact .inr ⟨m,c1,vs,zs,V,h3,h4,h5,h6,h7.BH ha,h8⟩
  have Gw:=p.gV (M':=s.M) (w':=s.w) (B':=.buf E ie.size n (cD n es es')) (L':=L) hl hL ⟨λ_=>rfl,aZ _⟩ (aZ _) (λ_ _ _=>rfl) (λ_ _ _ _=>rfl) (λ_ _ _ h=>h) p.mem
   (λb H=>⟨.inl H,p.lt L Y b H⟩) rfl rfl rfl TD
  refine⟨.value (.slice a n q),_,?_,?_,Gw.1,Gw.2,dX (iU hi hd r u h.elem p K V)⟩
  .simp[f]
  .exact yV (E:=E) (by rw[fJ B]) (by grind) T3 K J O
 .by_cases g:n+k<=q
  .obtain⟨b,vs,zs,rfl,rfl,hw,D,hF,hM⟩:=row (by omega);obtain⟨d,Km,f⟩:=jz (P:=P) (ty:=o.type) hi hd r u h.elem p hw D V g;have M3:vs.length=n*ie.size:=hF.len;have QE:d.length=k*ie.size:=Km.len;have Uk:n*ie.size+k*ie.size<=q*ie.size:=by rw[<-gU];exact dY _ g
   have S:((vs++zs).take (n*ie.size)++d++(vs++zs).drop (n*ie.size+d.length))=(vs++d)++zs.drop d.length:=by rw[<-M3];simp[List.drop_append]
   rw[S]at f;have N9:=setRow_heap s.w b _ ((vs++d)++zs.drop d.length).toArray E _ hw;have BR:∀m,m≠b->(s.w.setRow b ((vs++d)++zs.drop d.length).toArray).heap[m]?=s.w.heap[m]?:=λm I=>setRow_other s.w b m _ I;obtain⟨t1,Z⟩:=p.gV (M':=s.M) (w':=s.w.setRow b ((vs++d)++zs.drop d.length).toArray) (B':=.buf E ie.size (n+k) (cD n es es')) (L':=⟨.slice (aa ⟨b,0,af⟩) 0 q,[b]⟩) hl hL ⟨λ_=>rfl,by omega⟩ (by simp[World.setRow])
    (λm I hn=>BR m (by grind)) (λ_ _ _ _=>rfl) (λ_ _ _ h=>h) (λm o' v ZY=>by
     have zC:m≠b:=by grind
     have:=p.mem m o' v ZY;rw[<-this];simp only[aU]
     grind) (λm I=>⟨.inl I,by grind⟩) rfl rfl rfl
    (.inr ⟨b,q,vs++d,zs.drop d.length,rfl,N9,by grind,g,J,hF.append Km,hM⟩)
   refine⟨.value (.slice (aa ⟨b,0,af⟩) (n+k) q),_,?_,?_,t1,Z,dX (kR hi hd r u h.elem p hw D V g Y (by simp) (λo _=>hM o))⟩
   .simp[f]
   .exact yV (E:=E) (by rw[fJ B]) (by simp only;rw[fJ N]) rfl g J λ_=>⟨b,rfl,rfl⟩
  .have hg:q<n+k:=by omega
   obtain⟨f2,ZZ,U7,rm⟩:=V.exact;have fG:∃(M':Mem) (f0:Nat->Nat->aj),aD (σ.map λ_=>.dead) {s with M:=M'}/\(∀m o v,s.M m o=aa v->M' m o=aa v)/\Rd M' (.slice a n q) (.sl ae ie.size n (Gq ie.size f0))/\(∀{es},ee {s with M:=M'} es->ee s es) /\
     (∀i,i<n->(es i).length=ie.size)/\∀i,i<n->∀j c,(es i)[j]?=aa c->Rd s.M (f0 i j) c:=by
    by_cases G:0<q
    .obtain⟨b,vs,zs,rfl,rfl,hw,D,hF,hM⟩:=row G;obtain⟨c1,c2⟩:=p.yc (b:=b) (vs:=vs) hM (λo v ho=>by
      simp only[aU,hw]
      grind)
     have Q:∀i,i<n->∀j c,(es i)[j]?=aa c->vs[i*ie.size+j]?=aa (vs.getD (i*ie.size+j) ah)/\Rd s.M (vs.getD (i*ie.size+j) ah) c:=by intro i hi j c A;obtain⟨v,v1,v2⟩:=hF.rd i hi j c A;grind
     have QF:∀i,i<n->∀j,j<ie.size->∃c,(es i)[j]?=aa c:=λi hi j A=>⟨_,bd (by rw[hF.width i hi];exact A)⟩
     refine⟨_,λi j=>vs.getD (i*ie.size+j) ah,c1,c2,.sl b 0 (λi j=>vs.getD (i*ie.size+j) ah) K J (by simp) (λi _=>by simp[Gq]) (λ_=>rfl) (λi hi j c A=>?_) (λi hi j c A=>?_),λhe=>?_,hF.width,λi hi j c A=>(Q i hi j c A).2⟩
     .obtain⟨e1,_⟩:=oG A;grind
     .obtain⟨e1,rfl⟩:=oG A;obtain⟨c',e2⟩:=QF i hi j e1;exact .val (Q i hi j c' e2).2.cell
     .exact he.tZ (b:=b) Y (by simp) c2 λm o v hv=>by grind
    .have e1:q=0:=by omega
     have e2:n=0:=by omega
     subst e1 e2;have z:=p.kz;exact⟨s.M,λ_ _=>ah,⟨z.mem,z.len,z.box,z.eH,z.lt,z.own⟩,λ_ _ _ h=>h,Rd.iV,λh=>h,λi hi=>by omega,λi hi=>by omega⟩
   obtain⟨M',f0,c1,c2,hR,TH,Ym,hr0⟩:=fG;have Ur:Rd ({s with M:=M'}:St).M (ρ y) (.sl tx ie.size k (Gq ie.size f2)):=ZZ.mono c2;obtain⟨U,zs,F,W,TE,TG,hlen,f⟩:=gX (P:=P) (s:={s with M:=M'}) (ty:=o.type) hi hd r u h.elem c1 hR Ur hg H h.bytes;have Kw:=ir (P:=P) (s:={s with M:=M'}) (ty:=o.type) hi hd r u h.elem c1 hR Ur hg H h.bytes;have Z0:Flat s.M ie.size (n+k) (cD n es es') U:=by
    refine⟨W.len,λi hi=>?_,λi hi j c A=>?_⟩
    .by_cases e:i<n
     .simp only[cD,e,bZ];grind
     .simp only[cD,e,bJ];grind
    .by_cases e:i<n
     .simp only[cD,e,bZ]at A;have X:j<ie.size:=by grind
      obtain⟨v,v1,v2⟩:=W.rd i hi j (.val (f0 i j)) (by simp only[cD,e,bZ];exact BI X);grind[Rd.eW]
     .simp only[cD,e,bJ]at A;have X:j<ie.size:=by grind
      obtain⟨v,v1,v2⟩:=W.rd i hi j (.val (f2 (i-n) j)) (by simp only[cD,e,bJ];exact BI X);grind[Rd.eW]
   have nM:∀o,s.M s.w.heap.size o=af:=λo=>by
    cases hm:s.M s.w.heap.size o with
    |none=>rfl
    |some v=>have:=p.block hm;omega
   obtain⟨t1,Z⟩:=p.gV (M':=s.M) (w':=s.w.drew.alloc (.cells (U++zs).toArray E)) (B':=.buf E ie.size (n+k) (cD n es es')) (L':=⟨.slice (aa ⟨s.w.heap.size,0,af⟩) 0 F,[s.w.heap.size]⟩) hl hL
    ⟨λe=>absurd e (by omega),by omega⟩ (by simp) (λb H _=>cC s.w.drew _ H) (λ_ _ _ _=>rfl) (λ_ _ _ h=>h) (λb o v hm=>by
     have uc:=p.block hm;rw[<-p.mem b o v hm];simp only[aU];rw[cC s.w.drew _ uc];rfl) (λb H=>by simp at H;subst H;exact⟨.inr (aZ _),by simp⟩) rfl rfl rfl (.inr ⟨s.w.heap.size,F,U,zs,rfl,dt s.w.drew _,hlen,TE,TG,Z0,nM⟩)
   refine⟨.value (.slice (aa ⟨s.w.heap.size,0,af⟩) (n+k) F),_,?_,?_,t1,Z,dX (TH Kw)⟩
   .simp only at f;simp[f]
   .exact yV (E:=E) (by rw[fJ B]) (by simp only;rw[fJ N]) rfl TE TG λ_=>⟨_,rfl,rfl⟩
def bx.K2{ie:TI}(h:kQ P o x y E ie){a:Nat}{tx:Bool}{es':Nat->List C}(c:η x=.e (.one (.bp l (.sl n ie.size 0 n))))(hl:σ[l]?=aa (.buf E ie.size n es))(b:∀s v,dc σ s v (η y)->Rd s.M v (.sl tx ie.size a es'))(hb:(n+a)*ie.bytes<=140737488355328):
  bx P o η σ (.e (.one (.bp l (.sl (n+a) ie.size 0 (n+a))))) (σ.set l (.buf E ie.size (n+a) (cD n es es'))) :=
 λs d hh hr=>qu h hh (by have:=hr x;rw[c]at this;exact this) hl (b s _ (hr y)) hb
section
variable {T:List (Nat×TI)}
def bx.UP(g:c6 P T)(h:o.op=.call {callee:=.builtin .len,args:=#[x],argTypes:=jK})(d:jK[0]?=aa t){i:TI}(hi:bz T t=aa i)(k:i.desc=.slice E){a:Option Addr}{cap:Nat}(j:η x=.e (.one (.c (.val (.slice a n cap)))))(l:n<=9223372036854775807):bx P o η σ (.e (.one (.c (.int .i64 n)))) σ:=by
 refine .quiet λs m hh hr=>?_;have h1:=hr x;rw[j]at h1;have f:=Rd.eW (fp h1);have b:=(g t i hi).run_underlying (w:=s.w);rw[k]at b;refine⟨.int .i64 n,?_,Rd.int (by simp only[bq];omega),?_⟩<;>
 simp[aq,h,resolve,invoke,builtin,Builtin.len_,f,b,goInt,d]
theorem bx.z9(k:c6 P T)(h:o.op=.indexAddr t x y){i ie:TI}(hi:bz T t=aa i)(v:i.desc=.slice E)(r:bz T E=aa ie){cap:Nat}{j:Int}{kk:IntKind}(u:η x=.e (.one (.c (.val (.slice (aa ⟨b,off,af⟩) n cap)))))(p:η y=.e (.one (.c (.int kk j))))(z:0<=j)(h1:j<n):bx P o η σ (.e (.one (.c (.val (.pointer (aa ⟨b,off+j.toNat*ie.size,af⟩)))))) σ:=by
 refine .quiet λs q hh hr=>?_;have a:=hr x;rw[u]at a;have m:=Rd.eW (fp a);have h2:=hr y;rw[p]at h2;replace h2:=fp h2;generalize f:q y=vy at h2;cases h2;have l:=(k t i hi).run_underlying (w:=s.w);rw[v]at l;obtain⟨d,rfl⟩:∃d:Nat,j=d:=⟨j.toNat,by omega⟩
 have g:d<n:=by omega
 refine⟨.pointer (aa ⟨b,off+d*ie.size,af⟩),?_,Rd.val rfl,?_⟩<;>
 simp[aq,h,m,f,Instr.indexAt,asIntOf,l,(k E ie r).run_sizeOf,dh,g]
def bx.Ow(g:c6 P T){f:Nat}(h:o.op=.fieldAddr t x f){j:TI}(i:η x=.e (.one (.c (.val (.pointer (aa ⟨b,off,af⟩))))))(d:iY T t f=aa (k,j)):bx P o η σ (.e (.one (.c (.val (.pointer (aa ⟨b,off+k,af⟩)))))) σ:=by refine .quiet λs l hh hr=>?_;have h1:=hr x;rw[i]at h1;have a:=Rd.eW (fp h1);exact⟨.pointer (aa ⟨b,off+k,af⟩),by simp[aq,h,a,lG g d],Rd.val rfl,by simp[aq,h,a,mV g d]⟩
def bx.slice3(F:c6 P T){z:aC}(h:o.op=.slice t x af (aa y) (aa z)){i ie:TI}(C:bz T t=aa i)(S:i.desc=.slice E)(K:bz T E=aa ie){tt:Bool}{r q:IntKind}{j m:Int}(I:∀s v,dc σ s v (η x)->Rd s.M v (.sl tt k n es))(O:η y=.e (.one (.c (.int r j))))(Q:η z=.e (.one (.c (.int q m))))(D:0<=j)(h1:j<=m)(h2:m<=n):bx P o η σ (.e (.one (.c (.sl ae k j.toNat es)))) σ:=by
 refine .quiet λst ρ hh hr=>?_;have p:=I st _ (hr x);have l:=hr y;rw[O]at l;replace l:=fp l;generalize A:ρ y=vy at l;cases l;have g:=hr z;rw[Q]at g;replace g:=fp g;generalize u:ρ z=vz at g;cases g;obtain⟨a,cap,vs,B,H,N,V,W,U⟩:=p.flat;rw[B]at p;have d:=(F t i C).run_underlying (w:=st.w);rw[S]at d;have em:((m.toNat:Nat):Int)=m:=ya (by omega);have hb:(Instr.sliceBounds ab n cap af (aa (.int r j)) (aa (.int q m))).run P st.w=.ok (0,j.toNat,m.toNat) st.w:=by simp[Instr.sliceBounds,run_sliceBound (P:=P) st.w q m cap _ (by omega) (by omega),run_sliceBound (P:=P) st.w r j m.toNat _ D (by omega)]
 have J:(Instr.sliceBounds ab n cap af (aa (.int r j)) (aa (.int q m))).events P st.w #[]=#[]:=by simp[Instr.sliceBounds,run_sliceBound (P:=P) st.w q m cap _ (by omega) (by omega),run_sliceBound (P:=P) st.w r j m.toNat _ D (by omega),en (P:=P) st.w q m cap _ (by omega) (by omega),en (P:=P) st.w r j m.toNat _ D (by omega)]
 refine⟨.slice a j.toNat m.toNat,?_,?_,by simp[aq,h,B,A,u,Instr.sliceAt,d,Instr.slice,hb,J]⟩
 .simp[aq,h,B,A,u,Instr.sliceAt,d,Instr.slice,hb,(F E ie K).run_sizeOf];intro _;rcases a with _|⟨b,off,sp⟩<;>simp[Addr.add]
 .cases p with
  |sl b off f _ _ _ L R hm' M8 =>
   exact Rd.sl b off f (by omega) (by omega) (by simp) (λi hi=>L i (by omega)) (λG=>R (by omega)) (λi hi j c hj=>hm' i (by omega) j c hj) (λi hi j c hj=>M8 i (by omega) j c hj)
end
def Flat.QW{q m:Nat}{yb:Nat->List C}{ny:List aj}(h:Flat M k n es vs)(b:Flat M k m yb ny)(f:q+m<=n):
  Flat M k n (λi=>if q<=i/\i<q+m then yb (i-q)else es i) (vs.take (q*k)++ny++vs.drop (q*k+ny.length)):=by
 have hl:=h.len;have g:=b.len;have hb:q*k+m*k<=n*k:=by rw[<-gU];exact dY k f
 have l:(vs.take (q*k)).length=q*k:=by grind
 have a:∀p,(vs.take (q*k)++ny++vs.drop (q*k+ny.length))[p]?=if p<q*k then vs[p]? else if p<q*k+m*k then ny[p-q*k]? else vs[p]?:=by
  intro p;by_cases c1:p<q*k
  .grind
  .rw[bh c1];by_cases c2:p<q*k+m*k
   .grind
   .rw[bh c2,fh (by grind),pG];grind
 refine⟨by grind,λi hi=>?_,λi hi j c hj=>?_⟩
 .by_cases e:q<=i/\i<q+m
  .rw[bt e];exact b.width _ (by omega)
  .rw[bh e];exact h.width i hi
 .rw[a];by_cases e:q<=i/\i<q+m
  .rw[bt e]at hj;have d:j<k:=by have:=(b8.1 hj).1;rw[b.width _ (by omega)]at this;exact this
   have e1:q*k<=i*k:=dY k e.1;have e2:i*k+k<=q*k+m*k:=by rw[<-gU,<-j8];exact dY k e.2
   rw[bh (by omega),bt (by omega)];obtain⟨v,v1,o⟩:=b.rd (i-q) (by omega) j c hj;grind[Nat.sub_mul]
  .rw[bh e]at hj;have d:j<k:=by have:=(b8.1 hj).1;rw[h.width i hi]at this;exact this
   have:i*k+j<q*k∨q*k+m*k<=i*k+j:=by
    by_cases c1:i<q
    .left;have:i*k+k<=q*k:=by rw[<-j8];exact dY k c1
     omega
    .right;have:(q+m)*k<=i*k:=dY k (by omega);grind
   rcases this with c1|c1
   .rw[bt c1];exact h.rd i hi j _ hj
   .rw[bh (by omega),bh (by omega)];exact h.rd i hi j _ hj
def tA{E k':Nat}{d:Nat->List C}{β:List Loc}(g:Rd s.M v (.sl ab k' 0 d))(e:σ'[l]?=aa (.buf E k 0 es))(c:β[l]?=aa ⟨.slice af 0 0,[]⟩):fU σ' {s with β:=β} v (.bp l (.sl 0 k 0 0)):=by obtain⟨a,cap,vs,f,_,_,b,_,_⟩:=g.flat;have:=b rfl;subst this;refine⟨.slice af 0 0,⟨a,af,0,0,f,by omega,rfl,by omega,rfl,λh=>absurd h (by omega)⟩,(b8.1 e).1,λE2 k2 n2 yb h=>?_⟩;rw[e]at h;cases h;exact⟨aZ _,λ_=>⟨_,c,rfl⟩⟩
def ee.QX{β:List Loc}{es:Array Event}(h:ee {s with β:=β++[⟨v,[]⟩]} es)(a:s.β=β):ee s es:=by
 intro e c;have h1:=h e c;have key:∀b,(∃L∈β++[(⟨v,[]⟩:Loc)],b∈L.bs)->∃L∈s.β,b∈L.bs:=λb ⟨L,d,hb⟩=>by grind
 unfold nz at h1⊢;grind
def bx.EH{ie:TI}(h:kQ P o x y E ie){m:Nat}{tx:Bool}{es':Nat->List C}(r:η x=.e (.one (.c (.sl ab k 0 es))))(i:∀s v,dc σ s v (η y)->Rd s.M v (.sl tx ie.size m es'))(hb:(0+m)*ie.bytes<=140737488355328):
  bx P o η σ (.e (.one (.bp σ.length (.sl (0+m) ie.size 0 (0+m))))) (σ++[.buf E ie.size (0+m) (cD 0 es es')]):=by
 intro s p hh hr;have h1:=hr x;rw[r]at h1;have h2:=i s _ (hr y);obtain⟨n,u⟩:=hh.gC (B:=.buf E ie.size 0 es) (L:=⟨.slice af 0 0,[]⟩) (.refl _ _) rfl hh (.inl ⟨rfl,rfl⟩) (by simp);have b:fU (σ++[.buf E ie.size 0 es]) {s with β:=s.β++[⟨.slice af 0 0,[]⟩]} (p x) (.bp σ.length (.sl 0 ie.size 0 0)):=tA (E:=E) (es:=es) (fp h1) (by simp) (by simp[<-hh.len]);obtain⟨t,s',q,d,f,g,j⟩:=qu (P:=P) (σ:=σ++[.buf E ie.size 0 es]) (s:={s with β:=s.β++[⟨.slice af 0 0,[]⟩]}) (l:=σ.length) (es:=es) h n b (by simp) h2 hb;have a:(σ++[ba.buf E ie.size 0 es]).set σ.length (.buf E ie.size (0+m) (cD 0 es es'))=σ++[.buf E ie.size (0+m) (cD 0 es es')]:=by simp
 rw[a]at d f g;exact⟨t,s',q,d,f,u.trans g,j.QX rfl⟩
def EI(i j m:Nat)(es:Nat->List C):Nat->List C:=λq=>if i<=q/\q<i+m then es (j+(q-i))else es q
def bx.GD{ie:TI}(h:kQ P o x y E ie){m:Nat}(hx:η x=.e (.one (.bp l (.sl n ie.size 0 i))))(hy:η y=.e (.one (.bp l (.sl n ie.size j m))))(hl:σ[l]?=aa (.buf E ie.size n es))(Wq:i+m<=n)(XL:j+m<=n):
  bx P o η σ (.e (.one (.bp l (.sl n ie.size 0 (i+m))))) (σ.set l (.buf E ie.size n (EI i j m es))):=by
 intro s ρ hh hr;obtain⟨t,t2,ti,ti2,ho,hi,hd,N,O⟩:=h.op;have h1:=hr x;rw[hx]at h1;change fU σ s (ρ x) (.bp l _)at h1;have h2:=hr y;rw[hy]at h2;change fU σ s (ρ y) (.bp l _)at h2;obtain⟨lv,⟨a,a0,cap,C,hv,U,QD,Ud,EJ,Y⟩,_,TB⟩:=h1;obtain⟨L,hL,W⟩:=(TB _ _ _ _ hl).2 rfl;rw[EJ]at W;obtain⟨lv',⟨a',a0',f,c0',TC,Ue,XM,XN,Uf,XO⟩,_,Ug⟩:=h2;obtain⟨L',fC,H⟩:=(Ug _ _ _ _ hl).2 rfl;rw[hL]at fC;cases fC;rw[Uf,W]at H;cases H;have XP:=bD hL;have hu:=hi.run_underlying (w:=s.w);have K:=N.run_underlying (w:=s.w);rw[hd]at hu;rw[O]at K;rw[cW ho,hv,TC];by_cases Uh:n=0
 .have e1:i=0:=by omega
  have e2:m=0:=by omega
  subst Uh e1 e2;have N0:σ.set l (.buf E ie.size 0 (EI 0 j 0 es))=σ:=by
   have:EI 0 j 0 es=es:=by funext q;simp only[EI];grind
   rw[this];apply gR;grind
  have hz:Rd s.M (.slice a' 0 f) (.sl ae ie.size 0 λ_=>[]):=.sl 0 0 (λ_ _=>ah) (by omega) (by omega) (by simp) (λi hi=>by omega) (λh=>by omega) (λi hi=>by omega) (λi hi=>by omega);have G:=ix (P:=P) (ty:=o.type) hi hd N O h.elem hh (a:=a) U hz;rw[N0];refine⟨.value (.slice a 0 cap),s,?_,?_,hh,.refl _ _,dX (iU hi hd N O h.elem hh U hz)⟩
  .simp[G]
  .exact⟨lv,⟨a,a0,cap,C,rfl,U,QD,Ud,EJ,Y⟩,(b8.1 hl).1,TB⟩
 rcases hh.box l _ L hl hL with⟨e,_⟩|⟨b,c1,vs,V,rfl,g,XQ,XR,XS,Q,hM⟩
 .grind
 cases W;have J:0<cap:=by omega
 obtain⟨b1,e1,rfl⟩:=Y J;cases e1;have MZ:C=cap:=by omega
 subst MZ;rw[show b=b from rfl];have M3:vs.length=n*ie.size:=Q.len;have k:i+m<=C:=by omega
 have hik:i*ie.size+m*ie.size<=n*ie.size:=by rw[<-gU];exact dY _ Wq
 have XT:j*ie.size+m*ie.size<=n*ie.size:=by rw[<-gU];exact dY _ XL
 obtain⟨c1,c2⟩:=hh.yc (b:=b) (vs:=vs) hM (λq v F=>by
  simp only[aU,g]
  grind)
 let d:=(vs.drop (j*ie.size)).take (m*ie.size);have QE:d.length=m*ie.size:=by grind
 have XU:∀p,p<m*ie.size->d[p]?=vs[j*ie.size+p]?:=λp B=>by grind
 have Km:Flat s.M ie.size m (λq=>es (j+q)) d:=by
  refine⟨QE,λq F=>Q.width _ (by omega),λq F p c B=>?_⟩;have hpk:p<ie.size:=by have:=(b8.1 B).1;rw[Q.width _ (by omega)]at this;exact this
  obtain⟨v,v1,v2⟩:=Q.rd (j+q) (by omega) p c B;refine⟨v,?_,v2⟩;have XV:q*ie.size+ie.size<=m*ie.size:=by rw[<-j8];exact dY _ F
  grind
 have r:∀v∈d,v.oneCell'=ab:=Km.cell;have Z:Rd (λu q=>if u=b then vs[q]? else s.M u q) (.slice a' m f) (.sl ae ie.size m (Gq ie.size λq p=>vs.getD ((j+q)*ie.size+p) ah)):=by
  refine .sl b (j*ie.size) (λq p=>vs.getD ((j+q)*ie.size+p) ah) Ue (by omega) (by simp) (λq _=>by simp[Gq]) (λB=>?_) (λq F p c B=>?_) (λq F p c B=>?_)
  .grind
  .obtain⟨p1,_⟩:=oG B;have XV:q*ie.size+ie.size<=m*ie.size:=by rw[<-j8];exact dY _ F
   grind
  .obtain⟨p1,rfl⟩:=oG B;obtain⟨c',Ui⟩:∃c',(es (j+q))[p]?=aa c':=⟨_,bd (by rw[Q.width _ (by omega)];exact p1)⟩
   obtain⟨v,v1,v2⟩:=Q.rd (j+q) (by omega) p c' Ui;have e:vs.getD ((j+q)*ie.size+p) ah=v:=by grind
   rw[e];exact .val v2.cell
 obtain⟨z,QY,hf,I⟩:=dE (P:=P) (s:={s with M:=λu q=>if u=b then vs[q]? else s.M u q}) c1 Z;have XW:z=d:=by
  apply gR;intro p;have Dk:z.length=m*ie.size:=QY.len;by_cases B:p<m*ie.size
  .have hk:0<ie.size:=by grind
   have F:p / ie.size<m:=rv (by grind);have X:p / ie.size*ie.size+p % ie.size=p:=oz p ie.size;obtain⟨v,v1,v2⟩:=QY.rd _ F (p % ie.size) _ (BI (jy _ hk));rw[X]at v1;rw[v1,XU p B,Rd.eW v2];rw[gU,Nat.add_assoc,X,ai,bd (by omega)];rfl
  grind
 subst XW;have Kw:=gy (P:=P) (s:={s with M:=λu q=>if u=b then vs[q]? else s.M u q}) c1 Z (w:=s.w) rfl;replace hf:(Builtin.firstCells ie.size m (.slice a' m f)).run P s.w=.ok d.toArray s.w:=hf;have XX:i*ie.size+d.length<=(vs++V).length:=by grind
 have D:=run_storeCells_at P b (i*ie.size) E d 0 (vs++V).toArray s.w g (by grind) r;simp only[gT]at D;have N1:((vs++V).toArray.toList.take (i*ie.size)++d++(vs++V).toArray.toList.drop (i*ie.size+d.length))=vs.take (i*ie.size)++d++vs.drop (i*ie.size+d.length)++V:=by grind
 rw[N1]at D;have q2:=Q.QW Km Wq;have he:(λq=>if i<=q/\q<i+m then(λq=>es (j+q)) (q-i)else es q)=EI i j m es:=rfl;rw[he]at q2;obtain⟨t1,XY⟩:=hh.dL hl hL XQ XR XS g q2 (by grind) hM;have A:(Builtin.lenOf (.slice a' m f)).run P s.w=.ok m s.w:=by rw[I];rfl
 have R:(Builtin.lenOf (.slice a' m f)).events P s.w #[]=#[]:=by rw[I];rfl
 refine⟨.value (.slice (aa ⟨b,0*ie.size,af⟩) (i+m) C),_,?_,?_,t1,XY,dX ?_⟩
 .have G:(Builtin.append_ #[t,t2] o.type #[.slice (aa ⟨b,0*ie.size,af⟩) i C,.slice a' m f]).run P s.w=.ok (.slice (aa ⟨b,0*ie.size,af⟩) (i+m) C) (s.w.setRow b (vs.take (i*ie.size)++d++vs.drop (i*ie.size+d.length)++V).toArray):=by unfold Builtin.append_;simp only[gO,j4,mF,bL,hu,K,b6,h.elem.run_sizeOf,cK,gb,bJ,A,k,bZ,lu,hf,dh,Nat.zero_mul,bo,D]
  grind[Go.Sem.run_bind,Go.Result.andThen_ok,Go.Sem.run_pure]
 .exact⟨.slice (aa ⟨b,0,af⟩) 0 C,⟨_,_,C,C,rfl,k,by omega,Ud,rfl,λ_=>⟨b,rfl,rfl⟩⟩,by grind,λE2 k2 n2 yb M4=>by rw[fJ (b8.1 hl).1]at M4;cases M4;exact⟨aZ _,λ_=>⟨_,hL,rfl⟩⟩⟩
 .intro e S;unfold Builtin.append_ at S;simp only[gO,j4,mF,aJ,bL,hu,K,aO,h.elem.run_sizeOf,cK,gb,bJ,A,R,k,bZ,lu,hf,dh,Nat.zero_mul,bo,D,
   qt,Sem.events_ite,events_underlying,events_sizeOf,Sem.events_pure]at S
  rcases dW d 0 (vs++V).toArray s.w _ g (by grind) r e S with h3|⟨p,_,_,rfl⟩
  .have h4:ee {s with M:=λu q=>if u=b then vs[q]? else s.M u q} #[e]:=ee.one (ry (Kw e h3))
   exact h4.tZ (b:=b) XP (by simp) c2 (λu q v hv=>by grind) e (by simp)
  grind[ky]
section
variable {T:List (Nat×TI)}
theorem bx.slice3B(H:c6 P T){w z:aC}(h:o.op=.slice t x (aa w) (aa y) (aa z)){D ie:TI}(F:bz T t=aa D)(R:D.desc=.slice E)(M:bz T E=aa ie){g q:Nat}{s v u:IntKind}{i j m:Int}(K:η x=.e (.one (.bp l (.sl g k q n))))(V:η w=.e (.one (.c (.int s i))))(O:η y=.e (.one (.c (.int v j))))(Q:η z=.e (.one (.c (.int u m))))(W:0<=i)(h1:i<=j)(h2:j<=m)(X:m<=n):bx P o η σ (.e (.one .any)) σ:=by
 refine .quiet λst ρ hh hr=>?_;have r:=hr x;rw[K]at r;change fU σ st (ρ x) (.bp l _)at r;obtain⟨lv,⟨a,a0,cap,Y,G,N,S,J,U,I⟩,_,_⟩:=r;have p:=hr w;rw[V]at p;replace p:=fp p;generalize A:ρ w=vw at p;cases p;have f:=hr y;rw[O]at f;replace f:=fp f;generalize C:ρ y=vy at f;cases f;have d:=hr z;rw[Q]at d;replace d:=fp d;generalize B:ρ z=vz at d;cases d;have b:=(H t D F).run_underlying (w:=st.w);rw[R]at b;have hb:(Instr.sliceBounds ab n cap (aa (.int s i)) (aa (.int v j)) (aa (.int u m))).run P st.w=.ok (i.toNat,j.toNat,m.toNat) st.w:=by simp[Instr.sliceBounds,run_sliceBound (P:=P) st.w u m cap _ (by omega) (by omega),run_sliceBound (P:=P) st.w v j m.toNat _ (by omega) (by omega),run_sliceBound (P:=P) st.w s i j.toNat _ (by omega) (by omega)]
 have L:(Instr.sliceBounds ab n cap (aa (.int s i)) (aa (.int v j)) (aa (.int u m))).events P st.w #[]=#[]:=by
  simp[Instr.sliceBounds,run_sliceBound (P:=P) st.w u m cap _ (by omega) (by omega),run_sliceBound (P:=P) st.w v j m.toNat _ (by omega) (by omega),run_sliceBound (P:=P) st.w s i j.toNat _ (by omega) (by omega),
   en (P:=P) st.w u m cap _ (by omega) (by omega),en (P:=P) st.w v j m.toNat _ (by omega) (by omega),en (P:=P) st.w s i j.toNat _ (by omega) (by omega)]
 refine⟨.slice (if m.toNat=i.toNat then a else a.map (·.add (i.toNat*ie.size))) (j.toNat-i.toNat) (m.toNat-i.toNat),?_,rfl,by simp[aq,h,G,A,C,B,Instr.sliceAt,b,Instr.slice,hb,L]⟩;simp[aq,h,G,A,C,B,Instr.sliceAt,b,Instr.slice,hb,(H E ie M).run_sizeOf]
end
section drop
variable {σ1 rest:List ba}
def St.cut(s:St)(n:Nat):St:={s with β:=s.β.take n}
def fU.drop{a:A}(r:fU (σ1++rest) s v a)(d:EN σ1.length a=ab):fU σ1 (s.cut σ1.length) v a:=by
 have lt:∀{l:Nat},bn (l+1) σ1.length=ab->l<σ1.length:=λh=>dy h;cases a with
 |c x=>exact r
 |any=>exact r
 |ptr l o =>
  have hl:=lt d;obtain⟨f,L,b,i,g⟩:=r;refine⟨λB j=>f B (by grind),L,b,?_,g⟩;simp only[St.cut,ig,hl,bZ];exact i
 |ref l =>
  have hl:=lt d;obtain⟨f,L,i,g⟩:=r;refine⟨λB j=>f B (by grind),L,?_,g⟩;simp only[St.cut,ig,hl,bZ];exact i
 |bp l w =>
  have hl:=lt d;obtain⟨lv,f,_,g⟩:=r;refine⟨lv,f,hl,λE k' n' es' j=>?_⟩;obtain⟨h1,h2⟩:=g E k' n' es' (by grind);refine⟨h1,λe=>?_⟩;obtain⟨L,p,m⟩:=h2 e;refine⟨L,?_,m⟩;simp only[St.cut,ig,hl,bZ];exact p
 |vec l k n es =>
  have hl:=lt d;obtain⟨f,_,g⟩:=r;refine⟨f,hl,λE k' n' es' j=>?_⟩;obtain⟨h1,h2⟩:=g E k' n' es' (by grind);refine⟨h1,λe=>?_⟩;obtain⟨L,p,m⟩:=h2 e;refine⟨L,?_,m⟩;simp only[St.cut,ig,hl,bZ];exact p
def dH.wz:∀{vs:List aj}{cs:List A},dH (σ1++rest) s vs cs->Dv σ1.length cs=ab->dH σ1 (s.cut σ1.length) vs cs
 |[],[],_,_=>trivial
 |[],_::_,r,_=>r.elim
 |_::_,[],r,_=>r.elim
 |v::vs,c::cs,r,h=>by
  simp only[Dv]at h;cases a:EN σ1.length c with
  |false=>grind
  |true=>simp only[a]at h;exact⟨r.1.drop a,dH.wz r.2 h⟩
def mE.wz{v:aj}{e:E1}(r:mE (σ1++rest) s v e)(h:GP σ1.length e=ab):mE σ1 (s.cut σ1.length) v e:=by
 cases e with
 |one a=>exact fU.drop r h
 |agg cs=>obtain⟨vs,h1,h2⟩:=r;exact⟨vs,h1,dH.wz h2 h⟩
def gn.wz:∀{vs:List aj}{cs:List E1},gn (σ1++rest) s vs cs->wo σ1.length cs=ab->gn σ1 (s.cut σ1.length) vs cs
 |[],[],_,_=>trivial
 |[],_::_,r,_=>r.elim
 |_::_,[],r,_=>r.elim
 |v::vs,c::cs,r,h=>by
  simp only[wo]at h;cases a:GP σ1.length c with
  |false=>grind
  |true=>simp only[a]at h;exact⟨mE.wz r.1 a,gn.wz r.2 h⟩
def dc.drop{d:D}(r:dc (σ1++rest) s v d)(h:uh σ1.length d=ab):dc σ1 (s.cut σ1.length) v d:=by
 cases d with
 |e x=>exact mE.wz r h
 |fe xs=>obtain⟨vs,h1,h2⟩:=r;exact⟨vs,h1,gn.wz h2 h⟩
 |any=>trivial
def cJ.drop{σ0:List ba}{s0:St}(st:cJ σ0 s0 (σ1++rest) s)(c:σ0.length<=σ1.length):cJ σ0 s0 σ1 (s.cut σ1.length):=by refine⟨st.size,st.keep,st.mem,st.iq,λL a b hb=>st.tB L (jr a) b hb,?_,st.os,st.tape,st.output,st.own⟩;intro l B L d a;obtain⟨B',L',h1,h2,e⟩:=st.box l B L d a;have hl:l<σ1.length:=cA (b8.1 d).1 c;rw[jq hl]at h1;exact⟨B',L',h1,by simp only[St.cut,ig,hl,bZ];exact h2,e⟩
def fU.qG{a:A}(hl:s.β.length=σ.length)(r:fU σ s v a):EN σ.length a=ab:=by
 have ok:∀{l:Nat},l<σ.length->bn (l+1) σ.length=ab:=λh=>qf h;have lt:∀{l:Nat} {L:Loc},s.β[l]?=aa L->l<σ.length:=λh=>by grind
 cases a with
 |c x=>rfl
 |any=>rfl
 |ptr l o=>obtain⟨_,L,b,d,_⟩:=r;exact ok (lt d)
 |ref l=>obtain⟨_,L,d,_⟩:=r;exact ok (lt d)
 |bp l w=>obtain⟨lv,_,h,_⟩:=r;exact ok h
 |vec l k n es=>exact ok r.2.1
def dH.qG{σ:List ba}(hl:s.β.length=σ.length):∀{vs:List aj}{cs:List A},dH σ s vs cs->Dv σ.length cs=ab
 |[],[],_=>rfl
 |[],_::_,r=>r.elim
 |_::_,[],r=>r.elim
 |v::vs,c::cs,r=>by simp only[Dv,r.1.qG hl];exact dH.qG hl r.2
def mE.qG{σ:List ba}(hl:s.β.length=σ.length){v:aj}{e:E1}(r:mE σ s v e):GP σ.length e=ab:=by
 cases e with
 |one a=>exact fU.qG hl r
 |agg cs=>obtain⟨vs,_,h⟩:=r;exact dH.qG hl h
def gn.qG{σ:List ba}(hl:s.β.length=σ.length):∀{vs:List aj}{cs:List E1},gn σ s vs cs->wo σ.length cs=ab
 |[],[],_=>rfl
 |[],_::_,r=>r.elim
 |_::_,[],r=>r.elim
 |v::vs,c::cs,r=>by simp only[wo,mE.qG hl r.1];exact gn.qG hl r.2
def dc.qG{σ:List ba}(hl:s.β.length=σ.length){v:aj}{d:D}(r:dc σ s v d):uh σ.length d=ab:=by
 cases d with
 |e x=>exact mE.qG hl r
 |fe xs=>obtain⟨vs,_,h⟩:=r;exact gn.qG hl h
 |any=>rfl
def Oh(n:Nat)(σ0:List ba)(l:Nat)(B:ba):Prop:=(∃E cs,B=.cells E cs/\Dv n cs=ab)∨σ0[l]?=aa B∨(∃N φ r r',B=.loop N φ r/\σ0[l]?=aa (.loop N φ r'))∨((∀E cs,B≠.cells E cs)/\∀N φ r,B≠.loop N φ r)
def aD.Rm{s0:St}{σ0:List ba}(i:aD σ0 s0)(a:σ0.length=σ1.length)(v:∀(l:Nat)(B:ba),σ1[l]?=aa B->Oh σ1.length σ0 l B)(h:aD (σ1++rest) s):aD σ1 (s.cut σ1.length):=by
 have hl:σ1.length<=s.β.length:=by rw[h.len];simp
 refine⟨h.mem,by simp[St.cut,hl],?_,?_,?_,λb hb=>⟨(h.own b hb).1,λL d=>(h.own b hb).2 L (jr d)⟩⟩
 .intro l B L o d;have j:l<σ1.length:=(b8.1 o).1;simp only[St.cut,ig,j,bZ]at d;have c:=h.box l B L (by grind) d;have f:∃m,s0.β[l]?=aa m:=⟨_,bd (by rw[i.len,a];exact j)⟩
  obtain⟨m,f⟩:=f;have z:=i.len.trans a;cases B with
  |cells E cs =>
   obtain⟨b,vs,h1,h2,u,p⟩:=c;refine⟨b,vs,h1,h2,dH.wz u ?_,p⟩;rcases v l _ o with⟨_,_,e,q⟩|q|⟨_,_,_,_,e,_⟩|q
   .grind
   .obtain⟨_,_,_,_,A,_⟩:=i.box l _ m q f;exact a▸A.qG i.len
   .cases e
   grind
  |vec E k n es=>exact c
  |cp H=>exact c
  |dead=>trivial
  |loop N φ r =>
   obtain⟨l',tmps,fn,w,h1,h2,u,p,x⟩:=c;have key:∃r',σ0[l]?=aa (.loop N φ r'):=by
    rcases v l _ o with⟨_,_,e,_⟩|q|⟨_,_,_,r',e,q⟩|q
    .cases e
    .grind
    .grind
    grind
   obtain⟨r',q⟩:=key;obtain⟨_,_,_,_,_,_,_,y,_⟩:=i.box l _ m q f;exact⟨l',tmps,fn,w,h1,h2,u,λt=>(p t).drop (a▸(y t).qG i.len),x⟩
  |pK=>exact c
  |buf E k n es=>exact c
 .intro l l' L L' d g b hb oH;simp only[St.cut,ig]at d g;split at d<;>split at g<;>first|exact h.eH l l' L L' d g b hb oH|grind|grind
 .intro L d b hb;exact h.lt L (jr d) b hb
def aD.Rn{s0:St}(a:aD σ1 s0)(h:aD (σ1++rest) s):aD σ1 (s.cut σ1.length):=a.Rm rfl (λ_ _ h=>.inr (.inl h)) h
def OA.Ro{X:Cx P}(h:OA X N all o φ σ (.e (.one (.vec σ.length k n es))) (σ++[.vec E k n es])):OA X N all o φ σ (.e (.one (.c (.sl ae k n es)))) σ:=by
 intro s a f hh b kk cs S i rest hb hi hK;refine h s a f hh b kk cs S i rest hb hi λv s' hv iQ st=>?_;have d:ey s' (s'.cut σ.length):=⟨rfl,λ_ _ _ h=>h,λ_ _ _=>rfl,iQ.mem,λb hb=>hb.imp id λ⟨L,g,hb⟩=>⟨L,jr g,hb⟩⟩
 exact .ghost d (hK v (s'.cut σ.length) hv.1 (hh.Rn iQ) (st.drop (aZ _)))
end drop
end Go.AM
