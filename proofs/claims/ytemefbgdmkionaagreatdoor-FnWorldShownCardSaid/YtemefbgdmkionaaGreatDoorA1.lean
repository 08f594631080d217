/- Part 1. No condition. -/
import Derived.Tactics2
import Derived.Conc.Own
import Derived.Conc.Events
import Derived.Conc.Listed
import Derived.Laws.CopyRow
import Derived.Laws.AppendOwn
import Derived.Laws.Rows
import Derived.Laws.Strings
import Derived.Laws.Cells
import Derived.Lib.Strings
import Derived.Laws.Slices
import Derived.Orders
import Derived.Laws.StructEq
set_option linter.all false
set_option maxHeartbeats 8000000
open Go renaming Value → ak
open Option renaming some → aa
open Go renaming Program → aq
open Go renaming TypeId → ar
open Bool renaming true → ab
open Go renaming Goroutine → au
open Go renaming Frame → aO
open Go renaming Oper → aw
open Go renaming FuncId → aV
open Go.Region renaming wanted → bj
open Go renaming execOp → ay
open Go renaming Operand → an
open Option renaming none → af
open Bool renaming false → ae
open Go renaming undef → aj
open Go.World renaming cell? → aZ
open List renaming getD_eq_getElem?_getD → ai
open Go.Sem renaming events_bind → aP
open Go.Result renaming evThen_ok → aU
open Go renaming World → az
open Go renaming stepG → aK
open List renaming range → bh
open Nat renaming beq → aA
open Nat renaming ble → bq
open Go.Region renaming ready → ba
open Go.Op renaming bytesLess → bk
namespace Go
section
set_option linter.defProp false
set_option linter.deprecated false
def av:=@_root_.trivial
def bl:=@_root_.List.getElem?_eq_getElem
def bd:=@_root_.decide_eq_true_eq
def aF:=@_root_.and_true
def aG:=@_root_.true_and
def bt:=@_root_.Int.toNat_natCast
def bR:=@_root_.decide_eq_false_iff_not
def bM:=@_root_.List.mem_of_getElem?
def bT:=@_root_.Nat.eq_of_beq_eq_true
def cg:=@_root_.List.getElem?_eq_some_iff
def bc:=@_root_.Nat.le_refl
def bG:=@_root_.List.length_append
def br:=@_root_.Nat.zero_add
def bO:=@_root_.Bool.and_eq_true
def b7:=@_root_.Go.Result.andThen_ok
def dn:=@_root_.Array.getD_eq_getD_getElem?
def bY:=@_root_.List.take_length
def c7:=@_root_.Nat.le_of_ble_eq_true
def cC:=@_root_.Nat.lt_of_lt_of_le
def bS:=@_root_.Go.Sem.run_bind
def aY:=@_root_.if_neg
def ck:=@_root_.decide_eq_true
def dv:=@_root_.beq_eq_false_iff_ne
def de:=@_root_.Option.some.injEq
def bg:=@_root_.if_pos
def eh:=@_root_.List.length_singleton
def gf:=@_root_.List.eq_nil_of_length_eq_zero
def dX:=@_root_.List.getElem_of_mem
def ei:=@_root_.Nat.mul_le_mul_right
def cx:=@_root_.Nat.lt_or_ge
def eX:=@_root_.List.getElem?_set_self
def fQ:=@_root_.Array.getElem?_eq_getElem
def gg:=@_root_.List.getElem?_append_right
def cW:=@_root_.Go.Sem.run_pure
def ef:=@_root_.beq_self_eq_true
def ig:=@_root_.Array.getElem?_eq_some_iff
def fE:=@_root_.List.getElem?_set_ne
def dY:=@_root_.decide_eq_false
def b5:=@_root_.if_false
def dF:=@_root_.Bool.true_and
def eQ:=@_root_.List.length_cons
def fi:=@_root_.not_true_eq_false
def jf:=@_root_.List.getElem?_append_left
def fG:=@_root_.Option.getD_some
def iH:=@_root_.List.getElem?_toArray
def gQ:=@_root_.List.getElem?_take
def iI:=@_root_.List.mem_of_mem_take
def cj:=@_root_.if_true
def ez:=@_root_.Nat.le_trans
def fR:=@_root_.List.mem_append
def iJ:=@_root_.Array.length_toList
def kU:=@_root_.List.pairwise_iff_getElem
def eY:=@_root_.List.mem_cons
def ij:=@_root_.List.append_assoc
def gA:=@_root_.List.length_nil
def kV:=@_root_.List.getElem?_cons_zero
def fH:=@_root_.Bool.not_true
def j0:=@_root_.List.take_append_drop
def j1:=@_root_.List.length_filter_le
def iK:=@_root_.List.ext_getElem?
def di:=@_root_.congrArg
def jg:=@_root_.Bool.not_eq_true'
def ik:=@_root_.List.append_nil
def jB:=@_root_.Bool.false_eq_true
def mM:=@_root_.Array.getElem?_replicate
def jC:=@_root_.List.foldl_append
def mN:=@_root_.List.getElem?_cons_succ
def sI:=@_root_.Array.getElem?_setIfInBounds_self_of_lt
def jh:=@_root_.Nat.not_lt_zero
def ji:=@_root_.List.foldl_cons
def j3:=@_root_.List.take_add_one
def lH:=@_root_.List.mem_iff_getElem
def kW:=@_root_.List.mem_singleton
def qo:=@_root_.Array.getElem?_setIfInBounds_ne
def gh:=@_root_.Nat.zero_le
def kX:=@_root_.bne_self_eq_false
def gB:=@_root_.Nat.add_mul
def j4:=@_root_.Option.map_some
def iL:=@_root_.Nat.beq_refl
def iM:=@_root_.Nat.add_zero
def j5:=@_root_.Bool.not_false
def kY:=@_root_.List.length_map
def qp:=@_root_.Array.mapM_eq_mapM_toList
def gR:=@_root_.beq_iff_eq
def mO:=@_root_.List.length_drop
def oM:=@_root_.Array.toArray_toList
def vm:=@_root_.List.findIdx?_eq_some_iff_getElem
def cT:=@_root_.ne_eq
def kZ:=@_root_.Prod.mk.injEq
def j6:=@_root_.Nat.succ_mul
def nF:=@_root_.List.getElem?_map
def mP:=@_root_.Bool.or_eq_true
def qq:=@_root_.List.getElem?_eq_none
def nG:=@_root_.Option.bind_some
def oN:=@_root_.Nat.eq_zero_or_pos
def nH:=@_root_.List.getElem_mem
def oO:=@_root_.List.getElem?_drop
def oP:=@_root_.List.filter_append
def j7:=@_root_.decide_true
def mQ:=@_root_.List.mapM_cons
def hJ:=@_root_.Nat.mod_lt
def hO:=@_root_.Array.ext'
def nI:=@_root_.List.flatMap_append
def py:=@_root_.Option.map_eq_some_iff
def jD:=@_root_.Nat.mul_comm
def mc:=@_root_.Bool.not_eq_true
def nJ:=@_root_.Nat.add_sub_cancel
def md:=@_root_.List.mem_filter
def me:=@_root_.List.map_append
def nK:=@_root_.not_false_eq_true
def pz:=@_root_.Nat.div_lt_of_lt_mul
def qR:=@_root_.Nat.lt_succ_iff_lt_or_eq
def qS:=@_root_.Nat.le_mul_of_pos_right
def ll:=@_root_.Nat.sub_zero
def ln:=@_root_.Nat.add_comm
def qT:=@_root_.List.take_of_length_le
def nL:=@_root_.Bool.eq_iff_iff
def mf:=@_root_.Nat.add_assoc
def qU:=@_root_.Nat.ble_eq_true_of_le
def qV:=@_root_.Bool.and_eq_false_iff
def gd:=@_root_.true_or
def ky:=@_root_.Nat.not_lt
def uH:=@_root_.Array.toList_setIfInBounds
def mg:=@_root_.decide_false
def pA:=@_root_.Nat.div_add_mod'
def mh:=@_root_.List.mem_map
def pC:=@_root_.List.ext_getElem
def uI:=@_root_.List.findIdx?_eq_none_iff
def pD:=@_root_.UInt8.toNat_inj
def pE:=@_root_.List.length_set
def lq:=@_root_.bne_iff_ne
def qW:=@_root_.Int.emod_lt_of_pos
def qX:=@_root_.Bool.not_eq_false'
def uJ:=@_root_.Nat.add_sub_cancel_left
def pF:=@_root_.Bool.false_and
def uK:=@_root_.Array.getElem?_eq_none
def uL:=@_root_.Array.mem_of_getElem?
def uM:=@_root_.Array.getElem?_toList
def qY:=@_root_.List.not_mem_nil
def qZ:=@_root_.List.filter_cons
def q8:=@_root_.List.drop_length
def uN:=@_root_.List.mem_cons_of_mem
def ra:=@_root_.Option.some.inj
def rb:=@_root_.Int.emod_nonneg
def uO:=@_root_.Nat.mul_le_mul_left
def uP:=@_root_.List.filter_eq_self
def uQ:=@_root_.Int.toNat_of_nonneg
def pG:=@_root_.Nat.sub_self
def rf:=@_root_.List.mem_range
def uR:=@_root_.List.mem_cons_self
def y9:=@_root_.List.drop_eq_getElem_cons
def uS:=@_root_.List.getElem?_set
def za:=@_root_.List.set_eq_of_length_le
def rh:=@_root_.List.map_cons
def pH:=@_root_.Go.Sem.run_ite
def uT:=@_root_.List.drop_append
def zb:=@_root_.List.range_succ_eq_map
def zc:=@_root_.List.drop_eq_nil_of_le
def uU:=@_root_.List.nil_append
def zd:=@_root_.List.contains_iff_mem
def ze:=@_root_.Array.getElem?_modify
def nN:=@_root_.and_self
def zf:=@_root_.Nat.pow_le_pow_right
def ri:=@_root_.Nat.one_mul
def zg:=@_root_.List.mem_of_mem_drop
def mi:=@_root_.Ne.symm
def zh:=@_root_.Nat.add_sub_cancel'
def zi:=@_root_.List.flatten_append
end
end Go
namespace Go.AM
inductive C where
  | int (k:IntKind) (n:Int)
  | bool (b:Bool)
  | str (s:List UInt8)
  | sl (tight:Bool) (k n:Nat) (es:Nat->List C)
  | rp (cs:List C)
  | l9
  | ifs (t:ar) (c:C)
  | Ji (t:ar) (cs:List C)
  | nU
  | fn (f:Fn) (first cap:List C)
  | zq
  | val (x:ak)
inductive BP where
  | sl (g k o n:Nat)
  | el (g k i f:Nat)
def BP.g:BP->Nat
  | .sl g _ _ _=>g
  | .el g _ _ _=>g
def BP.K:BP->ak->ak->Prop
  | .sl _ k o n,lv,v=>∃ a a0 cap c0,v=.slice a n cap/\n<=cap/\o+cap=c0/\c0<=9223372036854775807/\lv=.slice a0 0 c0/\(0<cap->∃ b,a0=aa ⟨b,0,af⟩/\a=aa ⟨b,o*k,af⟩)
  | .el _ k i f,lv,v=>∃ b c0,lv=.slice (aa ⟨b,0,af⟩) 0 c0/\v=.pointer (aa ⟨b,i*k+f,af⟩)
inductive A where
  | c (x:C)
  | ptr (l off:Nat)
  | vec (l k n:Nat) (es:Nat->List C)
  | ref (l:Nat)
  | bp (l:Nat) (w:BP)
  | any
abbrev A.v (x:ak):A:=.c (.val x)
inductive E1 where
  | one (a:A)
  | agg (cs:List A)
inductive D where
  | e (x:E1)
  | eN (xs:List E1)
  | any
abbrev Fr:=List (Nat×D)
def look:Fr->Nat->D
  | [],_=>.any
  | (i,d)::r,t=>cond (aA i t) d (look r t)
inductive aW where
  | cells (E:ar) (cs:List A)
  | vec (E:ar) (k n:Nat) (es:Nat->List C)
  | dz (H:ak->(Nat->Option Obj)->Prop)
  | dead
  | loop (N:Nat) (φ:Fr) (r:Loop)
  | rq
  | buf (E:ar) (k n:Nat) (es:Nat->List C)
@[simp] def aW.gr:aW->Bool
  | .vec _ _ _ _=>ab
  | .buf _ _ _ _=>ab
  | _=>ae
structure Loc where
  v:ak
  bs:List Nat
abbrev Mem:=Nat->Nat->Option ak
structure St where
  β:List Loc
  M:Mem
  w:az
  own:Nat->Prop
def bx:IntKind->Int->Prop
  | .i8,n=>-128<=n/\n<=127
  | .i16,n=>-32768<=n/\n<=32767
  | .i32,n=>-2147483648<=n/\n<=2147483647
  | .i64,n=>-9223372036854775808<=n/\n<=9223372036854775807
  | .u8,n=>0<=n/\n<=255
  | .u16,n=>0<=n/\n<=65535
  | .u32,n=>0<=n/\n<=4294967295
  | .u64,n=>0<=n/\n<=18446744073709551615
def cX:ak->Bool
  | .agg _|.tuple _=>ae
  | _=>ab
def BP.K.cell {w:BP} {lv v:ak} (h:w.K lv v):cX v=ab:=by
  cases w with
  | sl=>obtain⟨_,_,_,_,rfl,_⟩:=h;rfl
  | el=>obtain⟨_,_,_,rfl⟩:=h;rfl
inductive Rd (M:Mem):ak->C->Prop
  | int {k:IntKind} {n:Int} (h:bx k n):Rd M (.int k n) (.int k n)
  | bool {b:Bool}:Rd M (.bool b) (.bool b)
  | str {s:ByteArray} {l:List UInt8} (h:s.data.toList=l) (hl:l.length<=9223372036854775807):Rd M (.string s) (.str l)
  | sl {a:Option Addr} {n cap:Nat} {tight:Bool} {k:Nat} {es:Nat->List C} (b off:Nat) (f:Nat->Nat->ak)
      (Dy:n<=cap) (hb:cap<=9223372036854775807) (ht:tight=ab->cap=n) (hk:∀ i,i<n->(es i).length=k)
      (ha:0<n->a=aa ⟨b,off,af⟩)
      (hm:∀ i,i<n->∀ j c,(es i)[j]?=aa c->M b (off+i*k+j)=aa (f i j))
      (hr:∀ i,i<n->∀ j c,(es i)[j]?=aa c->Rd M (f i j) c):Rd M (.slice a n cap) (.sl tight k n es)
  | rp {cs:List C} (b off:Nat) (f:Nat->ak)
      (hm:∀ j c,cs[j]?=aa c->M b (off+j)=aa (f j))
      (hr:∀ j c,cs[j]?=aa c->Rd M (f j) c):Rd M (.pointer (aa ⟨b,off,af⟩)) (.rp cs)
  | l9:Rd M (.pointer af) .l9
  | ifs {t:ar} {v:ak} {c:C} (h:Rd M v c) (hc:cX v=ab):Rd M (.iface t v) (.ifs t c)
  | Ji {t:ar} {vs:List ak} {cs:List C} (hl:vs.length=cs.length)
      (f:Nat->ak) (hf:∀ j,j<vs.length->vs[j]?=aa (f j)) (hr:∀ j c,cs[j]?=aa c->Rd M (f j) c):Rd M (.iface t (.agg vs.toArray)) (.Ji t cs)
  | nU:Rd M .nilIface .nU
  | fn {g:Fn} {first cap:List C} (fs cs:List ak) (hl:fs.length=first.length) (A8:cs.length=cap.length) (f1 f2:Nat->ak)
      (h1:∀ j,j<fs.length->fs[j]?=aa (f1 j)) (h2:∀ j,j<cs.length->cs[j]?=aa (f2 j))
      (r1:∀ j c,first[j]?=aa c->Rd M (f1 j) c) (r2:∀ j c,cap[j]?=aa c->Rd M (f2 j) c):Rd M (.func g fs.toArray cs.toArray) (.fn g first cap)
  | zq:Rd M .nilFunc .zq
  | val {x:ak} (h:cX x=ab):Rd M x (.val x)
def Rd.fX {M:Mem} {v x:ak} (h:Rd M v (.val x)):v=x:=by cases h;rfl
def Rd.cell {M:Mem} {v:ak} {c:C} (h:Rd M v c):cX v=ab:=by cases h <;> first|rfl|assumption
def Rd.mono {M M':Mem} (d:∀ b o v,M b o=aa v->M' b o=aa v) {v:ak} {c:C} (h:Rd M v c):Rd M' v c:=by
  induction h with
  | int h=>exact .int h
  | bool=>exact .bool
  | str h hl=>exact .str h hl
  | sl b off f a hb ht hk ha hm hr ih =>
    exact .sl b off f a hb ht hk ha (λi hi j c hj=>d _ _ _ (hm i hi j c hj)) (λi hi j c hj=>ih i hi j c hj)
  | rp b off f hm hr ih=>exact .rp b off f (λj c hj=>d _ _ _ (hm j c hj)) (λj c hj=>ih j c hj)
  | l9=>exact .l9
  | ifs h g ih=>exact .ifs ih g
  | Ji hl f e hr ih=>exact .Ji hl f e (λj c hj=>ih j c hj)
  | nU=>exact .nU
  | fn fs cs hl A8 f1 f2 h1 h2 r1 r2 ih1 ih2=>exact .fn fs cs hl A8 f1 f2 h1 h2 (λj c hj=>ih1 j c hj) (λj c hj=>ih2 j c hj)
  | zq=>exact .zq
  | val h=>exact .val h
def gu (σ:List aW) (s:St) (v:ak):A->Prop
  | .c x=>Rd s.M v x
  | .ptr l off=>(∀ B,σ[l]?=aa B->B.gr=ae)/\∃ L b,s.β[l]?=aa L/\L.v=.pointer (aa ⟨b,0,af⟩)/\v=.pointer (aa ⟨b,off,af⟩)
  | .vec l k n es=>Rd s.M v (.sl ae k n es)/\l<σ.length/\∀ E k' n' es',σ[l]?=aa (aW.vec E k' n' es')->n<=n'/\(n'=n->∃ L,s.β[l]?=aa L/\v=L.v)
  | .ref l=>(∀ B,σ[l]?=aa B->B.gr=ae)/\∃ L,s.β[l]?=aa L/\v=L.v/\cX v=ab
  | .bp l w=>∃ a,w.K a v/\l<σ.length/\∀ E k n es,σ[l]?=aa (aW.buf E k n es)->w.g<=n/\(w.g=n->∃ L,s.β[l]?=aa L/\L.v=a)
  | .any=>cX v=ab
def dG (σ:List aW) (s:St):List ak->List A->Prop
  | [],[]=>True
  | v::vs,a::al=>gu σ s v a/\dG σ s vs al
  | _,_=>False
def ma (σ:List aW) (s:St) (v:ak):E1->Prop
  | .one a=>gu σ s v a
  | .agg cs=>∃ vs:List ak,v=.agg vs.toArray/\dG σ s vs cs
def gD (σ:List aW) (s:St):List ak->List E1->Prop
  | [],[]=>True
  | v::vs,a::al=>ma σ s v a/\gD σ s vs al
  | _,_=>False
def c8 (σ:List aW) (s:St) (v:ak):D->Prop
  | .e x=>ma σ s v x
  | .eN xs=>∃ vs:List ak,v=.tuple vs.toArray/\gD σ s vs xs
  | .any=>True
def cv (σ:List aW) (s:St):List ak->List D->Prop
  | [],[]=>True
  | v::vs,a::al=>c8 σ s v a/\cv σ s vs al
  | _,_=>False
structure Flat (M:Mem) (k n:Nat) (es:Nat->List C) (vs:List ak):Prop where
  len:vs.length=n*k
  width:∀ i,i<n->(es i).length=k
  rd:∀ i,i<n->∀ (j:Nat) (c:C),(es i)[j]?=aa c->∃ v,vs[i*k+j]?=aa v/\Rd M v c
def Flat.mono {M M':Mem} (a:∀ b o v,M b o=aa v->M' b o=aa v) {k n:Nat} {es:Nat->List C} {vs:List ak} (h:Flat M k n es vs):Flat M' k n es vs :=
  ⟨h.len,h.width,λi hi j c hj=>let ⟨v,h1,h2⟩:=h.rd i hi j c hj;⟨v,h1,h2.mono a⟩⟩
def eJ (σ:List aW) (s:St):aW->Loc->Prop
  | .cells E cs,L=>∃ b vs,L=⟨.pointer (aa ⟨b,0,af⟩),[b]⟩/\s.w.heap[b]?=aa (.cells (List.toArray vs) E (0,0))/\dG σ s vs cs/\∀ o,s.M b o=af
  | .vec E k n es,L=>Rd s.M L.v (.sl ae k n es) /\
      (((L.bs=[]/\n=0)/\Rd s.M L.v (.sl ab k n es)) ∨
       ∃ b cap vs,L=⟨.slice (aa ⟨b,0,af⟩) n cap,[b]⟩/\s.w.heap[b]?=aa (.cells (List.toArray vs) E (0,0))/\vs.length=cap*k/\∀ o,n*k<=o->s.M b o=af)
  | .dz H,L=>∃ c,H L.v c/\(∀ (b:Nat) (o:Obj),c b=aa o->s.w.heap[b]?=aa o)/\(∀ b,b∈L.bs↔(c b).isSome=ab)/\∀ b∈L.bs,∀ o,s.M b o=af
  | .dead,_=>True
  | .loop N φ r,L=>∃ l tmps fn df,L=⟨.func (.yield l) #[] #[],[l]⟩/\s.w.heap[l]?=aa (.loop { r with tmps:=tmps,fn:=fn,defers:=df })/\tmps.size=N/\(∀ t,c8 σ s (tmps.getD t aj) (look φ t))/\∀ o,s.M l o=af
  | .rq,L=>∃ r:Nat,L=⟨.int .i64 r,[r]⟩/\s.w.heap[r]?=aa (.deferred (aa []))/\∀ o,s.M r o=af
  | .buf E k n es,L=>(n=0/\L=⟨.slice af 0 0,[]⟩)∨∃ b a vs zs,L=⟨.slice (aa ⟨b,0,af⟩) 0 a,[b]⟩/\s.w.heap[b]?=aa (.cells (List.toArray (vs++zs)) E (0,0))/\(vs++zs).length=a*k/\n<=a/\a<=9223372036854775807/\Flat s.M k n es vs/\∀ o,s.M b o=af
structure aJ (σ:List aW) (s:St):Prop where
  mem:∀ b o v,s.M b o=aa v->s.w.cell? ⟨b,o,af⟩=aa v
  len:s.β.length=σ.length
  box:∀ (l:Nat) (B:aW) (L:Loc),σ[l]?=aa B->s.β[l]?=aa L->eJ σ s B L
  fT:∀ (l l':Nat) (L L':Loc),s.β[l]?=aa L->s.β[l']?=aa L'->∀ b∈L.bs,b∈L'.bs->l=l'
  lt:∀ L∈s.β,∀ b∈L.bs,b<s.w.heap.size
  own:∀ b,s.own b->b<s.w.heap.size/\∀ L∈s.β,b∉L.bs
def il:aW->Loc->aW->Loc->Prop
  | .vec _ _ n _,L,.vec _ _ a _,L'=>(a=n->L'.v=L.v)/\n<=a
  | .vec _ _ _ _,_,.dead,_=>True
  | .vec _ _ _ _,_,_,_=>False
  | .buf _ _ n _,L,.buf _ _ a _,L'=>(a=n->L'.v=L.v)/\n<=a
  | .buf _ _ _ _,_,.dead,_=>True
  | .buf _ _ _ _,_,_,_=>False
  | _,_,.vec _ _ _ _,_=>False
  | _,_,.buf _ _ _ _,_=>False
  | .dead,L,.dead,L'=>L'.v=L.v
  | .dead,_,_,_=>False
  | .rq,L,.rq,L'=>L'.v=L.v
  | .rq,_,_,_=>False
  | _,_,.rq,_=>False
  | _,L,_,L'=>L'.v=L.v
structure Ext (σ:List aW) (s:St) (σ':List aW) (s':St):Prop where
  mem:∀ b o v,s.M b o=aa v->s'.M b o=aa v
  box:∀ (l:Nat) (B:aW) (L:Loc),σ[l]?=aa B->s.β[l]?=aa L->∃ B' L',σ'[l]?=aa B'/\s'.β[l]?=aa L'/\il B L B' L'
structure Step (σ:List aW) (s:St) (σ':List aW) (s':St):Prop where
  size:s.w.heap.size<=s'.w.heap.size
  eB:∀ b,b<s.w.heap.size->(∀ L∈s.β,b∉L.bs)->s'.w.heap[b]?=s.w.heap[b]?
  mem:∀ b o v,s.M b o=aa v->s'.M b o=aa v
  jk:∀ b,b<s.w.heap.size->(∀ L∈s.β,b∉L.bs)->∀ o,s'.M b o=s.M b o
  uo:∀ L'∈s'.β,∀ b∈L'.bs,s.w.heap.size<=b∨∃ L∈s.β,b∈L.bs
  box:∀ (l:Nat) (B:aW) (L:Loc),σ[l]?=aa B->s.β[l]?=aa L->∃ B' L',σ'[l]?=aa B'/\s'.β[l]?=aa L'/\il B L B' L'
  os:s'.w.os=s.w.os
  tape:s'.w.tape=s.w.tape
  output:s'.w.output=s.w.output
  own:s'.own=s.own
structure cw (σ:List aW) (s:St) (σ':List aW) (s':St):Prop where
  size:s.w.heap.size<=s'.w.heap.size
  eB:∀ b,s.own b->s'.w.heap[b]?=s.w.heap[b]?
  mem:∀ b o v,s.M b o=aa v->s'.M b o=aa v
  jk:∀ b,b<s.w.heap.size->(∀ L∈s.β,b∉L.bs)->∀ o,s'.M b o=s.M b o
  uo:∀ L'∈s'.β,∀ b∈L'.bs,s.w.heap.size<=b∨∃ L∈s.β,b∈L.bs
  box:∀ (l:Nat) (B:aW) (L:Loc),σ[l]?=aa B->s.β[l]?=aa L->∃ B' L',σ'[l]?=aa B'/\s'.β[l]?=aa L'/\il B L B' L'
  os:s'.w.os=s.w.os
  tape:s'.w.tape=s.w.tape
  output:s'.w.output=s.w.output
  own:s'.own=s.own
structure b9 (s s':St):Prop where
  β:s'.β=s.β
  M:s'.M=s.M
  own:s'.own=s.own
  size:s.w.heap.size<=s'.w.heap.size
  eB:∀ b,(s.own b∨∃ L∈s.β,b∈L.bs)->s'.w.heap[b]?=s.w.heap[b]?
  mem:∀ b o v,s.M b o=aa v->s'.w.cell? ⟨b,o,af⟩=aa v
  os:s'.w.os=s.w.os
  tape:s'.w.tape=s.w.tape
  output:s'.w.output=s.w.output
def oB (s:St) (e:Event):Prop :=
  match e.loc with
  | .cell a=>e.sync=ae/\a.spot=af/\(False∨((∃ L∈s.β,a.block∈L.bs)/\(e.write=ab->s.M a.block a.off=af))∨(e.write=ae/\∃ v,s.M a.block a.off=aa v))
  | .obj r=>e.sync=ae/\(False∨∃ L∈s.β,r∈L.bs)
  | .mark m=>m=.noRoom∨∃ f,m=.extern f
  | _=>False
def eU (s:St) (es:Array Event):Prop:=∀ e∈es,oB s e
def eU.nil {s:St}:eU s #[]:=by intro e h;simp at h
def il.refl (B:aW) (L:Loc):il B L B L:=by cases B <;> simp[il]
def il.trans {B B' W1:aW} {L L' ZQ:Loc} (h:il B L B' L') (a:il B' L' W1 ZQ):il B L W1 ZQ:=by
  cases B <;> cases B' <;> cases W1 <;> simp_all [il]
  all_goals
    grind
def Step.refl (σ:List aW) (s:St):Step σ s σ s :=
  ⟨bc _,λ_ _ _=>rfl,λ_ _ _ h=>h,λ_ _ _ _=>rfl,λL h b hb=>.inr ⟨L,h,hb⟩,λ_ B L h a=>⟨B,L,h,a,.refl _ _⟩,rfl,rfl,rfl,rfl⟩
def Step.trans {σ σ1 σ2:List aW} {s c s2:St} (h:Step σ s σ1 c) (k:Step σ1 c σ2 s2):Step σ s σ2 s2:=by
  have out:∀ b,b<s.w.heap.size->(∀ L∈s.β,b∉L.bs)->∀ L∈c.β,b∉L.bs:=by
    intro b hb hn L a f;rcases h.uo L a b f with h1|⟨p,g,d⟩
    · omega
    · exact hn p g d
  refine⟨ez h.size k.size,?_,λb o v m=>k.mem _ _ _ (h.mem _ _ _ m),?_,?_,?_,k.os.trans h.os,k.tape.trans h.tape,k.output.trans h.output,k.own.trans h.own⟩
  · intro b hb hn
    rw[k.eB b (cC hb h.size) (out b hb hn),h.eB b hb hn]
  · intro b hb hn o
    rw[k.jk b (cC hb h.size) (out b hb hn),h.jk b hb hn]
  · intro L a b hb
    rcases k.uo L a b hb with h1|⟨L1,i,e⟩
    · exact .inl (ez h.size h1)
    · exact h.uo L1 i b e
  · intro l B L u a
    obtain⟨B1,L1,h1,h2,r⟩:=h.box l B L u a;obtain⟨t,n,k1,q,j⟩:=k.box l B1 L1 h1 h2;exact⟨t,n,k1,q,r.trans j⟩
def cw.refl (σ:List aW) (s:St):cw σ s σ s :=
  ⟨bc _,λ_ _=>rfl,λ_ _ _ h=>h,λ_ _ _ _=>rfl,λL h b hb=>.inr ⟨L,h,hb⟩,λ_ B L h a=>⟨B,L,h,a,.refl _ _⟩,rfl,rfl,rfl,rfl⟩
def cw.trans {σ σ1 σ2:List aW} {s c s2:St} (h:cw σ s σ1 c) (k:cw σ1 c σ2 s2):cw σ s σ2 s2:=by
  have out:∀ b,b<s.w.heap.size->(∀ L∈s.β,b∉L.bs)->∀ L∈c.β,b∉L.bs:=by
    intro b hb hn L a f;rcases h.uo L a b f with h1|⟨p,g,d⟩
    · omega
    · exact hn p g d
  refine⟨ez h.size k.size,?_,λb o v m=>k.mem _ _ _ (h.mem _ _ _ m),?_,?_,?_,k.os.trans h.os,k.tape.trans h.tape,k.output.trans h.output,k.own.trans h.own⟩
  · intro b hb
    rw[k.eB b (by rw[h.own];exact hb),h.eB b hb]
  · intro b hb hn o
    rw[k.jk b (cC hb h.size) (out b hb hn),h.jk b hb hn]
  · intro L a b hb
    rcases k.uo L a b hb with h1|⟨L1,i,e⟩
    · exact .inl (ez h.size h1)
    · exact h.uo L1 i b e
  · intro l B L u a
    obtain⟨B1,L1,h1,h2,r⟩:=h.box l B L u a;obtain⟨t,n,k1,q,j⟩:=k.box l B1 L1 h1 h2;exact⟨t,n,k1,q,r.trans j⟩
def Step.oo {σ σ':List aW} {s s':St} (hh:aJ σ s) (h:Step σ s σ' s'):cw σ s σ' s' :=
  ⟨h.size,λb hb=>h.eB b (hh.own b hb).1 (hh.own b hb).2,h.mem,h.jk,h.uo,h.box,h.os,h.tape,h.output,h.own⟩
def cw.ext {σ σ':List aW} {s s':St} (h:cw σ s σ' s'):Ext σ s σ' s':=⟨h.mem,h.box⟩
def b9.refl {σ:List aW} {s:St} (hh:aJ σ s):b9 s s:=⟨rfl,rfl,rfl,bc _,λ_ _=>rfl,hh.mem,rfl,rfl,rfl⟩
def b9.stepW {σ:List aW} {s s':St} (h:b9 s s'):cw σ s σ s' :=
  ⟨h.size,λb hb=>h.eB b (.inl hb),λb o v c=>by rw[h.M];exact c,λ_ _ _ _=>by rw[h.M],λL a b hb=>.inr ⟨L,by rw[<-h.β];exact a,hb⟩,
    λl B L d a=>⟨B,L,d,by rw[h.β];exact a,.refl _ _⟩,h.os,h.tape,h.output,h.own⟩
def Step.ext {σ σ':List aW} {s s':St} (h:Step σ s σ' s'):Ext σ s σ' s':=⟨h.mem,h.box⟩
section mono
variable {σ σ':List aW} {s s':St}
def Ext.MX (h:Ext σ s σ' s') {l:Nat} {L:Loc} (c:s.β[l]?=aa L) (hl:s.β.length=σ.length) (hn:∀ B,σ[l]?=aa B->B.gr=ae) :
    (∀ B,σ'[l]?=aa B->B.gr=ae)/\∃ L',s'.β[l]?=aa L'/\L'.v=L.v:=by
  have a:l<σ.length:=by grind
  obtain⟨B',L',k1,e,d⟩:=h.box l (σ[l]) L (bl a) c;have b:=hn _ (bl a);generalize σ[l]=B at *;rw[k1];cases B <;> cases B' <;> simp_all [il,aW.gr]
def gu.mono (h:Ext σ s σ' s') (hl:s.β.length=σ.length) {v:ak} {a:A} (r:gu σ s v a):gu σ' s' v a:=by
  cases a with
  | c x=>exact Rd.mono h.mem r
  | any=>exact r
  | ptr l off =>
    obtain⟨hn,L,b,h1,h2,j⟩:=r;obtain⟨i,L',k1,g⟩:=h.MX h1 hl hn;exact⟨i,L',b,k1,by rw[g,h2],j⟩
  | vec l k n es =>
    obtain⟨m,d,o⟩:=r;obtain⟨B',L',k1,g,f⟩:=h.box l (σ[l]) (s.β[l]'(by omega)) (bl d) (bl (by omega))
    have e:l<σ'.length:=(cg.1 k1).1;refine⟨Rd.mono h.mem m,e,λE k' i es' he=>?_⟩
    rw[he] at k1;cases k1;have t:=bl d;generalize σ[l]=B at *;cases B with
    | vec E0 k0 n0 VZ =>
      obtain⟨q,p⟩:=f
      grind
    | _=>simp[il] at f
  | ref l =>
    obtain⟨hn,L,h1,h2,j⟩:=r;obtain⟨i,L',k1,g⟩:=h.MX h1 hl hn;exact⟨i,L',k1,by rw[g,h2],j⟩
  | bp l w =>
    obtain⟨lv,m,d,o⟩:=r;obtain⟨B',L',k1,g,f⟩:=h.box l (σ[l]) (s.β[l]'(by omega)) (bl d) (bl (by omega))
    have e:l<σ'.length:=(cg.1 k1).1;refine⟨lv,m,e,λE k' i es' he=>?_⟩
    rw[he] at k1;cases k1;have t:=bl d;generalize σ[l]=B at *;cases B with
    | buf E0 k0 n0 VZ =>
      obtain⟨q,p⟩:=f
      grind
    | _=>simp[il] at f
def dG.mono (h:Ext σ s σ' s') (hl:s.β.length=σ.length) {vs:List ak} {cs:List A} (r:dG σ s vs cs):dG σ' s' vs cs:=by
  induction vs generalizing cs with
  | nil=>cases cs <;> simp_all [dG]
  | cons v vs ih =>
    cases cs with
    | nil=>simp[dG] at r
    | cons a cs=>exact⟨r.1.mono h hl,ih r.2⟩
def ma.mono (h:Ext σ s σ' s') (hl:s.β.length=σ.length) {v:ak} {x:E1} (r:ma σ s v x):ma σ' s' v x:=by
  cases x with
  | one a=>exact gu.mono h hl r
  | agg cs=>obtain⟨vs,h1,h2⟩:=r;exact⟨vs,h1,h2.mono h hl⟩
def gD.mono (h:Ext σ s σ' s') (hl:s.β.length=σ.length) {vs:List ak} {xs:List E1} (r:gD σ s vs xs):gD σ' s' vs xs:=by
  induction vs generalizing xs with
  | nil=>cases xs <;> simp_all [gD]
  | cons v vs ih =>
    cases xs with
    | nil=>simp[gD] at r
    | cons a cs=>exact⟨r.1.mono h hl,ih r.2⟩
def c8.mono (h:Ext σ s σ' s') (hl:s.β.length=σ.length) {v:ak} {d:D} (r:c8 σ s v d):c8 σ' s' v d:=by
  cases d with
  | e x=>exact ma.mono h hl r
  | eN xs=>obtain⟨vs,h1,h2⟩:=r;exact⟨vs,h1,h2.mono h hl⟩
  | any=>trivial
def cv.mono (h:Ext σ s σ' s') (hl:s.β.length=σ.length) {vs:List ak} {xs:List D} (r:cv σ s vs xs):cv σ' s' vs xs:=by
  induction vs generalizing xs with
  | nil=>cases xs <;> simp_all [cv]
  | cons v vs ih =>
    cases xs with
    | nil=>simp[cv] at r
    | cons a cs=>exact⟨r.1.mono h hl,ih r.2⟩
end mono
def oE (σ:List aW) (s:St):List Deferred->List Nat->Prop
  | [],[]=>True
  | d::ds,l::ls=>(σ[l]?=aa .rq/\∃ (L:Loc) (r:Nat),s.β[l]?=aa L/\L.v=.int .i64 r/\d={ target:=.collected r,args:=#[] })/\l∉ls/\oE σ s ds ls
  | _,_=>False
def oE.mono {σ σ':List aW} {s s':St} (h:Ext σ s σ' s'):∀ {ds:List Deferred} {ls:List Nat},oE σ s ds ls->oE σ' s' ds ls
  | [],[],_=>trivial
  | [],_::_,r=>r.elim
  | _::_,[],r=>r.elim
  | d::ds,l::ls,⟨⟨h1,L,r,h2,g,b⟩,e,c⟩=>by
    obtain⟨B',L',k1,f,a⟩:=h.box l _ L h1 h2;cases B' <;> simp[il] at a
    exact⟨⟨k1,L',r,f,by rw[a,g],b⟩,e,oE.mono h c⟩
def mr:List aW->Bool
  | []=>ab
  | .rq::_=>ae
  | _::r=>mr r
def lD:∀ {l:List aW},mr l=ab->∀ B∈l,B≠.rq
  | [],_,B,a=>by simp at a
  | b::r,h,B,a=>by
    have c:b≠.rq/\mr r=ab:=by cases b <;> simp_all [mr]
    rcases eY.1 a with rfl|a
    · exact c.1
    · exact lD c.2 B a
def lO {s:St} {r:Nat} {wr:Bool} {L:Loc} (b:L∈s.β) (a:r∈L.bs):oB s ⟨.obj r,wr,ae⟩:=⟨rfl,.inr ⟨L,b,a⟩⟩
def eU.one {s:St} {e:Event} (h:oB s e):eU s #[e]:=by intro x a;simp at a;subst a;exact h
def eU.two {s:St} {e a:Event} (h:oB s e) (c:oB s a):eU s #[e,a]:=by
  intro x b;grind
section
open Go.Conc (G listed)
def qu(s s':St)(es:Array Event):Prop:=(∃ σ σ',aJ σ s/\aJ σ' s'/\Step σ s σ' s')/\eU s es
structure Cx (P:aq) where
 main:Bool
 rely:St->St->Prop
 xw:au->St->(au->St->Prop)->Prop
 iq:∀ {s s'},rely s s'->b9 s s'
 Bc:Prop
class Cx.jH {P:aq} (X:Cx P):Prop where
 ok:X.Bc
structure eK (s s':St):Prop where
 w:s'.w=s.w
 mem:∀ b o v,s.M b o=aa v->s'.M b o=aa v
 jk:∀ b,(∀ L∈s.β,b∉L.bs)->∀ o,s'.M b o=s.M b o
 cell:∀ b o v,s'.M b o=aa v->s.w.cell? ⟨b,o,af⟩=aa v
 blk:∀ b,(s'.own b∨∃ L∈s'.β,b∈L.bs)->s.own b∨∃ L∈s.β,b∈L.bs
structure mS (s s':St):Prop where
 w:s'.w=s.w
 β:s'.β=s.β
 own:s'.own=s.own
 less:∀ b o v,s'.M b o=aa v->s.M b o=aa v
 mem:∀ b o v,s.M b o=aa v->s'.M b o=aa v∨s.own b
inductive eZ {P:aq} (X:Cx P) (S:au->St->Prop):au->St->Prop
 |stop {g:au} {s:St}:S g s->eZ X S g s
 |step {g:au} {s:St} (ng:St->au) (ns:St->St) (ne:St->Array Event):g.status=.running ->
   (∀ s1,X.rely s s1->aK P X.main g s1.w=.go (ng s1) (ns s1).w (ne s1))->(∀ s1,X.rely s s1->qu s1 (ns s1) (ne s1))->(∀ s1,X.rely s s1->eZ X S (ng s1) (ns s1))->eZ X S g s
 |ghost {g:au} {s s':St}:eK s s'->eZ X S g s'->eZ X S g s
 |forget {g:au} {s s':St}:X.Bc->mS s s'->eZ X S g s'->eZ X S g s
 |xw {g:au} {s:St} {T:au->St->Prop}:X.xw g s T->(∀ g' s',T g' s'->eZ X S g' s')->eZ X S g s
section
variable {P:aq}{X:Cx P}{S:au->St->Prop}
def eZ.next{g:au}{s:St}(f:g.status=.running)(h:∀ c,X.rely s c->∃ g' s' es,aK P X.main g c.w=.go g' s'.w es/\qu c s' es/\eZ X S g' s'):eZ X S g s:=by
 classical
 have hh:∀ c,∃ r:au×St×Array Event,X.rely s c->aK P X.main g c.w=.go r.1 r.2.1.w r.2.2/\qu c r.2.1 r.2.2/\eZ X S r.1 r.2.1:=by
  intro c
  by_cases e:X.rely s c
  .obtain⟨g',s',es,h1⟩:=h c e;exact⟨(g',s',es),λ_=>h1⟩
  .exact⟨(g,c,#[]),λd=>absurd d e⟩
 refine .step (λc=>(Classical.choose (hh c)).1) (λc=>(Classical.choose (hh c)).2.1) (λc=>(Classical.choose (hh c)).2.2) f ?_ ?_ ?_
 .grind
 .grind
 grind
def eK.of{σ σ':List aW}{s s':St}(hh:aJ σ s)(d:aJ σ' s')(e:s'.w=s.w)(st:cw σ s σ' s'):eK s s':=by
 have g:∀ b o v,s'.M b o=aa v->s.w.cell? ⟨b,o,af⟩=aa v:=λb o v h=>by rw[<-e];exact d.mem b o v h
 have c:∀ b o v,s.w.cell? ⟨b,o,af⟩=aa v->b<s.w.heap.size:=by
  intro b o v h;rcases cx b s.w.heap.size with h1|h1
  .exact h1
  .simp[aZ,uK h1] at h
 refine⟨e,st.mem,λb hb o=>?_,g,λb hb=>?_⟩
 .rcases cx b s.w.heap.size with h1|h1
  .exact st.jk b h1 hb o
  .cases h2:s'.M b o with
   |some v=>have:=c _ _ _ (g _ _ _ h2);omega
   |none=>cases i:s.M b o with
    |none=>rfl
    |some v=>have:=c _ _ _ (hh.mem _ _ _ i);omega
 .rcases hb with hb|⟨L,f,hb⟩
  .exact .inl (by rw[<-st.own];exact hb)
  .rcases st.uo L f b hb with h1|h1
   .have:=d.lt L f b hb;rw[e] at this;omega
   .exact .inr h1
def aJ.rely{σ:List aW}{s s':St}(hh:aJ σ s)(h:b9 s s'):aJ σ s':=by
 have ex:Ext σ s σ s':=h.stepW.ext;have C:∀ v a,gu σ s v a->gu σ s' v a:=λv a r=>r.mono ex hh.len
 refine⟨λb o v y=>h.mem b o v (by rw[<-h.M];exact y),by rw[h.β];exact hh.len,?_,by rw[h.β];exact hh.fT,?_,?_⟩
 .intro l B L A e;rw[h.β] at e;have hb:=hh.box l B L A e;have f:∀ b∈L.bs,s'.w.heap[b]?=s.w.heap[b]?:=λb hb=>h.eB b (.inr ⟨L,bM e,hb⟩)
  cases B with
  |cells E cs =>
   obtain⟨b,vs,h1,h2,c,d⟩:=hb;subst h1;exact⟨b,vs,rfl,by rw[f b (by simp),h2],c.mono ex hh.len,λo=>by rw[h.M,d]⟩
  |vec E k n es =>
   obtain⟨h1,h2⟩:=hb;refine⟨by rw[h.M];exact h1,?_⟩
   rcases h2 with⟨h2,c⟩|⟨b,cap,vs,h2,c,d,g⟩
   .exact .inl ⟨h2,by rw[h.M];exact c⟩
   .subst h2;exact .inr ⟨b,cap,vs,rfl,by rw[f b (by simp),c],d,λo q=>by rw[h.M,g o q]⟩
  |dz H =>
   obtain⟨ch,h1,h2,c,d⟩:=hb;refine⟨ch,h1,λb o z=>?_,c,λb i o=>by rw[h.M,d b i]⟩
   grind
  |dead=>trivial
  |loop N φ r =>
   obtain⟨l,tmps,fn,m,h1,h2,c,d,g⟩:=hb;subst h1;exact⟨l,tmps,fn,m,rfl,by rw[f l (by simp),h2],c,λt=>(d t).mono ex hh.len,λo=>by rw[h.M,g]⟩
  |rq =>
   obtain⟨r,h1,h2,c⟩:=hb;subst h1;exact⟨r,rfl,by rw[f r (by simp),h2],λo=>by rw[h.M,c]⟩
  |buf E k n es =>
   rcases hb with hb|⟨b,x,vs,p,h1,h2,c,d,g,j,u⟩
   .exact .inl hb
   .subst h1;exact .inr ⟨b,x,vs,p,rfl,by rw[f b (by simp),h2],c,d,g,by rw[h.M];exact j,λo=>by rw[h.M,u]⟩
 .intro L e b hb;rw[h.β] at e;exact cC (hh.lt L e b hb) h.size
 .intro b hb;rw[h.own] at hb;rw[h.β];exact⟨cC (hh.own b hb).1 h.size,(hh.own b hb).2⟩
def qu.quiet{σ:List aW}{s:St}(hh:aJ σ s):qu s s #[]:=⟨⟨σ,σ,hh,hh,.refl _ _⟩,.nil⟩
def _root_.Go.Frame.aT(b:aO)(a:Act)(todo:List Item):aO:={ b with tmps:=a.tmps,todo:=todo,defers:=a.defers++b.defers,mode:=.run }
variable {b:aO}{a:Act}{k:List Item}{cs:List aO}{w:az}{main:Bool}
def Fe(b:aO)(a:Act)(c:List Item):(b.aT a c).eval=a.eval:=by funext x;cases x <;> rfl
def Ff:aK P main (G (b.aT a (.code .skip::k)) cs) w=.go (G (b.aT a k) cs) w:=by simp[G,aK,stepG.exec,Frame.aT]
def qv{id:Nat}:aK P main (G (b.aT a (.inBlock id::k)) cs) w=.go (G (b.aT a k) cs) w:=by simp[G,aK,stepG.exec,Frame.aT]
def nQ{x y:Code}:aK P main (G (b.aT a (.code (.seq x y)::k)) cs) w=.go (G (b.aT a (.code x::.code y::k)) cs) w:=by simp[G,aK,stepG.exec,Frame.aT]
def uY{c:an}{x y:Code}{t:Bool}(h:a.eval c=.bool t) :
  aK P main (G (b.aT a (.code (.cond c x y)::k)) cs) w=.go (G (b.aT a (.code (if t then x else y)::k)) cs) w:=by
 have d:(b.aT a (.code (.cond c x y)::k)).eval c=.bool t:=by rw[Fe];exact h
 simp only[Frame.aT] at d;simp[G,aK,stepG.exec,Frame.aT,d]
def ru{id:Nat}{c:Code}:aK P main (G (b.aT a (.code (.block id c)::k)) cs) w=.go (G (b.aT a (.code c::.inBlock id::k)) cs) w:=by simp[G,aK,stepG.exec,Frame.aT]
def Fg{c:Code}:aK P main (G (b.aT a (.code (.loop c)::k)) cs) w=.go (G (b.aT a (.code c::.inLoop c::k)) cs) w:=by simp[G,aK,stepG.exec,Frame.aT]
def x9{c:Code}:aK P main (G (b.aT a (.inLoop c::k)) cs) w=.go (G (b.aT a (.code c::.inLoop c::k)) cs) w:=by simp[G,aK,stepG.exec,Frame.aT]
def zl{id:Nat}{k':List Item}(h:exitTo id k=aa k'):aK P main (G (b.aT a (.code (.exit id)::k)) cs) w=.go (G (b.aT a k') cs) w:=by simp[G,aK,stepG.exec,Frame.aT,h]
def pL{id:Nat}{ops:Array aw}:aK P main (G (b.aT a (.code (.region id ops ae)::k)) cs) w=.go (G (b.aT a (.inRegion ops (bh ops.size)::k)) cs) w:=by simp[G,aK,stepG.exec,Frame.aT]
def lK{id:Nat}{ops:Array aw}:aK P main (G (b.aT a (.code (.region id ops ab)::k)) cs) w =
  .go (G (b.aT a (.inRegion ops (Region.schedule (P.follows .mixedOrders) ops (w.tape w.drawn (.order b.fn id)))::k)) cs) { w with drawn:=w.drawn+1 }:=by
 simp[G,aK,stepG.exec,Frame.aT,choose,Sem.run,Question.forced,Question.cut]
def iS{ops:Array aw}:aK P main (G (b.aT a (.inRegion ops []::k)) cs) w=.go (G (b.aT a k) cs) w:=by simp[G,aK,stepG.exec,Frame.aT]
def zm(h:b.roundOf=af):aK P main (G (b.aT a (.code .ret::k)) cs) w=.go (G { b.aT a (.code .ret::k) with mode:=.returning } cs) w:=by simp[G,aK,stepG.exec,Frame.aT,h]
def zn(h:b.roundOf=af):aK P main (G (b.aT a []) cs) w=.go (G { b.aT a [] with mode:=.returning } cs) w:=by simp[G,aK,stepG.exec,Frame.aT,h]
def j8(ops:Array aw)(i:Nat)(rest:List Nat)(v:ak) :
  (b.aT a (.inRegion ops (i::rest)::k)).finish v=b.aT (a.put ((ops[i]?).bind (·.dst)) v) (.inRegion ops rest::k):=by
 cases h:(ops[i]?).bind (·.dst) <;> simp[Frame.finish,Frame.aT,Act.put,h]
def MV{ops:Array aw}{i:Nat}{rest:List Nat}{o:aw}(d:ops[i]?=aa o)(e:bj o (yielded ops a.tmps)=ae) :
  aK P main (G (b.aT a (.inRegion ops (i::rest)::k)) cs) w=.go (G (b.aT (a.put o.dst aj) (.inRegion ops rest::k)) cs) w:=by
 have c:=j8 (b:=b) (a:=a) (k:=k) ops i rest aj;rw[d] at c;simp only[nG] at c;rw[<-c];simp[G,aK,stepG.exec,Frame.aT,d,e]
def rv{ρ:an->ak}{o:aw}{c:Call}(h:o.op=.defer c){g:Next}{w':az}(e:(ay ρ o).run P w=.ok g w'):∃ d,g=.defer d:=by
 simp only[ay,h,bS] at e;cases f:(resolve ρ c o.type).run P w with
 |ok d w2=>rw[f] at e;simp at e;exact⟨_,e.1.symm⟩
 |halt x w2=>rw[f] at e;simp at e
def uZ{ops:Array aw}{i:Nat}{rest:List Nat}{o:aw}(e:ops[i]?=aa o)(f:bj o (yielded ops a.tmps)=ab)(g:∀ c,o.op≠.defer c) :
  aK P main (G (b.aT a (.inRegion ops (i::rest)::k)) cs) w=stepG.apply P ab (b.aT a (.inRegion ops (i::rest)::k)) cs af (ay a.eval o) w:=by
 have d:=Fe b a (.inRegion ops (i::rest)::k);simp only[Frame.aT] at d;simp[G,aK,stepG.exec,stepG.oper,Frame.oper?,Frame.aT,e,f,d]
 grind
def IY{ops:Array aw}{i:Nat}{rest:List Nat}{o:aw}{v:ak}{w':az}(g:ops[i]?=aa o)(m:bj o (yielded ops a.tmps)=ab)
  (j:b.kind≠.early) (h:(ay a.eval o).run P w=.ok (.value v) w') :
  aK P main (G (b.aT a (.inRegion ops (i::rest)::k)) cs) w=.go (G (b.aT (a.put o.dst v) (.inRegion ops rest::k)) cs) w' (listed P b.fn a o w):=by
 have e:=j8 (b:=b) (a:=a) (k:=k) ops i rest v;rw[g] at e;simp only[nG] at e;have f:(b.kind==CallKind.early)=ae:=by simpa using j
 rw[uZ g m (λc n=>by obtain⟨d,l⟩:=rv n h;cases l),<-e]
 simp[stepG.apply,h,G,Frame.aT,f,GStep.after,listed]
def Fh{ops:Array aw}{i:Nat}{rest:List Nat}{o:aw}{w':az}(g:ops[i]?=aa o)(m:bj o (yielded ops a.tmps)=ab)
  (j:b.kind≠.early) (h:(ay a.eval o).run P w=.ok .skip w') :
  aK P main (G (b.aT a (.inRegion ops (i::rest)::k)) cs) w=.go (G (b.aT (a.put o.dst aj) (.inRegion ops rest::k)) cs) w' (listed P b.fn a o w):=by
 have e:=j8 (b:=b) (a:=a) (k:=k) ops i rest aj;rw[g] at e;simp only[nG] at e;have f:(b.kind==CallKind.early)=ae:=by simpa using j
 rw[uZ g m (λc n=>by obtain⟨d,l⟩:=rv n h;cases l),<-e]
 simp[stepG.apply,h,G,Frame.aT,f,GStep.after,listed]
def oQ{ops:Array aw}{i:Nat}{rest:List Nat}{o:aw}{f:aV}{args:Array ak}{w':az}(l:ops[i]?=aa o)(m:bj o (yielded ops a.tmps)=ab)
  (h:b.kind≠.early) (g:(ay a.eval o).run P w=.ok (.enter f args) w') :
  aK P main (G (b.aT a (.inRegion ops (i::rest)::k)) cs) w=.go (G (Frame.enter P f args .normal) (b.aT a (.inRegion ops (i::rest)::k)::cs)) w' (listed P b.fn a o w):=by
 have e:(b.kind==CallKind.early)=ae:=by simpa using h
 rw[uZ l m (λc n=>by obtain⟨d,j⟩:=rv n g;cases j)]
 simp[stepG.apply,g,G,Frame.aT,e,GStep.after,listed]
structure uq (P:aq)(f:aV)(fr:aO)(v:ak)(s:St):Prop where
 isF:fr.fn=f
 mode:fr.mode=.returning
 defers:fr.defers=[]
 kind:fr.kind=.normal
 fn:∃ fn,P.funcs[fr.fn]?=aa fn/\∀ w,(∀ b o u,s.M b o=aa u->w.cell? ⟨b,o,af⟩=aa u)->(results fn fr.tmps).run P w=.ok v w/\∀ e∈(results fn fr.tmps).events P w #[],∃ b o u,e=⟨.cell ⟨b,o,af⟩,ae,ae⟩/\s.M b o=aa u
def uq.mono{f:aV}{fr:aO}{v:ak}{s s':St}(h:uq P f fr v s)(i:∀ b o u,s.M b o=aa u->s'.M b o=aa u):uq P f fr v s':=by
 obtain⟨h1,h2,e,c,fn,d,g⟩:=h;refine⟨h1,h2,e,c,fn,d,λw j=>?_⟩
 grind
def eU.seen{s:St}{es:Array Event}{fn:aV}(h:eU s es):eU s (seen P fn es):=λe c=>h e (Go.Conc.mem_seen c)
def IZ{f:aV}{g c:aO}{v:ak}{s:St}(h:uq P f g v s)(w:az)(m:∀ b o u,s.M b o=aa u->w.cell? ⟨b,o,af⟩=aa u):∃ es,aK P main (G g (c::cs)) w=.go (G (c.finish v) cs) w es/\∀ e∈es,∃ b o u,e=⟨.cell ⟨b,o,af⟩,ae,ae⟩/\s.M b o=aa u:=by
 obtain⟨fn,l,d⟩:=h.fn;obtain⟨i,j⟩:=d w m;refine⟨seen P g.fn ((results fn g.tmps).events P w #[]),?_,λe n=>j e (Go.Conc.mem_seen n)⟩
 simp[G,aK,unwind,doReturn,h.mode,h.defers,h.kind,l,i,GStep.after]
end
end
section
open Go.Conc (G)
structure cp (N:Nat)(σ:List aW)(s:St)(φ:Fr)(a:Act):Prop where
 size:a.tmps.size=N
 defers:∃ ls,oE σ s a.defers ls
 slot:∀ t,c8 σ s (a.tmps.getD t aj) (look φ t)
def cp.mono{N:Nat}{σ σ':List aW}{s s':St}{φ:Fr}{a:Act}(h:cw σ s σ' s')(hl:s.β.length=σ.length)(f:cp N σ s φ a):cp N σ' s' φ a :=
 ⟨f.size,f.defers.imp λ_ h1=>h1.mono h.ext,λt=>(f.slot t).mono h.ext hl⟩
def cp.rely{N:Nat}{σ:List aW}{s s':St}{φ:Fr}{a:Act}(h:b9 s s')(hh:aJ σ s)(f:cp N σ s φ a):cp N σ s' φ a:=f.mono h.stepW hh.len
def cp.put{N:Nat}{σ:List aW}{s:St}{φ:Fr}{a:Act}(f:cp N σ s φ a){d:Nat}(c:d<N){v:ak}{x:D}(r:c8 σ s v x):cp N σ s ((d,x)::φ) (a.put (aa d) v):=by
 refine⟨by simp[Act.put,f.size],f.defers,λt=>?_⟩
 simp only[Act.put,look]
 by_cases e:d=t
 .subst e;rw[show aA d d=ab from iL d]
  have g:d<a.tmps.size:=by rw[f.size];exact c
  simp only[dn,sI g,fG,cond];exact r
 .have:aA d t=ae:=by
   cases h:aA d t
   .rfl
   .exact absurd (bT h) e
  rw[this];have h:=f.slot t;simp only[dn] at h ⊢
  grind
def rZ(φ c:Fr):Prop:=∀ σ s v t,c8 σ s v (look φ t)->c8 σ s v (look c t)
def cp.le{N:Nat}{σ:List aW}{s:St}{φ c:Fr}{a:Act}(h:rZ φ c)(f:cp N σ s φ a):cp N σ s c a :=
 ⟨f.size,f.defers,λt=>h _ _ _ _ (f.slot t)⟩
abbrev Post:=Exit->Fr->List aW->Prop
def ends{P:aq}(X:Cx P)(S:au->St->Prop)(b:aO)(k:List Item)(cs:List aO):Exit->Act->St->Prop
 |.normal,a,s=>eZ X S (G (b.aT a k) cs) s
 |.exit id,a,s=>∀ pre,(∀ k',exitTo id (pre++k')=exitTo id k')->eZ X S (G (b.aT a (.code (.exit id)::(pre++k))) cs) s
 |.ret,a,s=>∀ pre,eZ X S (G (b.aT a (.code .ret::pre)) cs) s
 |.panic ch,a,s=>∀ c,eZ X S (G { b.aT a c with mode:=.panicking ch } cs) s
 |_,_,_=>False
section
variable {P:aq}{X:Cx P}{S:au->St->Prop}{b:aO}{k:List Item}{cs:List aO}{a:Act}{s:St}
def ends.cons{x:Item}(d:∀ id k',exitTo id (x::k')=exitTo id k'){e:Exit}(c:e≠.normal)(h:ends X S b k cs e a s):ends X S b (x::k) cs e a s:=by
 cases e with
 |normal=>exact absurd rfl c
 |exit id =>
  intro pre hp;have:=h (pre++[x]) (λk'=>by grind)
  simpa using this
 |ret=>exact h
 |panic ch=>exact h
 |goto l=>exact h
 |outgrown=>exact h
def eZ.ctl{σ:List aW}{g g':au}(hh:aJ σ s)(e:g.status=.running)(d:∀ w,aK P X.main g w=.go g' w #[])(h:∀ c,b9 s c->eZ X S g' c):eZ X S g s :=
 .next e λc h1=>⟨g',c,#[],d c.w,.quiet (hh.rely (X.iq h1)),h c (X.iq h1)⟩
def pI{σ:List aW}{f:aV}{j c:aO}{cs:List aO}{v:ak}{s:St}(q:aJ σ s)(h:uq P f j v s)(k:∀ d,b9 s d->eZ X S (G (c.finish v) cs) d):eZ X S (G j (c::cs)) s:=by
 refine .next rfl λd n=>?_
 have i:=X.iq n;have g:=q.rely i;obtain⟨es,r,m⟩:=IZ (main:=X.main) (c:=c) (cs:=cs) h d.w i.mem;refine⟨_,d,es,r,⟨⟨σ,σ,g,g,.refl _ _⟩,λe p=>?_⟩,k d i⟩
 obtain⟨b,o,u,rfl,l⟩:=m e p;exact⟨rfl,rfl,.inr (.inr ⟨rfl,u,by rw[i.M];exact l⟩)⟩
def wc{c:Code}(I:Nat->Act->St->Prop)(i:∀ n a s,I n a s->∃ σ,aJ σ s/\∀ d,b9 s d->I n a d)
  (round:∀ n a s,I n a s->(∀ a' s' m,m<n->I m a' s'->eZ X S (G (b.aT a' (.inLoop c::k)) cs) s')->eZ X S (G (b.aT a (.code c::.inLoop c::k)) cs) s) {n:Nat} (j:I n a s) :
  eZ X S (G (b.aT a (.code (.loop c)::k)) cs) s:=by
 have key:∀ n a s,I n a s->eZ X S (G (b.aT a (.inLoop c::k)) cs) s:=by
  intro n
  induction n using Nat.strongRecOn with
  |_ n l =>
   intro a s hi;obtain⟨σ,h,g⟩:=i n a s hi;exact .ctl h rfl (λw=>x9) λd f=>round n a d (g d f) λa' s' m o e=>l m o a' s' e
 obtain⟨σ,h,g⟩:=i n a s j;exact .ctl h rfl (λw=>Fg) λd f=>round n a d (g d f) λa' s' m _ e=>key m a' s' e
end
def AW{P:aq}(X:Cx P)(N:Nat)(c:Code)(Q:Post)(φ:Fr)(σ:List aW):Prop :=
 ∀ s a,cp N σ s φ a->aJ σ s->∀ (b:aO) (k:List Item) (cs:List aO) (S:au->St->Prop),b.kind≠.early ->
  (∀ e d σ' s' a',Q e d σ'->cp N σ' s' d a'->aJ σ' s'->cw σ s σ' s'->ends X S b k cs e a' s')->eZ X S (G (b.aT a (.code c::k)) cs) s
def Names(all:List aw):List Nat->List aw->Prop
 |[],[]=>True
 |i::idx,o::rest=>all.toArray[i]?=aa o/\Names all idx rest
 |_,_=>False
def jA{P:aq}(X:Cx P)(N:Nat)(all rest:List aw)(Q:Fr->List aW->Prop)(φ:Fr)(σ:List aW):Prop :=
 ∀ s a,cp N σ s φ a->aJ σ s->∀ (b:aO) (k:List Item) (cs:List aO) (S:au->St->Prop) (idx:List Nat),b.kind≠.early->Names all idx rest ->
  (∀ c σ' s' a',Q c σ'->cp N σ' s' c a'->aJ σ' s'->cw σ s σ' s'->eZ X S (G (b.aT a' k) cs) s')->eZ X S (G (b.aT a (.inRegion all.toArray idx::k)) cs) s
section rules
variable {P:aq}{X:Cx P}{N:Nat}{Q:Post}{φ:Fr}{σ:List aW}
def AW.mono{c:Code}{f:Post}(h:AW X N c Q φ σ)(g:∀ e φ σ,Q e φ σ->f e φ σ):AW X N c f φ σ :=
 λs a i hh b k cs S hb hQ=>h s a i hh b k cs S hb λe d σ' s' a' q j l st=>hQ e d σ' s' a' (g _ _ _ q) j l st
def AW.le{c:Code}{d:Fr}(h:AW X N c Q d σ)(hl:rZ φ d):AW X N c Q φ σ :=
 λs a e hh b k cs S hb hQ=>h s a (e.le hl) hh b k cs S hb hQ
def AW.skip(h:Q .normal φ σ):AW X N .skip Q φ σ:=λs a d hh b k cs S _ c =>
 .ctl hh rfl (λ_=>Ff) λe h1=>c .normal φ σ e a h (d.rely h1 hh) (hh.rely h1) h1.stepW
def AW.ret(h:Q .ret φ σ):AW X N .ret Q φ σ:=λs a d hh b k cs S _ c=>c .ret φ σ s a h d hh (.refl _ _) k
def AW.exit{id:Nat}(h:Q (.exit id) φ σ):AW X N (.exit id) Q φ σ:=λs a d hh b k cs S _ c=>by
 have:=c (.exit id) φ σ s a h d hh (.refl _ _) [] (λ_=>rfl)
 simpa using this
def FK(next:Fr->List aW->Prop)(Q:Post):Post
 |.normal,φ,σ=>next φ σ
 |e,φ,σ=>Q e φ σ
def AW.seq{x y:Code}(h:AW X N x (FK (AW X N y Q) Q) φ σ):AW X N (.seq x y) Q φ σ:=by
 intro s a j hh b k cs S hb hQ;refine .ctl hh rfl (λ_=>nQ) λi h1=>?_
 refine h i a (j.rely h1 hh) (hh.rely h1) b (.code y::k) cs S hb ?_;intro e l σ' s' a' q f g st;have c:=h1.stepW.trans st;cases e with
 |normal=>exact q s' a' f g b k cs S hb λe d σ2 s2 a2 q2 f2 h2 oz=>hQ e d σ2 s2 a2 q2 f2 h2 (c.trans oz)
 |_=>exact ends.cons (λ_ _=>rfl) (by simp) (hQ _ _ _ _ _ q f g c)
def AW.cond{c:an}{x y:Code}{t:Bool}{u:Nat}(n:c=.tmp u)(hl:look φ u=.e (.one (.c (.bool t))))
  (m:t=ab->AW X N x Q φ σ) (l:t=ae->AW X N y Q φ σ):AW X N (.cond c x y) Q φ σ:=by
 intro s a f hh b k cs S hb hQ;have h:=f.slot u;rw[hl] at h;have j:a.eval c=.bool t:=by
  subst n;generalize j:a.tmps.getD u aj=v at h;simp only[c8,ma,gu] at h;cases h;exact j
 refine .ctl hh rfl (λ_=>uY j) λi h1=>?_
 have g:∀ e d σ' s' a',Q e d σ'->cp N σ' s' d a'->aJ σ' s'->cw σ i σ' s'->ends X S b k cs e a' s':=λe d σ' s' a' q o p st=>hQ e d σ' s' a' q o p (h1.stepW.trans st)
 cases t
 .exact l rfl i a (f.rely h1 hh) (hh.rely h1) b k cs S hb g
 .exact m rfl i a (f.rely h1 hh) (hh.rely h1) b k cs S hb g
def zQ(id:Nat)(Q:Post):Post
 |.exit IM,φ,σ=>if IM=id then Q .normal φ σ else Q (.exit IM) φ σ
 |e,φ,σ=>Q e φ σ
def AW.block{id:Nat}{c:Code}(h:AW X N c (zQ id Q) φ σ):AW X N (.block id c) Q φ σ:=by
 intro s a n hh b k cs S hb hQ;refine .ctl hh rfl (λ_=>ru) λm h1=>?_
 refine h m a (n.rely h1 hh) (hh.rely h1) b (.inBlock id::k) cs S hb ?_;intro e i σ' s' a' q g f st;have d:=h1.stepW.trans st;cases e with
 |normal =>
  exact .ctl f rfl (λ_=>qv) λs2 h2=>hQ .normal i σ' s2 a' q (g.rely h2 f) (f.rely h2) (d.trans h2.stepW)
 |exit IM =>
  simp only[zQ] at q;split at q
  .rename_i e
   subst e;intro pre hp;refine .ctl f rfl (λ_=>zl (k':=k) (by rw[hp];simp[exitTo])) λs2 h2=>?_
   exact hQ .normal i σ' s2 a' q (g.rely h2 f) (f.rely h2) (d.trans h2.stepW)
  .rename_i j
   intro pre hp;have:=hQ (.exit IM) i σ' s' a' q g f d (pre++[.inBlock id]) (λk'=>by
    rw[ij,hp];have:(id==IM)=ae:=by simp;exactλh=>j h.symm
    simp[exitTo,this])
   simpa using this
 |ret=>exact hQ _ _ _ _ _ q g f d
 |panic ch=>exact hQ _ _ _ _ _ q g f d
 |goto l=>exact hQ _ _ _ _ _ q g f d
 |outgrown=>exact hQ _ _ _ _ _ q g f d
def AW.loop{S:Type}{c:Code}(I:S->Prop)(fr:S->Fr)(st:S->List aW)(h:S->Nat)(x:S)(v:I x)(p:rZ φ (fr x))(j:st x=σ)
  (round:∀ x,I x->AW X N c (FK (λo σ'=>∃ y,I y/\h y<h x/\rZ o (fr y)/\σ'=st y) Q) (fr x) (st x)):AW X N (.loop c) Q φ σ:=by
 intro s a w hh b k cs S hb hQ;subst j;refine wc (λn a' s'=>∃ y,I y/\cp N (st y) s' (fr y) a'/\aJ (st y) s'/\cw (st x) s (st y) s'/\h y=n) ?_ ?_ ⟨x,v,w.le p,hh,.refl _ _,rfl⟩
 .rintro n a' s' ⟨y,l,m,g,d,e⟩;exact⟨st y,g,λB h1=>⟨y,l,m.rely h1 g,g.rely h1,d.trans h1.stepW,e⟩⟩
 rintro n a' s' ⟨y,l,m,g,d,rfl⟩ A;refine round y l s' a' m g b (.inLoop c::k) cs S hb ?_;intro e t σ2 s2 a2 q r h2 oz;cases e with
 |normal =>
  obtain⟨z,u,i,f,rfl⟩:=q;exact A a2 s2 (h z) i ⟨z,u,r.le f,h2,d.trans oz,rfl⟩
 |_=>exact ends.cons (λ_ _=>rfl) (by simp) (hQ _ _ _ _ _ q r h2 (d.trans oz))
end rules
end
def dG.length{σ:List aW}{s:St}{vs:List ak}{cs:List A}(r:dG σ s vs cs):vs.length=cs.length:=by
 induction vs generalizing cs with
 |nil=>cases cs <;> simp_all [dG]
 |cons v vs ih =>
  cases cs with
  |nil=>simp[dG] at r
  |cons a cs=>simp[ih r.2]
def gu.cell{σ:List aW}{s:St}{v:ak}{a:A}(r:gu σ s v a):cX v=ab:=by
 cases a with
 |c x=>exact Rd.cell r
 |ptr l off=>obtain⟨_,_,_,_,_,rfl⟩:=r;rfl
 |vec l k n es=>exact Rd.cell r.1
 |ref l=>obtain⟨_,_,_,_,h⟩:=r;exact h
 |bp l w=>obtain⟨_,h,_⟩:=r;exact h.cell
 |any=>exact r
def dG.get{σ:List aW}{s:St}{vs:List ak}{cs:List A}(r:dG σ s vs cs){j:Nat}{a:A}(h:cs[j]?=aa a):∃ v,vs[j]?=aa v/\gu σ s v a:=by
 induction vs generalizing cs j with
 |nil=>cases cs <;> simp_all [dG]
 |cons v vs ih =>
  cases cs with
  |nil=>simp[dG] at r
  |cons b cs =>
   cases j with
   |zero=>simp at h;subst h;exact⟨v,rfl,r.1⟩
   |succ j=>simp at h;obtain⟨u,c,d⟩:=ih r.2 h;grind
def dG.cell{σ:List aW}{s:St}{vs:List ak}{cs:List A}(r:dG σ s vs cs):∀ v∈vs,v.oneCell'=ab:=by
 induction vs generalizing cs with
 |nil=>simp
 |cons v vs ih =>
  cases cs with
  |nil=>simp[dG] at r
  |cons a cs =>
   intro u b;rcases eY.1 b with rfl|b
   .have:=gu.cell r.1;cases u <;> simp_all [cX,Value.oneCell']
   .exact ih r.2 u b
def dG.append{σ:List aW}{s:St}{vs vD:List ak}{cs l8:List A}(r:dG σ s vs cs)(r':dG σ s vD l8):dG σ s (vs++vD) (cs++l8):=by
 induction vs generalizing cs with
 |nil=>cases cs <;> simp_all [dG]
 |cons v vs ih =>
  cases cs with
  |nil=>simp[dG] at r
  |cons a cs=>exact⟨r.1,ih r.2⟩
def dG.take{σ:List aW}{s:St}{vs:List ak}{cs:List A}(r:dG σ s vs cs)(k:Nat):dG σ s (vs.take k) (cs.take k):=by
 induction vs generalizing cs k with
 |nil=>cases cs <;> simp_all [dG]
 |cons v vs ih =>
  cases cs with
  |nil=>simp[dG] at r
  |cons a cs=>cases k with
   |zero=>simp[dG]
   |succ k=>exact⟨r.1,ih r.2 k⟩
def dG.drop{σ:List aW}{s:St}{vs:List ak}{cs:List A}(r:dG σ s vs cs)(k:Nat):dG σ s (vs.drop k) (cs.drop k):=by
 induction vs generalizing cs k with
 |nil=>cases cs <;> simp_all [dG]
 |cons v vs ih =>
  cases cs with
  |nil=>simp[dG] at r
  |cons a cs=>cases k with
   |zero=>exact r
   |succ k=>simpa using ih r.2 k
def aJ.block{σ:List aW}{s:St}(h:aJ σ s){b o:Nat}{v:ak}(a:s.M b o=aa v):b<s.w.heap.size:=by
 have:=h.mem b o v a;rcases cx b s.w.heap.size with h|h
 .exact h
 .simp[aZ,uK h] at this
def aJ.same{σ:List aW}{s:St}(h:aJ σ s){w':az}(g:w'.heap=s.w.heap):aJ σ { s with w:=w' }:=by
 have p:∀ a,w'.cell? a=s.w.cell? a:=λa=>by simp[aZ,g]
 have m:∀ v a,gu σ s v a->gu σ { s with w:=w' } v a:=λv a r=>by cases a <;> exact r
 have f:∀ vs al,dG σ s vs al->dG σ { s with w:=w' } vs al:=by
  intro vs
  induction vs with
  |nil=>intro al r;cases al <;> simp_all [dG]
  |cons v vs ih=>intro al r;cases al with
   |nil=>simp[dG] at r
   |cons a al=>exact⟨m _ _ r.1,ih _ r.2⟩
 refine⟨λb o v x=>by rw[p];exact h.mem b o v x,h.len,?_,h.fT,λL f b hb=>by show b<w'.heap.size;rw[g];exact h.lt L f b hb,λb hb=>⟨by show b<w'.heap.size;rw[g];exact(h.own b hb).1,(h.own b hb).2⟩⟩
 intro l B L z e;have:=h.box l B L z e;cases B with
 |cells E cs =>
  obtain⟨b,vs,h1,h2,c,d⟩:=this;exact⟨b,vs,h1,by grind,f _ _ c,d⟩
 |vec E k n es =>
  obtain⟨h1,h2⟩:=this;refine⟨h1,?_⟩
  grind
 |dz H =>
  obtain⟨ch,h1,h2,c,d⟩:=this;exact⟨ch,h1,λb o hb=>by grind,c,d⟩
 |dead=>trivial
 |loop N φ r =>
  obtain⟨l,tmps,fn,i,h1,h2,c,d,q⟩:=this;exact⟨l,tmps,fn,i,h1,by grind,c,λt=>c8.mono (s:=s) (σ':=σ) (s':={ s with w:=w' }) ⟨λ_ _ _ h=>h,λ_ B L h y=>⟨B,L,h,y,.refl _ _⟩⟩ h.len (d t),q⟩
 |rq =>
  obtain⟨r,h1,h2,c⟩:=this;exact⟨r,h1,by grind,c⟩
 |buf E k n es =>
  rcases this with h1|⟨b,u,vs,j,h1,h2,c⟩
  .exact .inl h1
  .exact .inr ⟨b,u,vs,j,h1,by grind,c⟩
def Step.same{σ:List aW}{s:St}{w':az}(f:w'.heap=s.w.heap)(d:w'.os=s.w.os)(a:w'.tape=s.w.tape)(c:w'.output=s.w.output):Step σ s σ { s with w:=w' } :=
 ⟨by grind,λb _ _=>by grind,λ_ _ _ h=>h,λ_ _ _ _=>rfl,λL h b hb=>.inr ⟨L,h,hb⟩,λ_ B L h e=>⟨B,L,h,e,.refl _ _⟩,d,a,c,rfl⟩
def eJ.carry{σ σ':List aW}{s s':St}{B:aW}{L:Loc}(e:Ext σ s σ' s')(hl:s.β.length=σ.length)(hb:∀ b∈L.bs,s'.w.heap[b]?=s.w.heap[b]?/\∀ o,s'.M b o=s.M b o)(h:eJ σ s B L):eJ σ' s' B L:=by
 cases B with
 |cells E cs =>
  obtain⟨b,vs,h1,h2,a,c⟩:=h;subst h1;obtain⟨k1,d⟩:=hb b (by simp)
  exact⟨b,vs,rfl,by rw[k1,h2],a.mono e hl,λo=>by rw[d,c]⟩
 |vec E k n es =>
  obtain⟨h1,h2⟩:=h;refine⟨h1.mono e.mem,?_⟩;rcases h2 with⟨h2,a⟩|⟨b,cap,vs,h2,a,c,f⟩
  .exact .inl ⟨h2,a.mono e.mem⟩
  grind
 |dz H =>
  obtain⟨ch,h1,h2,a,c⟩:=h;refine⟨ch,h1,λb o u=>?_,a,λb q o=>by grind⟩
  grind
 |dead=>trivial
 |loop N φ r =>
  obtain⟨l,tmps,fn,i,h1,h2,a,c,f⟩:=h;subst h1;obtain⟨k1,d⟩:=hb l (by simp)
  exact⟨l,tmps,fn,i,rfl,by rw[k1,h2],a,λt=>(c t).mono e hl,λo=>by rw[d,f]⟩
 |rq =>
  obtain⟨r,h1,h2,a⟩:=h;subst h1;obtain⟨k1,d⟩:=hb r (by simp)
  exact⟨r,rfl,by rw[k1,h2],λo=>by rw[d,a]⟩
 |buf E k n es =>
  rcases h with h1|⟨b,p,vs,j,h1,h2,a,c,f,g,m⟩
  .exact .inl h1
  .subst h1;obtain⟨k1,d⟩:=hb b (by simp)
   exact .inr ⟨b,p,vs,j,rfl,by rw[k1,h2],a,c,f,g.mono e.mem,λo=>by rw[d,m]⟩
def St.fJ(s:St)(E:ar)(vs:List ak):St :=
 { β:=s.β++[⟨.pointer (aa ⟨s.w.heap.size,0,af⟩),[s.w.heap.size]⟩],M:=s.M,w:=s.w.alloc (.cells vs.toArray E),own:=s.own }
def cE(w:az)(o:Obj){b:Nat}(h:b<w.heap.size):(w.alloc o).heap[b]?=w.heap[b]?:=by
 show (w.heap.push o)[b]?=w.heap[b]?
 grind
def dt(w:az)(o:Obj):(w.alloc o).heap[w.heap.size]?=aa o:=by
 show (w.heap.push o)[w.heap.size]?=aa o;simp
def Step.fJ{σ:List aW}(s:St)(E:ar)(vs:List ak)(B:aW):Step σ s (σ++[B]) (s.fJ E vs):=by
 refine⟨by simp[St.fJ],?_,λ_ _ _ h=>h,λ_ _ _ _=>rfl,?_,?_,rfl,rfl,rfl,rfl⟩
 .intro b hb _;exact cE _ _ hb
 .intro L a b hb;simp only[St.fJ,fR,kW] at a
  grind
 .intro l B' L c a;have hl:l<s.β.length:=(cg.1 a).1;have d:l<σ.length:=(cg.1 c).1;exact⟨B',L,by grind,by simp only[St.fJ];grind,.refl _ _⟩
def aJ.fJ{σ:List aW}{s:St}(h:aJ σ s){E:ar}{vs:List ak}{cs:List A}(r:dG σ s vs cs):aJ (σ++[.cells E cs]) (s.fJ E vs):=by
 have st:=Step.fJ (σ:=σ) s E vs (.cells E cs);have d:(s.fJ E vs).w.heap.size=s.w.heap.size+1:=by simp[St.fJ]
 refine⟨?_,by simp[St.fJ,h.len],?_,?_,?_,?_⟩
 .intro b o v g;have hb:=h.block g;have:=h.mem b o v g;rw[<-this];simp only[aZ,St.fJ];rw[cE _ _ hb]
 .intro l B L i a;rcases Nat.lt_trichotomy l σ.length with c|rfl|j
  .rw[jf c] at i;simp only[St.fJ] at a;rw[jf (by rw[h.len];exact c)] at a
   refine(h.box l B L i a).carry st.ext h.len λb hb=>⟨?_,λ_=>rfl⟩
   have:=h.lt L (bM a) b hb;exact cE _ _ this
  .simp at i;subst i;simp only[St.fJ] at a;rw[gg (by rw[h.len];exact bc _)] at a
   simp[h.len] at a;subst a;refine⟨s.w.heap.size,vs,rfl,dt _ _,r.mono st.ext h.len,λo=>?_⟩
   cases g:s.M s.w.heap.size o with
   |none=>exact g
   |some v=>have:=h.block g;omega
  grind
 .intro l l' L L' a e b hb rl;simp only[St.fJ] at a e;have f:∀ l L,(s.β++[⟨.pointer (aa ⟨s.w.heap.size,0,af⟩),[s.w.heap.size]⟩])[l]?=aa L->(s.β[l]?=aa L)∨(l=s.β.length/\L.bs=[s.w.heap.size]):=by
   grind
  rcases f l L a with h1|⟨rfl,h1⟩ <;> rcases f l' L' e with h2|⟨rfl,h2⟩
  .exact h.fT l l' L L' h1 h2 b hb rl
  .have:=h.lt L (bM h1) b hb;grind
  .have:=h.lt L' (bM h2) b rl;grind
  .rfl
 .intro L a b hb;rw[d];simp only[St.fJ,fR,kW] at a;rcases a with a|rfl
  .have:=h.lt L a b hb;omega
  .simp at hb;omega
 .intro b hb;obtain⟨k,m⟩:=h.own b hb;refine⟨by rw[d];omega,λL a=>?_⟩
  simp only[St.fJ,fR,kW] at a
  grind
def aJ.grow{σ:List aW}{s:St}(h:aJ σ s){M':Mem}{w':az}(a:s.w.heap.size<=w'.heap.size)(e:∀ b,b<s.w.heap.size->w'.heap[b]?=s.w.heap[b]?)
  (d:∀ b,b<s.w.heap.size->∀ o,M' b o=s.M b o) (n:∀ b,s.w.heap.size<=b->∀ o v,M' b o=aa v->w'.cell? ⟨b,o,af⟩=aa v)
  (j:w'.os=s.w.os) (g:w'.tape=s.w.tape) (i:w'.output=s.w.output):aJ σ ⟨s.β,M',w',s.own⟩/\Step σ s σ ⟨s.β,M',w',s.own⟩:=by
 have st:Step σ s σ ⟨s.β,M',w',s.own⟩ :=
  ⟨a,λb hb _=>e b hb,λb o v f=>by rw[<-f];exact d b (h.block f) o,λb hb _ o=>d b hb o,λL h b hb=>.inr ⟨L,h,hb⟩,λ_ B L h k=>⟨B,L,h,k,.refl _ _⟩,j,g,i,rfl⟩
 refine⟨⟨?_,h.len,?_,h.fT,λL c b hb=>cC (h.lt L c b hb) a,λb hb=>⟨cC (h.own b hb).1 a,(h.own b hb).2⟩⟩,st⟩
 .intro b o v f;rcases cx b s.w.heap.size with hb|hb
  .have hm':s.M b o=aa v:=by grind
   rw[<-h.mem b o v hm'];simp only[aZ];rw[e b hb]
  grind
 .intro l B L m c;exact(h.box l B L m c).carry st.ext h.len λb hb=>⟨e b (h.lt L (bM c) b hb),λo=>d b (h.lt L (bM c) b hb) o⟩
def aJ.write{σ:List aW}{s:St}(h:aJ σ s){l b:Nat}{L:Loc}{E:ar}{cs l8:List A}{a:List ak}(k:σ[l]?=aa (.cells E cs))(c:s.β[l]?=aa L)(f:L.bs=[b])
  (r:dG σ s a l8):aJ (σ.set l (.cells E l8)) { s with w:=s.w.setRow b a.toArray }/\Step σ s (σ.set l (.cells E l8)) { s with w:=s.w.setRow b a.toArray }:=by
 have d:l<σ.length:=(cg.1 k).1;obtain⟨j,vs,h1,h2,p,m⟩:=h.box l _ L k c;subst h1;simp at f;subst f;have st:Step σ s (σ.set l (.cells E l8)) { s with w:=s.w.setRow j a.toArray }:=by
  refine⟨by simp,?_,λ_ _ _ h=>h,λ_ _ _ _=>rfl,λL h b hb=>.inr ⟨L,h,hb⟩,?_,rfl,rfl,rfl,rfl⟩
  .intro b hb hn;exact setRow_other _ _ _ _ (λe=>hn _ (bM c) (by simp[e]))
  .intro l' B L' l7 ga
   by_cases e:l=l'
   .subst e;rw[k] at l7;cases l7;exact⟨_,L',by rw[eX d],ga,by simp[il]⟩
   .exact⟨B,L',by grind,ga,.refl _ _⟩
 refine⟨⟨?_,by simp[h.len],?_,h.fT,λL c b hb=>by simpa using h.lt L c b hb,λb hb=>by simpa using h.own b hb⟩,st⟩
 .intro b o v n;have g:b≠j:=λe=>by grind
  rw[<-h.mem b o v n];simp only[aZ];rw[setRow_other _ _ _ _ g]
 .intro l' B L' l7 ga
  by_cases e:l=l'
  .subst e;rw[eX d] at l7;cases l7;rw[c] at ga;cases ga;exact⟨j,a,rfl,setRow_heap _ _ _ _ _ _ h2,r.mono st.ext h.len,m⟩
  .rw[fE e] at l7;refine(h.box l' B L' l7 ga).carry st.ext h.len λb hb=>⟨setRow_other _ _ _ _ λi=>?_,λ_=>rfl⟩
   subst i;exact e (h.fT l l' _ L' c ga b (by simp) hb)
section
open Go.Conc (G)
def QU(σ:List aW)(s:St):Next->D->Prop
 |.value v,x=>c8 σ s v x
 |.skip,x=>x=.any
 |_,_=>False
def bF(P:aq)(o:aw)(b:an->D)(σ:List aW)(x:D)(σ':List aW):Prop :=
 ∀ s ρ,aJ σ s->(∀ y,c8 σ s (ρ y) (b y))->∃ a s',(ay ρ o).run P s.w=.ok a s'.w/\QU σ' s' a x/\aJ σ' s'/\Step σ s σ' s'/\eU s ((ay ρ o).events P s.w #[])
def bF.nR{P:aq}{o:aw}{a:an->D}{σ:List aW}{x:D}
  (h:∀ s ρ,aJ σ s->(∀ y,c8 σ s (ρ y) (a y))->∃ v,(ay ρ o).run P s.w=.ok (.value v) s.w/\c8 σ s v x/\eU s ((ay ρ o).events P s.w #[])):bF P o a σ x σ :=
 λs ρ hh hr=>let ⟨v,h1,h2,b⟩:=h s ρ hh hr;⟨.value v,s,h1,h2,hh,.refl _ _,b⟩
def bF.quiet{P:aq}{o:aw}{a:an->D}{σ:List aW}{x:D}
  (h:∀ s ρ,aJ σ s->(∀ y,c8 σ s (ρ y) (a y))->∃ v,(ay ρ o).run P s.w=.ok (.value v) s.w/\c8 σ s v x/\(ay ρ o).events P s.w #[]=#[]):bF P o a σ x σ :=
 λs ρ hh hr=>let ⟨v,h1,h2,b⟩:=h s ρ hh hr;⟨.value v,s,h1,h2,hh,.refl _ _,by rw[b];exact .nil⟩
def NC:IntKind->Int->Bool
 |.i64,.ofNat m=>bq m 9223372036854775807
 |.i64,.negSucc m=>bq m 9223372036854775807
 |.u8,.ofNat m=>bq m 255
 |.i32,.ofNat m=>bq m 2147483647
 |.i32,.negSucc m=>bq m 2147483647
 |.u64,.ofNat m=>bq m 18446744073709551615
 |.u32,.ofNat m=>bq m 4294967295
 |_,_=>ae
def QY{k:IntKind}{n:Int}(h:NC k n=ab):bx k n:=by
 cases k <;> cases n <;> simp only[NC,bx] at h ⊢ <;> first|(cases h;done)|(have:=c7 h;grind)
def qc:ak->Option C
 |.int k n=>cond (NC k n) (aa (.int k n)) af
 |.bool b=>aa (.bool b)
 |.string s=>cond (bq s.size 9223372036854775807) (aa (.str s.data.toList)) af
 |.slice af 0 0=>aa (.sl ab 0 0 (λ_=>[]))
 |.pointer af=>aa .l9
 |.nilIface=>aa .nU
 |.nilFunc=>aa .zq
 |.map m=>aa (.val (.map m))
 |_=>af
def Rd.jG{M:Mem}{t:Bool}{k:Nat}{a:Option Addr}{es:Nat->List C}:Rd M (.slice a 0 0) (.sl t k 0 es) :=
 Rd.sl 0 0 (λ_ _=>aj) (bc _) (by omega) (λ_=>rfl) (by omega) (by omega) (by omega) (by omega)
def Rd.qc{M:Mem}{v:ak}{c:C}(h:qc v=aa c):Rd M v c:=by
 unfold AM.qc at h;split at h <;> first
  |(rename_i k n;cases hb:NC k n <;> rw[hb] at h <;> cases h;exact .int (QY hb))
  |(rename_i s;cases hb:bq s.size 9223372036854775807 <;> rw[hb] at h <;> cases h;exact .str rfl (by rw[iJ];exact c7 hb))
  |(cases h;done)
  |(cases h;exact .bool)
  |(cases h;exact Rd.jG)
  |(cases h;exact .l9)
  |(cases h;exact .nU)
  |(cases h;exact .zq)
  |(cases h;exact .val rfl)
def dOf:Option C->D
 |some c=>.e (.one (.c c))
 |none=>.any
def bX(φ:Fr):an->D
 |.tmp t=>look φ t
 |.const v=>dOf (qc v)
 |.func f=>.e (.one (.c (.fn (.func f) [] [])))
 |.global _=>.any
def dK{N:Nat}{σ:List aW}{s:St}{φ:Fr}{a:Act}(f:cp N σ s φ a)(y:an):c8 σ s (a.eval y) (bX φ y):=by
 cases y with
 |tmp t=>exact f.slot t
 |const v =>
  simp only[bX,Act.eval];cases h:qc v with
  |none=>trivial
  |some c=>exact Rd.qc h
 |func g =>
  exact Rd.fn [] [] rfl rfl (λ_=>aj) (λ_=>aj) (by simp) (by simp) (by simp) (by simp)
 |global g=>trivial
def lr:Option Nat->D->Fr->Fr
 |some t,x,φ=>(t,x)::φ
 |none,_,φ=>φ
def zK{P:aq}{X:Cx P}{S:au->St->Prop}{b:aO}{k:List Item}{cs:List aO}{a:Act}{s:St}{ops:Array aw}{i:Nat}{rest:List Nat}{o:aw}(f:b.kind≠.early)(j:ops[i]?=aa o)(l:bj o (yielded ops a.tmps)=ab)
  (h:∀ c,b9 s c->∃ d s' v,(ay a.eval o).run P c.w=.ok d s'.w/\(d=.value v∨(d=.skip/\v=aj))/\qu c s' ((ay a.eval o).events P c.w #[])/\eZ X S (G (b.aT (a.put o.dst v) (.inRegion ops rest::k)) cs) s') :
  eZ X S (G (b.aT a (.inRegion ops (i::rest)::k)) cs) s:=by
 refine .next rfl λc n=>?_
 obtain⟨d,s',v,m,e,g,p⟩:=h c (X.iq n);refine⟨_,s',Go.Conc.listed P b.fn a o c.w,?_,⟨g.1,g.2.seen⟩,p⟩;rcases e with rfl|⟨rfl,rfl⟩
 .exact IY j l f m
 .exact Fh j l f m
def bF.move{P:aq}{o:aw}{a:an->D}{σ:List aW}{x:an}(h:o.op=.move x):bF P o a σ (a x) σ :=
 .quiet λs ρ _ b=>⟨ρ x,by simp[ay,h,pure],b x,by simp[ay,h]⟩
def bF.assign{P:aq}{o:aw}{a:an->D}{σ:List aW}{x:an}(h:o.op=.assign x):bF P o a σ (a x) σ :=
 .quiet λs ρ _ b=>⟨ρ x,by simp[ay,h,pure],b x,by simp[ay,h]⟩
def fC{σ:List aW}{s:St}{v:ak}{c:C}(h:c8 σ s v (.e (.one (.c c)))):Rd s.M v c:=h
def bF.pick{P:aq}{o:aw}{f:an->D}{σ:List aW}{c a b:an}(h:o.op=.pick c a b){t:Bool}(i:f c=.e (.one (.c (.bool t)))) :
  bF P o f σ (match t with|true=>f a|false=>f b) σ:=by
 refine .quiet λs ρ _ g=>?_
 have h1:=g c;rw[i] at h1;have h2:=fC h1;generalize d:ρ c=v at h2;cases h2;cases t
 .exact⟨ρ b,by simp[ay,h,d,asBool],g b,by simp[ay,h,d,asBool]⟩
 .exact⟨ρ a,by simp[ay,h,d,asBool],g a,by simp[ay,h,d,asBool]⟩
def J4(op:BinOp)(k:IntKind) (x y:Int):Option (C×List Prop) :=
 match op with
 |.add=>aa (.int k (x+y),[bx k (x+y)])
 |.sub=>aa (.int k (x-y),[bx k (x-y)])
 |.mul=>aa (.int k (x*y),[bx k (x*y)])
 |.quo=>aa (.int k (x / y),[0<=x,0<y])
 |.rem=>aa (.int k (x % y),[0<=x,0<y])
 |.eql=>aa (.bool (x==y),[])
 |.neq=>aa (.bool (x != y),[])
 |.lss=>aa (.bool (decide (x<y)),[])
 |.leq=>aa (.bool (decide (x<=y)),[])
 |.gtr=>aa (.bool (decide (y<x)),[])
 |.geq=>aa (.bool (decide (y<=x)),[])
 |_=>af
def J5(op:BinOp)(x y:List UInt8):Option (C×List Prop) :=
 match op with
 |.add=>aa (.str (x++y),[x.length+y.length<=9223372036854775807])
 |.eql=>aa (.bool (x==y),[])
 |.neq=>aa (.bool (!(x==y)),[])
 |.lss=>aa (.bool (bk x y),[])
 |.leq=>aa (.bool (bk x y||x==y),[])
 |.gtr=>aa (.bool (!(bk x y||x==y)),[])
 |.geq=>aa (.bool (!(bk x y)),[])
 |_=>af
def ag:List Prop->Prop
 |[]=>True
 |[p]=>p
 |p::q::r=>p/\ag (q::r)
def ag.cons{p:Prop}{r:List Prop}:ag (p::r)↔p/\ag r:=by cases r <;> simp[ag]
def mo{k:IntKind}{n:Int}(h:bx k n):k.wrap n=n:=by
 cases k <;> simp only[bx,IntKind.wrap,IntKind.bits,IntKind.signed] at h ⊢ <;> simp <;> (try split) <;> omega
def J6{P:aq}{w:az}{op:BinOp}{k:IntKind}{x y:Int}{c:C}{obs:List Prop}(h:J4 op k x y=aa (c,obs))(a:ag obs)(i:bx k x)(j:bx k y)(t:ar)(M:Mem) :
  ∃ v,(binOp op t (.int k x) (.int k y)).run P w=.ok v w/\Rd M v c:=by
 cases op <;> simp only[J4,de,kZ,reduceCtorEq] at h
 case add=>obtain⟨rfl,rfl⟩:=h;exact⟨_,by simp only[binOp,cT,fi,b5,Op.intArith,mo a];rfl,.int a⟩
 case sub=>obtain⟨rfl,rfl⟩:=h;exact⟨_,by simp only[binOp,cT,fi,b5,Op.intArith,mo a];rfl,.int a⟩
 case mul=>obtain⟨rfl,rfl⟩:=h;exact⟨_,by simp only[binOp,cT,fi,b5,Op.intArith,mo a];rfl,.int a⟩
 case quo =>
  obtain⟨rfl,rfl⟩:=h;obtain⟨d,b⟩:=a
  replace b:0<y:=b
  have e:x.tdiv y=x / y:=Int.tdiv_eq_ediv_of_nonneg d;have f:bx k (x / y):=by
   have l:0<=x / y:=Int.ediv_nonneg d (by omega)
   have g:x / y<=x:=Int.ediv_le_self _ d;cases k <;> simp only[bx] at i ⊢ <;> omega
  exact⟨_,by simp only[binOp,cT,fi,b5,Op.intDiv,show y≠0 by omega,e,mo f];rfl,.int f⟩
 case rem =>
  obtain⟨rfl,rfl⟩:=h;obtain⟨d,b⟩:=a
  replace b:0<y:=b
  have e:x.tmod y=x % y:=Int.tmod_eq_emod_of_nonneg d;have f:bx k (x % y):=by
   have l:0<=x % y:=rb _ (by omega)
   have g:x % y<y:=qW _ b;cases k <;> simp only[bx] at j ⊢ <;> omega
  exact⟨_,by simp only[binOp,cT,fi,b5,Op.intDiv,show y≠0 by omega,e];rfl,.int f⟩
 all_goals (obtain⟨rfl,rfl⟩:=h;exact⟨_,by simp only[binOp,cT,fi,b5,Op.intCmp,gt_iff_lt,ge_iff_le];rfl,.bool⟩)
def J7{P:aq}{w:az}{op:BinOp}{x y:ByteArray}{a b:List UInt8}{c:C}{obs:List Prop}(h:J5 op a b=aa (c,obs))(d:ag obs)(f:x.data.toList=a)(i:y.data.toList=b)(t:ar)(M:Mem) :
  ∃ v,(binOp op t (.string x) (.string y)).run P w=.ok v w/\Rd M v c:=by
 subst f i;cases op <;> simp only[J5,de,kZ,reduceCtorEq] at h
 case add =>
  obtain⟨rfl,rfl⟩:=h;have j:¬((x.size+y.size:Nat):Int)>IntKind.i64.max:=by
   have k:x.data.toList.length=x.size:=iJ;have l:y.data.toList.length=y.size:=iJ;have e:IntKind.i64.max=9223372036854775807:=rfl;have g:x.data.toList.length+y.data.toList.length<=9223372036854775807:=d;rw[e];omega
  refine⟨_,by simp only[binOp,Op.stringOp,j,b5];rfl,.str (by simp) (by simpa[ag] using d)⟩
 all_goals (obtain⟨rfl,rfl⟩:=h;exact⟨_,by simp only[binOp,Op.stringOp,ByteArray.toList_eq];rfl,.bool⟩)
def ND{P:aq}{w:az}{op:BinOp}{k:IntKind}{x y:Int}{c:C}{obs:List Prop}(h:J4 op k x y=aa (c,obs))(b:ag obs)(t:ar) :
  (binOp op t (.int k x) (.int k y)).events P w #[]=#[]:=by
 cases op <;> simp only[J4,de,kZ,reduceCtorEq] at h
 case quo =>
  obtain⟨rfl,rfl⟩:=h;obtain⟨d,a⟩:=b
  replace a:0<y:=a
  simp only[binOp,cT,fi,b5,Op.intDiv,show y≠0 by omega];rfl
 case rem =>
  obtain⟨rfl,rfl⟩:=h;obtain⟨d,a⟩:=b
  replace a:0<y:=a
  simp only[binOp,cT,fi,b5,Op.intDiv,show y≠0 by omega];rfl
 all_goals (simp only[binOp,cT,fi,b5,Op.intCmp,Op.intArith];rfl)
def NF{P:aq}{w:az}{op:BinOp}{x y:ByteArray}{a b:List UInt8}{c:C}{obs:List Prop}(h:J5 op a b=aa (c,obs))(g:ag obs)(d:x.data.toList=a)(i:y.data.toList=b)(t:ar) :
  (binOp op t (.string x) (.string y)).events P w #[]=#[]:=by
 subst d i;cases op <;> simp only[J5,de,kZ,reduceCtorEq] at h
 case add =>
  obtain⟨rfl,rfl⟩:=h;have j:¬((x.size+y.size:Nat):Int)>IntKind.i64.max:=by
   have k:x.data.toList.length=x.size:=iJ;have l:y.data.toList.length=y.size:=iJ;have e:IntKind.i64.max=9223372036854775807:=rfl;have f:x.data.toList.length+y.data.toList.length<=9223372036854775807:=g;rw[e];omega
  simp only[binOp,Op.stringOp,j,b5];rfl
 all_goals (simp only[binOp,Op.stringOp];rfl)
def GY:IntKind->IntKind->Bool
 |.i8,.i8|.i16,.i16|.i32,.i32|.i64,.i64|.u8,.u8|.u16,.u16|.u32,.u32|.u64,.u64=>ab
 |_,_=>ae
def zS{k k':IntKind}(h:GY k k'=ab):k=k':=by cases k <;> cases k' <;> first|rfl|(cases h;done)
def Ng(op:BinOp):C->C->Option (C×List Prop)
 |.int k x,.int k' y=>cond (GY k k') (J4 op k x y) af
 |.str a,.str b=>J5 op a b
 |_,_=>af
def gx{P:aq}(op:BinOp)(t:ar)(x y:an)(k k':IntKind) (n a:Int)(u:az):(eqGuard op t x y (.int k n) (.int k' a)).run P u=.ok () u:=by cases op <;> rfl
def tO{P:aq}(op:BinOp)(t:ar)(x y:an)(a b:ByteArray)(u:az):(eqGuard op t x y (.string a) (.string b)).run P u=.ok () u:=by cases op <;> rfl
def jI{P:aq}(op:BinOp)(t:ar)(x y:an)(k k':IntKind) (n a:Int)(u:az)(es:Array Event):(eqGuard op t x y (.int k n) (.int k' a)).events P u es=es:=by cases op <;> rfl
def wm{P:aq}(op:BinOp)(t:ar)(x y:an)(a b:ByteArray)(u:az)(es:Array Event):(eqGuard op t x y (.string a) (.string b)).events P u es=es:=by cases op <;> rfl
def bF.binOp{P:aq}{o:aw}{j:an->D}{σ:List aW}{op:BinOp}{t ty:ar}{x y:an}(h:o.op=.binOp op t x y ty){a b c:C}{obs:List Prop}
  (z:j x=.e (.one (.c a))) (hb:j y=.e (.one (.c b))) (g:Ng op a b=aa (c,obs)) (i:ag obs):bF P o j σ (.e (.one (.c c))) σ:=by
 refine .quiet λs ρ _ u=>?_
 have h1:=u x;have h2:=u y;rw[z] at h1;rw[hb] at h2
 replace h1:=fC h1
 replace h2:=fC h2
 generalize f:ρ x=vx at h1;generalize d:ρ y=vy at h2;cases h1 <;> cases h2 <;> simp only[Ng,reduceCtorEq] at g
 case int.int k n hn k' n' WZ =>
  cases r:GY k k' <;> simp only[r,cond,reduceCtorEq] at g
  cases zS r;obtain⟨v,p,m⟩:=J6 (P:=P) (w:=s.w) g i hn WZ t s.M;exact⟨v,by simp only[ay,h,bS,f,d,gx,b7,p,cW],m,by simp[ay,h,f,d,gx,jI,ND g i]⟩
 case str.str =>
  rename_i A l q hl y' l' hy A8
  obtain⟨v,p,m⟩:=J7 (P:=P) (w:=s.w) g i q hy t s.M;exact⟨v,by simp only[ay,h,bS,f,d,tO,b7,p,cW],m,by simp[ay,h,f,d,tO,wm,NF g i q hy]⟩
def V9(op:UnOp):C->Option C
 |.bool b=>match op with|.not=>aa (.bool (!b))|_=>af
 |_=>af
def bF.unOp{P:aq}{o:aw}{f:an->D}{σ:List aW}{op:UnOp}{t:ar}{x:an}(h:o.op=.unOp op t x){a c:C}
  (i:f x=.e (.one (.c a))) (d:V9 op a=aa c):bF P o f σ (.e (.one (.c c))) σ:=by
 refine .quiet λs ρ _ g=>?_
 have h1:=g x;rw[i] at h1
 replace h1:=fC h1
 generalize b:ρ x=vx at h1;cases h1 <;> simp only[V9,reduceCtorEq] at d
 cases op <;> simp only[reduceCtorEq,de] at d
 subst d;exact⟨_,by simp only[ay,h,b,Op.unary,bS,cW,b7],Rd.bool,by simp[ay,h,b,Op.unary]⟩
def gD.get{σ:List aW}{s:St}{vs:List ak}{xs:List E1}(r:gD σ s vs xs){j:Nat}{x:E1}(h:xs[j]?=aa x):∃ v,vs[j]?=aa v/\ma σ s v x:=by
 induction vs generalizing xs j with
 |nil=>cases xs <;> simp_all [gD]
 |cons v vs ih =>
  cases xs with
  |nil=>simp[gD] at r
  |cons b cs =>
   cases j with
   |zero=>simp at h;subst h;exact⟨v,rfl,r.1⟩
   |succ j=>simp at h;obtain⟨u,a,c⟩:=ih r.2 h;exact⟨u,by simpa using a,c⟩
def bF.extract{P:aq}{o:aw}{c:an->D}{σ:List aW}{x:an}{j:Nat}(h:o.op=.extract x j){xs:List E1}{e:E1}
  (k:c x=.eN xs) (g:xs[j]?=aa e):bF P o c σ (.e e) σ:=by
 refine .quiet λs ρ _ i=>?_
 have h1:=i x;rw[k] at h1;obtain⟨vs,d,f⟩:=h1;obtain⟨v,b,a⟩:=f.get g;refine⟨v,?_,a,?_⟩ <;> simp[ay,h,d,Instr.extract,b]
end
def zk (b o:Nat):Event:=⟨.cell ⟨b,o,af⟩,ae,ae⟩
def GD (b o:Nat):Event:=⟨.cell ⟨b,o,af⟩,ab,ae⟩
def c9 (b o n:Nat):(⟨b,o,af⟩:Addr).add n=⟨b,o+n,af⟩:=by
  unfold Addr.add;split <;> simp_all
section
variable {P:aq}
def zp {w:az} {b o:Nat} {v:ak} (h:w.cell? ⟨b,o,af⟩=aa v) (es:Array Event):(load ⟨b,o,af⟩).events P w es=es.push (zk b o):=by
  rw[events_load,h];rfl
def nh {w:az} {b o:Nat}:∀ (n i:Nat) (acc:Array ak) (es:Array Event),(∀ j,j<n->∃ v,w.cell? ⟨b,o+(i+j),af⟩=aa v) ->
    ∀ e∈(loadCellsFrom ⟨b,o,af⟩ i n acc).events P w es,e∈es∨∃ j,j<i+n/\e=zk b (o+j)
  | 0,i,acc,es,_=>λe h=>.inl (by simpa[loadCellsFrom] using h)
  | n+1,i,acc,es,d=>λe h=>by
    obtain⟨v,a⟩:=d 0 (by omega)
    simp only[iM] at a;simp only[loadCellsFrom,aP,c9,run_load,a,aU,zp a] at h;rcases nh n (i+1) (acc.push v) _ (λj c=>by grind) e h with f|⟨j,c,rfl⟩
    · grind
    · exact .inr ⟨j,by omega,rfl⟩
def rn {w:az} {b o n:Nat} {es:Array Event} (h:∀ j,j<n->∃ v,w.cell? ⟨b,o+j,af⟩=aa v):∀ e∈(loadCells ⟨b,o,af⟩ n).events P w es,e∈es∨∃ j,j<n/\e=zk b (o+j):=by
  intro e a;have:=nh (P:=P) n 0 #[] es (by simpa using h) e a
  simpa using this
def eD {b o:Nat} {t:ar}:∀ (vs:List ak) (i:Nat) (a:Array ak) (w:az) (es:Array Event),w.heap[b]?=aa (.cells a t (0,0))->o+i+vs.length<=a.size->(∀ v∈vs,v.oneCell'=ab) ->
    ∀ e∈(storeCells ⟨b,o,af⟩ vs i).events P w es,e∈es∨∃ j,i<=j/\j<i+vs.length/\e=GD b (o+j)
  | [],_,_,_,_,_,_,_=>λe h=>.inl (by simpa[storeCells] using h)
  | v::rest,i,a,w,es,f,m,g=>λe h=>by
    have hi:o+i<a.size:=by simp at m;omega
    have c:w.cell? ⟨b,o+i,af⟩=aa a[o+i]:=by simp[aZ,f,hi]
    have d:w.frozen? ⟨b,o+i,af⟩=ae:=by simp[World.frozen?,f]
    have k:(store (⟨b,o+i,af⟩:Addr) v).run P w=.ok () (w.setRow b (a.setIfInBounds (o+i) v)):=by
      rw[run_store P w _ v _ (g v (by simp)),c]
      simp[d,setCell_eq_setRow w b (o+i) a t (0,0) v f]
    have l:(store (⟨b,o+i,af⟩:Addr) v).events P w es=es.push (GD b (o+i)):=by
      rw[events_store P w es _ v _ (g v (by simp)),c]
      simp only[d,jB,b5];rfl
    simp only[storeCells,aP,c9,k,l,aU] at h;rcases eD rest (i+1) (a.setIfInBounds (o+i) v) _ _ (setRow_heap _ _ _ _ _ _ f) (by simp at m ⊢;omega) (λu n=>g u (by simp[n])) e h with q|⟨j,r,p,rfl⟩
    · grind
    grind
def cK {α:Type} (P:aq) (m:Sem α):Prop:=∀ w es,m.events P w es=es
def cK.bind {α β:Type} {m:Sem α} {f:α->Sem β} (h:cK P m) (k:∀ a,cK P (f a)):cK P (m >>= f):=by
  intro w es;rw[aP,h w es];cases m.run P w with
  | ok a w'=>exact k a w' es
  | halt x w'=>rfl
def cK.pure {α:Type} {a:α}:cK P (Pure.pure a:Sem α):=λ_ _=>rfl
def cK.stuck {α:Type} {a:String}:cK P (Go.stuck a:Sem α):=λ_ _=>rfl
def cK.unsupported {α:Type} {u:Unsupported}:cK P (Go.unsupported u:Sem α):=λ_ _=>rfl
def cK.sizeOf {t:ar}:cK P (sizeOf t):=λ_ _=>events_sizeOf ..
def cK.underlying {t:ar}:cK P (underlying t):=λ_ _=>events_underlying ..
def cK.zeroValue {t:ar}:cK P (zeroValue t):=λ_ _=>events_zeroValue ..
def cK.newObj {o:Obj}:cK P (newObj o):=λ_ _=>rfl
def cK.newRow {t:ar} {c:Array ak}:cK P (newRow t c):=.bind .newObj λ_=>.pure
def cK.Pn {α β:Type} {f:α->Sem β} (h:∀ a,cK P (f a)):∀ l:List α,cK P (l.mapM f)
  | []=>by rw[List.mapM_nil];exact .pure
  | a::l=>by rw[mQ];exact .bind (h a) λ_=>.bind (cK.Pn h l) λ_=>.pure
def cK.map {α β:Type} {f:α->β} {m:Sem α} (h:cK P m):cK P (Functor.map f m):=λw es=>by rw[Sem.events_map];exact h w es
def cK.T2 {α β:Type} {f:α->Sem β} (h:∀ a,cK P (f a)) (l:Array α):cK P (l.mapM f):=by
  rw[qp];exact .map (.Pn h _)
def cK.Ju {α β:Type} {F:α->β->Sem (ForInStep β)} (h:∀ a b,cK P (F a b)):∀ (l:List α) (b:β),cK P (forIn l b F)
  | [],b=>by rw[List.forIn_nil];exact .pure
  | a::l,b=>by
    rw[List.forIn_cons];refine .bind (h a b) λr=>?_
    cases r with
    | done b=>exact .pure
    | yield b=>exact cK.Ju h l b
def cK.build {t:ar} {parts:Array (Nat×ak)}:cK P (Instr.build t parts):=by
  unfold Instr.build;refine .bind .zeroValue λz=>.bind .underlying λd=>?_
  cases d <;> first
    | exact .stuck
    | (refine .bind (.T2 (λ_=>.bind .sizeOf λ_=>.pure) _) λpl=>?_
       split
       · exact .pure
       · exact .stuck)
    | (refine .bind .sizeOf λn=>?_
       split
       · exact .pure
       · exact .stuck)
def cK.buildSlice {t:ar} {n:Nat} {parts:Array (Nat×ak)}:cK P (Instr.buildSlice t n parts):=by
  unfold Instr.buildSlice;refine .bind .underlying λd=>?_
  cases d <;> first
    | exact .stuck
    | (refine .bind .sizeOf λm=>?_
       dsimp only
       have hj:∀ (elem:ar) (zero:Array ak),cK P (match Instr.fill (λi=>aa (i*m,m)) (Array.map (λx=>zero[x % zero.size]!) (Array.range (n*m))) parts.toList with
          | some cells=>do
            let a<-Go.newRow elem cells
            Pure.pure (Value.slice (aa a) n n)
          | _=>Go.stuck "buildSlice: a part of the wrong size"):=by
         intro elem zero;split
         · exact .bind .newRow λ_=>.pure
         · exact .stuck
       by_cases b:n*m=0
       · simp only[b,cj]
         rw[b] at hj;split
         · grind
         · exact .bind .pure λz=>hj _ z
       · simp only[b,b5]
         split
         · exact .bind .unsupported λ_=>.bind .zeroValue λz=>.bind .pure λz=>hj _ z
         · exact .bind .zeroValue λz=>.bind .pure λz=>hj _ z)
def rA {s:St} {b o:Nat} {L:Loc} (c:L∈s.β) (a:b∈L.bs):oB s (zk b o):=⟨rfl,rfl,.inr (.inl ⟨⟨L,c,a⟩,λh=>by cases h⟩)⟩
def Bb {s:St} {b o:Nat} {v:ak} (h:s.M b o=aa v):oB s (zk b o):=⟨rfl,rfl,.inr (.inr ⟨rfl,v,h⟩)⟩
def mn {s:St} {b o:Nat} {L:Loc} (c:L∈s.β) (a:b∈L.bs) (d:s.M b o=af):oB s (GD b o):=⟨rfl,rfl,.inr (.inl ⟨⟨L,c,a⟩,λ_=>d⟩)⟩
end
structure TI where
 size:Nat
 bytes:Nat
 agg:Bool
 desc:TypeDesc
 zero:List C
 eq:List TypeDesc:=[]
def qF:TypeDesc->ak->ak->Option Bool
 |.int _,.int k a,.int k' b=>if k=k' then aa (a==b) else af
 |.string,.string a,.string b=>aa (a.toList==b.toList)
 |.bool,.bool a,.bool b=>aa (a==b)
 |_,_,_=>af
def jN:List TypeDesc->List ak->List ak->Option Bool
 |[],[],[]=>aa ab
 |d::ds,v::vs,w::ws=>match qF d v w with
  |some a=>match jN ds vs ws with
   |some b=>aa (a&&b)
   |none=>af
  |none=>af
 |_,_,_=>af
def J8:TypeDesc->Bool
 |.struct _|.array _ _=>ab
 |_=>ae
structure bH (P:aq)(t:ar)(i:TI):Prop where
 SY:P.underlying t=aa i.desc
 agg:J8 i.desc=i.agg
 info:∃ inf z,P.info? t=aa inf/\inf.size=i.size/\inf.bytes=i.bytes/\inf.zero=aa z/\z.cells.toList.map qc=i.zero.map aa/\(∃ cs,z=if i.agg then .agg cs else z)/\i.zero.length=i.size
 eqs:i.eq≠[]->P.eqGuardType P.depth t=ae/\∀ (w:az) (vs ws:List ak) (b:Bool),jN i.eq vs ws=aa b->(Op.equal t (.agg vs.toArray) (.agg ws.toArray)).run P w=.ok b w/\∀ es,(Op.equal t (.agg vs.toArray) (.agg ws.toArray)).events P w es=es
def bA:List (Nat×TI)->Nat->Option TI
 |[],_=>af
 |(i,d)::r,t=>cond (aA i t) (aa d) (bA r t)
def db(P:aq)(T:List (Nat×TI)):Prop:=∀ t i,bA T t=aa i->bH P t i
section
variable {P:aq}{w:az}{t:ar}{i:TI}
def bH.run_underlying(h:bH P t i):(underlying t).run P w=.ok i.desc w:=by
 simp[underlying,h.SY]
def bH.ju(h:bH P t i):(isAgg t).run P w=.ok i.agg w:=by
 have:=h.agg;unfold Go.isAgg;rw[bS,h.run_underlying];cases a:i.desc <;> rw[a] at this <;> simp[J8] at this <;> simp[this]
def bH.run_sizeOf(h:bH P t i):(sizeOf t).run P w=.ok i.size w:=by
 obtain⟨a,z,h1,h2,_⟩:=h.info;simp[sizeOf,typeInfo,h1,h2]
def kI{σ:List aW}{s:St}:∀ {vs:List ak}{cs:List C},vs.map qc=cs.map aa->dG σ s vs (cs.map A.c)
 |[],[],_=>trivial
 |[],_::_,h=>by simp at h
 |_::_,[],h=>by simp at h
 |v::vs,c::cs,h=>by
  simp only[rh,List.cons.injEq] at h;exact⟨Rd.qc h.1,kI h.2⟩
def bH.BQ(h:bH P t i)(σ:List aW)(s:St):∃ z,(zeroValue t).run P w=.ok z w/\dG σ s z.cells.toList (i.zero.map A.c):=by
 obtain⟨d,z,h1,h2,e,a,b,_⟩:=h.info;exact⟨z,by simp[zeroValue,typeInfo,h1,a],kI b⟩
end
def mU:D->Option (List A)
 |.e (.one a)=>aa [a]
 |.e (.agg cs)=>aa cs
 |_=>af
def m7{σ:List aW}{s:St}{v:ak}{d:D}{cs:List A}(h:mU d=aa cs)(r:c8 σ s v d):dG σ s v.cells.toList cs:=by
 cases d with
 |e x =>
  cases x with
  |one a =>
   cases h;have:=gu.cell r;cases v <;> first|exact⟨r,av⟩|cases this
  |agg c =>
   cases h;obtain⟨vs,rfl,b⟩:=r;simpa[Value.cells] using b
 |eN xs=>cases h
 |any=>cases h
def bF.newVar{P:aq}{o:aw}{a:an->D}{σ:List aW}{E:ar}{cs:List A}
  (h:∀ s ρ,aJ σ s->(∀ y,c8 σ s (ρ y) (a y))->∃ v:ak,(ay ρ o).run P s.w=((do pure (.value (.pointer (aa (<-newVar E v))))):Sem Next).run P s.w/\dG σ s v.cells.toList cs/\(ay ρ o).events P s.w #[]=#[]) :
  bF P o a σ (.e (.one (.ptr σ.length 0))) (σ++[.cells E cs]):=by
 intro s ρ hh hr;obtain⟨v,h1,h2,b⟩:=h s ρ hh hr;refine⟨.value (.pointer (aa ⟨s.w.heap.size,0,af⟩)),s.fJ E v.cells.toList,?_,?_,hh.fJ h2,.fJ s E _ _,by rw[b];exact .nil⟩
 .rw[h1];simp[Go.newVar,newRow,St.fJ]
 .refine⟨by simp,⟨.pointer (aa ⟨s.w.heap.size,0,af⟩),[s.w.heap.size]⟩,s.w.heap.size,?_,rfl,rfl⟩
  simp[St.fJ,<-hh.len]
def bF.alloc{P:aq}{T:List (Nat×TI)}(b:db P T){o:aw}{d:an->D}{σ:List aW}{E:ar}(h:o.op=.alloc E){i:TI}(hi:bA T E=aa i) :
  bF P o d σ (.e (.one (.ptr σ.length 0))) (σ++[.cells E (i.zero.map A.c)]):=by
 refine .newVar λs ρ _ _=>?_
 obtain⟨z,a,f⟩:=(b E i hi).BQ (w:=s.w) σ s;exact⟨z,by simp[ay,h,Instr.alloc,a],f,by simp[ay,h,Instr.alloc,a,Go.newVar,newRow]⟩
def bF.box{P:aq}{o:aw}{a:an->D}{σ:List aW}{E:ar}{x:an}(h:o.op=.box E x){cs:List A}(b:mU (a x)=aa cs) :
  bF P o a σ (.e (.one (.ptr σ.length 0))) (σ++[.cells E cs]) :=
 .newVar λs ρ _ c=>⟨ρ x,by simp[ay,h,Instr.box],m7 b (c x),by simp[ay,h,Instr.box,Go.newVar,newRow]⟩
def ot{α:Type}:Nat->List α->Option (List α)
 |0,_=>aa []
 |n+1,x::xs=>match ot n xs with|some r=>aa (x::r)|none=>af
 |_+1,[]=>af
def na{α:Type}:∀ {n:Nat}{l r:List α},ot n l=aa r->r=l.take n/\r.length=n
 |0,l,r,h=>by cases h;simp
 |n+1,[],r,h=>by simp[ot] at h
 |n+1,x::xs,r,h=>by
  simp only[ot] at h;cases a:ot n xs with
  |none=>simp[a] at h
  |some q =>
   simp[a] at h;subst h;obtain⟨b,c⟩:=na a;simp[<-b,c]
def fA{α:Type}:Nat->List α->Option α
 |_,[]=>af
 |0,x::_=>aa x
 |n+1,_::xs=>fA n xs
def dw{α:Type}:∀ {n:Nat}{l:List α}{x:α},fA n l=aa x->l[n]?=aa x
 |_,[],_,h=>by simp[fA] at h
 |0,x::_,_,h=>by simpa[fA] using h
 |n+1,_::xs,_,h=>by simpa using dw (n:=n) (l:=xs) h
def hX{α:Type}:Nat->List α->List α
 |0,l=>l
 |_+1,[]=>[]
 |n+1,_::xs=>hX n xs
def nn{α:Type}:∀ (n:Nat)(l:List α),hX n l=l.drop n
 |0,_=>by simp[hX]
 |_+1,[]=>by simp[hX]
 |n+1,_::xs=>by simp[hX,nn n xs]
def m9(i:TI)(cs:List A):Option E1 :=
 match i.agg with
 |true=>match ot i.size cs with|some r=>aa (.agg r)|none=>af
 |false=>match fA 0 cs with|some a=>aa (.one a)|none=>af
def pb{P:aq}{σ:List aW}{s:St}{t:ar}{i:TI}(k:bH P t i){b off:Nat}{vs:List ak}{cs:List A}{e:E1}
  (q:∀ (j:Nat) (v:ak),vs[j]?=aa v->s.w.cell? ⟨b,off+j,af⟩=aa v) (l:dG σ s vs cs) (f:m9 i cs=aa e) :
  ∃ v,(loadVar t ⟨b,off,af⟩).run P s.w=.ok v s.w/\ma σ s v e:=by
 simp only[loadVar,bS,k.ju,b7];cases u:i.agg <;> simp only[m9,u] at f
 .cases d:fA 0 cs with
  |none=>simp[d] at f
  |some a =>
   simp[d] at f;subst f;obtain⟨v,o,h⟩:=l.get (dw d);refine⟨v,?_,h⟩;have:=q 0 v o;simp at this;simp[run_load,this]
 .cases d:ot i.size cs with
  |none=>simp[d] at f
  |some r =>
   simp[d] at f;subst f;obtain⟨m,n⟩:=na d;have c:=l.take i.size;rw[<-m] at c;have p:(vs.take i.size).length=i.size:=by rw[c.length,n]
   have g:=run_loadCells_list (P:=P) s.w ⟨b,off,af⟩ (vs.take i.size) (λj v x=>by
    rw[c9]
    grind)
   rw[p] at g;refine⟨.agg (vs.take i.size).toArray,?_,vs.take i.size,rfl,c⟩;simp[k.run_sizeOf,g]
def jl{P:aq}{w:az}{t:ar}{i:TI}(f:bH P t i){b off n:Nat}(g:∀ j,j<n->∃ v,w.cell? ⟨b,off+j,af⟩=aa v)(c:(if i.agg then i.size else 1)<=n) :
  ∀ e∈(loadVar t ⟨b,off,af⟩).events P w #[],∃ j,j<n/\e=zk b (off+j):=by
 intro e a;simp only[loadVar,aP,f.ju,aU,events_isAgg] at a;cases k:i.agg
 .rw[k] at c a;obtain⟨v,d⟩:=g 0 (by simp at c;omega)
  simp only[iM] at d;simp only[jB,b5,zp d] at a;rcases Array.mem_push.1 a with h|rfl
  .simp at h
  .exact⟨0,by simp at c;omega,rfl⟩
 .rw[k] at c a;simp only[cj] at c;simp only[cj,aP,f.run_sizeOf,aU,events_sizeOf] at a;have key:∀ e∈(loadCells ⟨b,off,af⟩ i.size).events P w #[],∃ j,j<n/\e=zk b (off+j):=by
   intro e a;rcases rn (P:=P) (λj l=>g j (by omega)) e a with h|⟨j,l,rfl⟩
   .simp at h
   .exact⟨j,by omega,rfl⟩
  apply key
  generalize (loadCells ⟨b,off,af⟩ i.size).run P w=r at a;cases r with
  |ok v w'=>simpa using a
  |halt x w'=>simpa using a
def rI{i:TI}{cs:List A}{e:E1}(h:m9 i cs=aa e):(if i.agg then i.size else 1)<=cs.length:=by
 unfold m9 at h;cases b:i.agg <;> rw[b] at h
 .cases cs with
  |nil=>simp[fA] at h
  |cons c cs=>simp
 .simp only at h;cases a:ot i.size cs with
  |none=>simp[a] at h
  |some r =>
   obtain⟨f,d⟩:=na a
   grind
def bF.FC{P:aq}{T:List (Nat×TI)}(z:db P T){o:aw}{r:an->D}{σ:List aW}{t:ar}{x:an}(h:o.op=.load t x){l off:Nat}{E:ar}{cs:List A}{i:TI}{e:E1}
  (F:r x=.e (.one (.ptr l off))) (G:σ[l]?=aa (.cells E cs)) (hi:bA T t=aa i) (m:m9 i (hX off cs)=aa e):bF P o r σ (.e e) σ:=by
 refine .nR λs ρ hh hr=>?_
 have h1:=hr x;rw[F] at h1;obtain⟨_,L,b,B,c,y⟩:=h1;obtain⟨p,vs,rfl,C,d,_⟩:=hh.box l _ L G B;simp at c;subst c;rw[nn] at m;obtain⟨v,a,q⟩:=pb (s:=s) (σ:=σ) (P:=P) (z t i hi) (b:=p) (off:=off) (vs:=vs.drop off) (cs:=cs.drop off) (e:=e) (λj v hj=>by
  simp only[aZ,C];simpa using hj) (d.drop off) m
 refine⟨v,by simp[ay,h,y,Instr.loadAt,Instr.sureAddr,a],q,λu f=>?_⟩
 have g:u∈(loadVar t ⟨p,off,af⟩).events P s.w #[]:=by
  have e:ay ρ o=(do pure (.value (<-loadVar t ⟨p,off,af⟩))):=by simp[ay,h,y,Instr.loadAt,Instr.sureAddr]
  rw[e] at f;simpa[a] using f
 have k:(vs.drop off).length=(cs.drop off).length:=(d.drop off).length;obtain⟨j,hj,rfl⟩:=jl (z t i hi) (n:=(vs.drop off).length) (λj hj=>by
  refine⟨(vs.drop off)[j],?_⟩;simp only[aZ,C];simp at hj ⊢ <;> omega) (by rw[k];exact rI m) u g
 exact rA (bM B) (by simp)
def bF.JC{P:aq}{T:List (Nat×TI)}(E:db P T){o:aw}{y:an->D}{σ:List aW}{t:ar}{x:an}(h:o.op=.load t x){cs:List C}{i:TI}{e:E1}
  (G:y x=.e (.one (.c (.rp cs)))) (hi:bA T t=aa i) (F:m9 i (cs.map A.c)=aa e):bF P o y σ (.e e) σ:=by
 refine .nR λs ρ hh hr=>?_
 have h1:=hr x;rw[G] at h1;have h2:=fC h1;generalize l:ρ x=vx at h2;cases h2
 rename_i b off f r p
 have q:∀ (n:Nat) (ds:List C),(∀ j c,ds[j]?=aa c->Rd s.M (f (n+j)) c)->dG σ s ((bh ds.length).map λj=>f (n+j)) (ds.map A.c):=by
  intro n ds
  induction ds generalizing n with
  |nil=>intro _;trivial
  |cons d ds ih =>
   intro B;rw[eQ,zb];refine⟨B 0 d rfl,?_⟩;have:=ih (n+1) (λj c hj=>by have:=B (j+1) c (by simpa using hj);grind)
   simpa[Function.comp_def,mf,ln 1] using this
 obtain⟨v,g,u⟩:=pb (s:=s) (σ:=σ) (P:=P) (E t i hi) (b:=b) (off:=off) (vs:=(bh cs.length).map λj=>f (0+j)) (cs:=cs.map A.c) (e:=e) (λj v hj=>by
  simp only[nF,br] at hj
  by_cases a:j<cs.length
  .simp[a] at hj;subst hj;exact hh.mem _ _ _ (r j cs[j] (bl a))
  .simp[a] at hj) (q 0 cs (by simpa using p)) F
 refine⟨v,by simp[ay,h,l,Instr.loadAt,Instr.sureAddr,g],u,λz m=>?_⟩
 have k:z∈(loadVar t ⟨b,off,af⟩).events P s.w #[]:=by
  have e:ay ρ o=(do pure (.value (<-loadVar t ⟨b,off,af⟩))):=by simp[ay,h,l,Instr.loadAt,Instr.sureAddr]
  rw[e] at m;simpa[g] using m
 obtain⟨j,hj,rfl⟩:=jl (E t i hi) (n:=cs.length) (λj hj=>⟨f j,hh.mem _ _ _ (r j cs[j] (bl hj))⟩) (by have:=rI F;simpa using this) z k
 exact Bb (r j cs[j] (bl hj))
def eR{α:Type}:Nat->List α->List α->Option (List α)
 |0,[],l=>aa l
 |0,n::ns,_::cs=>match eR 0 ns cs with|some r=>aa (n::r)|none=>af
 |k+1,ns,c::cs=>match eR k ns cs with|some r=>aa (c::r)|none=>af
 |_,_,[]=>af
def pV{α:Type}:∀ {off:Nat}{new l r:List α},eR off new l=aa r->off+new.length<=l.length/\r=l.take off++new++l.drop (off+new.length)
 |0,[],l,r,h=>by cases l <;> cases h <;> simp
 |0,n::ns,c::cs,r,h=>by
  simp only[eR] at h;cases a:eR 0 ns cs with
  |none=>simp[a] at h
  |some q =>
   simp[a] at h;subst h;obtain⟨b,d⟩:=pV a
   grind
 |0,n::ns,[],r,h=>by simp[eR] at h
 |k+1,ns,c::cs,r,h=>by
  simp only[eR] at h;cases a:eR k ns cs with
  |none=>simp[a] at h
  |some q =>
   simp[a] at h;subst h;obtain⟨b,d⟩:=pV a
   grind
 |k+1,ns,[],r,h=>by simp[eR] at h
def dG.eR{σ:List aW}{s:St}{off:Nat}{vs new:List ak}{cs QZ r:List A}(h:AM.eR off QZ cs=aa r)(h1:dG σ s vs cs)(h2:dG σ s new QZ) :
  off+new.length<=vs.length/\dG σ s (vs.take off++new++vs.drop (off+new.length)) r:=by
 obtain⟨k1,rfl⟩:=pV h;rw[h2.length,h1.length];refine⟨k1,((h1.take off).append h2).append (by have:=h1.drop (off+QZ.length);exact this)⟩
def bF.store{P:aq}{T:List (Nat×TI)}(H:db P T){o:aw}{u:an->D}{σ:List aW}{t:ar}{x y:an}(h:o.op=.store t x y){l off:Nat}{E:ar}{cs new l8:List A}{i:TI}
  (I:u x=.e (.one (.ptr l off))) (B:σ[l]?=aa (.cells E cs)) (hi:bA T t=aa i) (K:mU (u y)=aa new) (hn:new.length=i.size) (J:eR off new cs=aa l8) :
  bF P o u σ .any (σ.set l (.cells E l8)):=by
 intro s ρ hh hr;have h1:=hr x;rw[I] at h1;obtain⟨_,L,b,z,g,F⟩:=h1;obtain⟨n,vs,rfl,G,q,f⟩:=hh.box l _ L B z;simp at g;subst g;have a:=m7 K (hr y);obtain⟨k1,M⟩:=dG.eR J q a;obtain⟨w1,w2⟩:=hh.write B z rfl M;refine⟨.skip,_,?_,rfl,w1,w2,?_⟩
 rotate_left
 .intro C c;have d:(ρ y).cells.size=i.size:=by rw[<-hn,<-a.length,iJ]
  have e:ay ρ o=(do storeVar t ⟨n,off,af⟩ (ρ y);pure .skip):=by simp[ay,h,F,Instr.storeAt,Instr.sureAddr]
  rw[e] at c;have k:C∈(storeCells ⟨n,off,af⟩ (ρ y).cells.toList).events P s.w #[]:=by
   simp only[storeVar,aP,(H t i hi).run_sizeOf,d,aU,events_sizeOf,cT,fi,b5,bS,b7,Sem.events_pure] at c;generalize (storeCells ⟨n,off,af⟩ (ρ y).cells.toList).run P s.w=r at c;cases r with
   |ok v w'=>simpa using c
   |halt x w'=>simpa using c
  rcases eD (ρ y).cells.toList 0 vs.toArray s.w #[] G (by simpa using k1) a.cell C k with p|⟨j,_,_,rfl⟩
  .simp at p
  .exact mn (bM z) (by simp) (f _)
 have m:=run_storeCells_at P n off E (ρ y).cells.toList 0 vs.toArray s.w G (by simpa using k1) (a.cell)
 have d:(ρ y).cells.size=i.size:=by rw[<-hn,<-a.length,iJ]
 simp only[iM] at m;simp[ay,h,F,Instr.storeAt,Instr.sureAddr,storeVar,(H t i hi).run_sizeOf,d,m]
def jK(T:List (Nat×TI))(t:ar)(f:Nat):Option (Nat×TI) :=
 match bA T t with
 |some i=>match i.desc with
  |.struct fs=>match fA f fs.toList with
   |some fl=>match bA T fl.type with
    |some j=>cond (aA j.size 0) af (aa (fl.offset,j))
    |none=>af
   |none=>af
  |_=>af
 |none=>af
def ta{P:aq}{T:List (Nat×TI)}(b:db P T){t:ar}{f off:Nat}{j:TI}(h:jK T t f=aa (off,j)) :
  ∃ i fs fl,bA T t=aa i/\i.desc=.struct fs/\fs[f]?=aa fl/\fl.offset=off/\bA T fl.type=aa j/\j.size≠0/\bH P t i/\bH P fl.type j:=by
 unfold jK at h;split at h
 .rename_i i hi
  split at h
  .rename_i fs WO
   split at h
   .rename_i fl hfl
    split at h
    .rename_i d c
     cases a:aA d.size 0 <;> simp[a] at h
     obtain⟨rfl,rfl⟩:=h;refine⟨i,fs,fl,hi,WO,by simpa using dw hfl,rfl,c,?_,b _ _ hi,b _ _ c⟩
     intro e;rw[e] at a;cases a
    .cases h
   .cases h
  .cases h
 .cases h
def mF{P:aq}{T:List (Nat×TI)}(g:db P T){t:ar}{f off:Nat}{j:TI}(h:jK T t f=aa (off,j))(b o:Nat)(w:az) :
  (Instr.fieldAt t (.pointer (aa ⟨b,o,af⟩)) f).run P w=.ok (.pointer (aa ⟨b,o+off,af⟩)) w:=by
 obtain⟨i,fs,m,l,d,k,a,n,c,e,g2⟩:=ta g h;simp[Instr.fieldAt,e.run_underlying,d,k,Instr.sureAddr,fieldPlace,g2.run_sizeOf,c,c9,a]
def n9{P:aq}{T:List (Nat×TI)}(e:db P T){t:ar}{f off:Nat}{j:TI}(h:jK T t f=aa (off,j))(b o:Nat)(w:az)(es:Array Event) :
  (Instr.fieldAt t (.pointer (aa ⟨b,o,af⟩)) f).events P w es=es:=by
 obtain⟨i,fs,m,l,c,g,k,n,a,d,g2⟩:=ta e h;simp[Instr.fieldAt,d.run_underlying,c,g,Instr.sureAddr,fieldPlace,g2.run_sizeOf,a]
def bF.rS{P:aq}{T:List (Nat×TI)}(i:db P T){o:aw}{c:an->D}{σ:List aW}{t:ar}{x:an}{f:Nat}(h:o.op=.fieldAddr t x f){l off k:Nat}{j:TI}
  (m:c x=.e (.one (.ptr l off))) (g:jK T t f=aa (k,j)):bF P o c σ (.e (.one (.ptr l (off+k)))) σ:=by
 refine .quiet λs ρ hh hr=>?_
 have h1:=hr x;rw[m] at h1;obtain⟨hn,L,b,n,a,d⟩:=h1;exact⟨.pointer (aa ⟨b,off+k,af⟩),by simp[ay,h,d,mF i g],⟨hn,L,b,n,a,rfl⟩,by simp[ay,h,d,n9 i g]⟩
def bF.tJ{P:aq}{T:List (Nat×TI)}(i:db P T){o:aw}{d:an->D}{σ:List aW}{t:ar}{x:an}{f:Nat}(h:o.op=.fieldAddr t x f){cs:List C}{k:Nat}{j:TI}
  (m:d x=.e (.one (.c (.rp cs)))) (g:jK T t f=aa (k,j)):bF P o d σ (.e (.one (.c (.rp (hX k cs))))) σ:=by
 refine .quiet λs ρ hh hr=>?_
 have h1:=hr x;rw[m] at h1;have h2:=fC h1;generalize a:ρ x=vx at h2;cases h2
 rename_i b o n p l
 refine⟨.pointer (aa ⟨b,o+k,af⟩),by simp[ay,h,a,mF i g],?_,by simp[ay,h,a,n9 i g]⟩
 rw[nn];refine Rd.rp b (o+k) (λj=>n (k+j)) (λj c hj=>?_) (λj c hj=>?_)
 .grind
 grind
def J9{σ:List aW}{s:St}{P:aq}{t:ar}{i:TI}(g:bH P t i){vs:List ak}{cs:List A}(r:dG σ s vs cs){off:Nat}{e:E1}(b:m9 i (hX off cs)=aa e)(w:az) :
  ∃ v,(part t vs.toArray off).run P w=.ok v w/\ma σ s v e/\∀ es,(part t vs.toArray off).events P w es=es:=by
 simp only[part,bS,g.ju,b7,aP,aU,events_isAgg];rw[nn] at b;cases k:i.agg <;> simp only[m9,k] at b
 .cases c:fA 0 (cs.drop off) with
  |none=>simp[c] at b
  |some a =>
   simp[c] at b;subst b;obtain⟨v,h,f⟩:=(r.drop off).get (dw c);simp at h;refine⟨v,?_,f,λes=>?_⟩ <;> simp[h]
 .cases c:ot i.size (cs.drop off) with
  |none=>simp[c] at b
  |some q =>
   simp[c] at b;subst b;obtain⟨j,l⟩:=na c;have d:=(r.drop off).take i.size;rw[<-j] at d;refine⟨.agg (vs.toArray.extract off (off+i.size)),by simp[g.run_sizeOf],⟨(vs.drop off).take i.size,?_,d⟩,λes=>by simp⟩
   simp
def bF.field{P:aq}{T:List (Nat×TI)}(u:db P T){o:aw}{l:an->D}{σ:List aW}{t:ar}{x:an}{f:Nat}(h:o.op=.field t x f){cs:List A}{k:Nat}{j:TI}{e:E1}
  (q:l x=.e (.agg cs)) (r:jK T t f=aa (k,j)) (y:m9 j (hX k cs)=aa e):bF P o l σ (.e e) σ:=by
 refine .quiet λs ρ hh hr=>?_
 have h1:=hr x;rw[q] at h1;obtain⟨vs,m,c⟩:=h1;obtain⟨i,fs,fl,h1,h2,p,g,B,z,n,g2⟩:=ta u r;obtain⟨v,a,d,b⟩:=J9 g2 c y s.w;exact⟨v,by simp[ay,h,m,Instr.field,n.run_underlying,h2,p,asAgg,g,a],d,by simp[ay,h,m,Instr.field,n.run_underlying,h2,p,asAgg,g,b]⟩
def bF.tK{P:aq}{o:aw}{c:an->D}{σ:List aW}{x:an}(h:o.op=.nilCheck x){l off:Nat}(f:c x=.e (.one (.ptr l off))):bF P o c σ (.e (.one (.ptr l off))) σ:=by
 refine .quiet λs ρ hh hr=>?_
 have h1:=hr x;rw[f] at h1;have a:=h1;obtain⟨hn,L,b,i,g,d⟩:=h1;exact⟨ρ x,by simp[ay,h,d],a,by simp[ay,h,d]⟩
def bF.vS{P:aq}{o:aw}{b:an->D}{σ:List aW}{x:an}(h:o.op=.nilCheck x){cs:List C}(d:b x=.e (.one (.c (.rp cs)))):bF P o b σ (.e (.one (.c (.rp cs)))) σ:=by
 refine .quiet λs ρ hh hr=>?_
 have h1:=hr x;rw[d] at h1;have h2:=fC h1;generalize a:ρ x=vx at h2;cases h2;exact⟨_,by simp[ay,h,a];rfl,by rw[<-a];exact h1,by simp[ay,h,a]⟩
def G3(new:List ak):∀ (j off:Nat)(cs:Array ak),off+j+new.length<=cs.size ->
  ((new.zipIdx j).foldl (λcs (x:ak×Nat)=>cs.setIfInBounds (off+x.2) x.1) cs).toList=cs.toList.take (off+j)++new++cs.toList.drop (off+j+new.length):=by
 induction new with
 |nil=>intro j off cs _;simp
 |cons v vs ih =>
  intro j off cs h;simp only[List.zipIdx_cons,ji];rw[ih (j+1) off _ (by simp at h ⊢;omega)]
  have:=list_seg_step cs.toList (off+j) v vs (by simp at h ⊢;omega)
  simpa[uH,mf] using this
def vq(place:Nat->Option (Nat×Nat)):List (Nat×List A)->List A->Option (List A)
 |[],cs=>aa cs
 |(i,new)::rest,cs=>match place i with
  |some (off,size)=>match aA new.length size with
   |true=>match eR off new cs with
    |some r=>vq place rest r
    |none=>af
   |false=>af
  |none=>af
def rB{σ:List aW}{s:St}{place place':Nat->Option (Nat×Nat)}(u:∀ i p,place i=aa p->place' i=aa p):∀ {parts:List (Nat×List A)}{vparts:List (Nat×ak)}{cs r:List A}{vs:Array ak},
  vq place parts cs=aa r->vparts.map (·.1)=parts.map (·.1)->(∀ (k:Nat) (p:Nat×List A) (q:Nat×ak),parts[k]?=aa p->vparts[k]?=aa q->dG σ s q.2.cells.toList p.2)->dG σ s vs.toList cs ->
  ∃ f,Instr.fill place' vs vparts=aa f/\dG σ s f.toList r
 |[],[],cs,r,vs,h,_,_,d=>by cases h;exact⟨vs,rfl,d⟩
 |[],_::_,cs,r,vs,h,a,_,d=>by simp at a
 |_::_,[],cs,r,vs,h,a,_,d=>by simp at a
 |(i,new)::rest,(m,v)::Up,cs,r,vs,h,a,t,d=>by
  simp only[rh,List.cons.injEq] at a;obtain⟨rfl,a⟩:=a;simp only[vq] at h;cases b:place m with
  |none=>simp[b] at h
  |some p =>
   obtain⟨off,size⟩:=p;simp only[b] at h;cases g:aA new.length size with
   |false=>simp[g] at h
   |true =>
    simp only[g] at h;cases n:eR off new cs with
    |none=>simp[n] at h
    |some q =>
     simp only[n] at h;have l:=t 0 (m,new) (m,v) rfl rfl;simp only at l;have C:=l.length;have w:new.length=size:=bT g;obtain⟨k1,y⟩:=dG.eR n d l;have B:=G3 v.cells.toList 0 off vs (by simpa using k1)
     have c:v.cells.size=size:=by grind
     have z:off+size<=vs.size:=by simpa[c] using k1
     obtain⟨f,o,j⟩:=rB (σ:=σ) (s:=s) u (parts:=rest) (vparts:=Up) (cs:=q) (r:=r)
      (vs:=v.cells.zipIdx.foldl (λcs (x:ak×Nat)=>cs.setIfInBounds (off+x.2) x.1) vs) h a (λk p q o j=>t (k+1) p q (by simpa using o) (by simpa using j)) (by
       have e:(v.cells.zipIdx.foldl (λcs (x:ak×Nat)=>cs.setIfInBounds (off+x.2) x.1) vs).toList=((v.cells.toList.zipIdx 0).foldl (λcs (x:ak×Nat)=>cs.setIfInBounds (off+x.2) x.1) vs).toList:=by
        rw[<-Array.foldl_toList,Array.toList_zipIdx]
       rw[e,B];simpa using y)
     refine⟨f,?_,j⟩;simp only[Instr.fill,u _ _ b,c,cT,fi,mg,Bool.false_or,bd]
     grind
def pW(T:List (Nat×TI)):List Field->Option (List (Nat×Nat))
 |[]=>aa []
 |f::fs=>match bA T f.type with
  |some j=>match pW T fs with
   |some r=>aa ((f.offset,j.size)::r)
   |none=>af
  |none=>af
def wo{P:aq}{T:List (Nat×TI)}(c:db P T):∀ {fs:List Field}{r:List (Nat×Nat)},pW T fs=aa r->fs.mapM (λf=>(P.info? f.type).map λi=>(f.offset,i.size))=aa r
 |[],r,h=>by cases h;simp
 |f::fs,r,h=>by
  simp only[pW] at h;cases a:bA T f.type with
  |none=>simp[a] at h
  |some j =>
   cases b:pW T fs with
   |none=>simp[a,b] at h
   |some q =>
    simp[a,b] at h;subst h;obtain⟨e,z,d,g,_⟩:=(c _ _ a).info;simp[mQ,d,g,wo c b]
def nT(a:an->D):List (Nat×an)->Option (List (Nat×List A))
 |[]=>aa []
 |(i,x)::r=>match mU (a x) with
  |some cs=>match nT a r with
   |some q=>aa ((i,cs)::q)
   |none=>af
  |none=>af
def pO{σ:List aW}{s:St}{ρ:an->ak}{a:an->D}(f:∀ y,c8 σ s (ρ y) (a y)):∀ {l:List (Nat×an)}{q:List (Nat×List A)},nT a l=aa q ->
  (l.map λ(i,x)=>(i,ρ x)).map (·.1)=q.map (·.1)/\∀ (k:Nat) (p:Nat×List A) (u:Nat×ak),q[k]?=aa p->(l.map λ(i,x)=>(i,ρ x))[k]?=aa u->dG σ s u.2.cells.toList p.2
 |[],q,h=>by cases h;simp
 |(i,x)::r,q,h=>by
  simp only[nT] at h;cases b:mU (a x) with
  |none=>simp[b] at h
  |some cs =>
   cases c:nT a r with
   |none=>simp[b,c] at h
   |some q' =>
    simp[b,c] at h;subst h;obtain⟨g,j⟩:=pO f c;refine⟨by simpa using g,λk p u e d=>?_⟩
    cases k with
    |zero=>simp at e d;subst e d;exact m7 b (f x)
    |succ k=>grind
def zE(T:List (Nat×TI))(a:an->D)(t:ar)(parts:List (Nat×an)):Option (List A) :=
 match bA T t with
 |some i=>match i.desc with
  |.struct fs=>match pW T fs.toList with
   |some pl=>match nT a parts with
    |some ps=>vq (λk=>fA k pl) ps (i.zero.map A.c)
    |none=>af
   |none=>af
  |_=>af
 |none=>af
def bF.build{P:aq}{T:List (Nat×TI)}(l:db P T){o:aw}{j:an->D}{σ:List aW}{t:ar}{parts:Array (Nat×an)}(h:o.op=.build t parts){cs:List A}
  (a:zE T j t parts.toList=aa cs):bF P o j σ (.e (.agg cs)) σ:=by
 refine .quiet λs ρ hh hr=>?_
 unfold zE at a;cases hi:bA T t with
 |none=>simp[hi] at a
 |some i =>
  simp only[hi] at a;cases g:i.desc with
  |struct fs =>
   simp only[g] at a;cases d:pW T fs.toList with
   |none=>simp[d] at a
   |some pl =>
    simp only[d] at a;cases c:nT j parts.toList with
    |none=>simp[c] at a
    |some ps =>
     simp only[c] at a;obtain⟨n,z,v,F,E,r,u,C,G⟩:=(l t i hi).info;obtain⟨B,p2⟩:=pO (σ:=σ) (s:=s) hr c;obtain⟨f,y,m⟩:=rB (σ:=σ) (s:=s) (place':=λk=>pl.toArray[k]?) (λk p q=>by simpa using dw q) a B p2 (kI u)
     have hb:P.built t (parts.map λ(i,x)=>(i,ρ x)).toList=aa f:=by
      unfold Program.built;have b:=(l t i hi).SY;rw[g] at b;simp only[v,b,r,wo l d];simpa using y
     refine⟨.agg f,?_,⟨f.toList,by simp,m⟩,?_⟩
     .simp only[ay,h,bS,run_build s.w t _ f hb,b7,cW]
     .simp only[ay,h,aP,run_build s.w t _ f hb,aU,Sem.events_pure];exact cK.build s.w #[]
  |_=>simp[g] at a
def Ra{k n i j:Nat}(hi:i<n)(b:j<k):i*k+j<n*k:=by
 have a:(i+1)*k<=n*k:=ei k (by omega)
 rw[gB] at a;omega
def NJ{k i j:Nat}(a:j<k):(i*k+j) / k=i:=by
 rw[jD,Nat.mul_add_div (by omega),Nat.div_eq_of_lt a];omega
def NK{k i j:Nat}(a:j<k):(i*k+j) % k=j:=by
 rw[jD,Nat.mul_add_mod,Nat.mod_eq_of_lt a]
def Flat.nil{M:Mem}{k:Nat}{es:Nat->List C}:Flat M k 0 es []:=⟨by simp,by omega,by omega⟩
def cJ(n:Nat)(f g:Nat->List C):Nat->List C:=λi=>if i<n then f i else g (i-n)
def Flat.append{M:Mem}{k n m:Nat}{es es':Nat->List C}{vs vD:List ak}(h:Flat M k n es vs)(b:Flat M k m es' vD):Flat M k (n+m) (cJ n es es') (vs++vD):=by
 refine⟨by simp[h.len,b.len,gB],λi hi=>?_,λi hi j c hj=>?_⟩
 .simp only[cJ];split
  .rename_i a;exact h.width i a
  .exact b.width _ (by omega)
 .simp only[cJ] at hj;split at hj
  .rename_i a
   obtain⟨v,h1,h2⟩:=h.rd i a j c hj
   grind
  .rename_i d
   obtain⟨v,h1,h2⟩:=b.rd _ (by omega) j c hj
   refine⟨v,?_,h2⟩;have e1:i*k+j=vs.length+((i-n)*k+j):=by
    rw[h.len,<-mf,<-gB,zh (by omega)]
   grind
def Flat.cell{M:Mem}{k n:Nat}{es:Nat->List C}{vs:List ak}(h:Flat M k n es vs):∀ v∈vs,v.oneCell'=ab:=by
 intro v b;obtain⟨p,a,rfl⟩:=dX b;rw[h.len] at a;have c:0<k:=by
  grind
 have hi:p / k<n:=pz (by rw[jD];exact a)
 have hj:p % k<k:=hJ _ c;have d:=h.width _ hi;obtain⟨v,h1,h2⟩:=h.rd (p / k) hi (p % k) ((es (p / k))[p % k]'(by omega)) (bl (by omega))
 have e:p / k*k+p % k=p:=pA p k;rw[e] at h1;rw[bl (by rw[h.len];exact a)] at h1
 simp at h1;rw[h1];have:=Rd.cell h2;cases v <;> simp_all [cX,Value.oneCell']
def Rd.flat{M:Mem}{v:ak}{t:Bool}{k n:Nat}{es:Nat->List C}(h:Rd M v (.sl t k n es)) :
  ∃ a cap vs,v=.slice a n cap/\n<=cap/\cap<=9223372036854775807/\(t=ab->cap=n)/\Flat M k n es vs/\∀ p u,vs[p]?=aa u->∃ b off,a=aa ⟨b,off,af⟩/\M b (off+p)=aa u:=by
 cases h with
 |@sl a _ cap _ _ _ b off f g hb ht hk ha hm hr =>
  refine⟨a,cap,(bh (n*k)).map λp=>f (p / k) (p % k),rfl,g,hb,ht,⟨by simp,hk,?_⟩,?_⟩
  .intro i hi j c hj;have e:j<k:=by
    grind
   refine⟨f i j,?_,hr i hi j c hj⟩;simp[Ra hi e,NJ e,NK e]
  .intro p u l;simp only[nF] at l
   by_cases d:p<n*k
   .simp[d] at l;subst l;have m:0<k:=by
     grind
    have hi:p / k<n:=pz (by rw[jD];exact d)
    have hj:p % k<k:=hJ _ m;have o:=hk _ hi;have:=hm (p / k) hi (p % k) ((es (p / k))[p % k]'(by omega)) (bl (by omega))
    refine⟨b,off,ha (Nat.lt_of_le_of_lt (gh _) hi),?_⟩;rw[show off+p=off+p / k*k+p % k by rw[mf,pA p k]]
    exact this
   .simp[d] at l
def Rd.qt{M:Mem}{k n:Nat}{es:Nat->List C}{vs:List ak}(h:Flat M k n es vs){a:Option Addr}{b off cap:Nat}{t:Bool}(e:0<n->a=aa ⟨b,off,af⟩)(d:n<=cap)(hb:cap<=9223372036854775807)(f:t=ab->cap=n)
  (g:∀ p u,vs[p]?=aa u->M b (off+p)=aa u):Rd M (.slice a n cap) (.sl t k n es):=by
 refine .sl b off (λi j=>(vs[i*k+j]?).getD aj) d hb f h.width e (λi hi j c hj=>?_) (λi hi j c hj=>?_)
 .obtain⟨v,h1,h2⟩:=h.rd i hi j c hj
  grind
 .obtain⟨v,h1,h2⟩:=h.rd i hi j c hj;rw[h1];exact h2
def dH{P:aq}{σ:List aW}{s:St}(m:aJ σ s){v:ak}{t:Bool}{k n:Nat}{es:Nat->List C}(h:Rd s.M v (.sl t k n es)) :
  ∃ vs,Flat s.M k n es vs/\(Builtin.firstCells k n v).run P s.w=.ok vs.toArray s.w/\Builtin.lenOf v=pure n:=by
 obtain⟨a,cap,vs,rfl,e,o,p,d,f⟩:=h.flat;refine⟨vs,d,?_,rfl⟩;have l:vs.length=n*k:=d.len;cases a with
 |none =>
  have:vs=[]:=by
   cases vs with
   |nil=>rfl
   |cons u q=>obtain⟨b,off,c,_⟩:=f 0 u rfl;cases c
  subst this;rfl
 |some ad =>
  simp only[Builtin.firstCells];rw[<-l];refine run_loadCells_list s.w ad vs λj u g=>?_
  obtain⟨b,off,c,i⟩:=f j u g;cases c;rw[c9];exact m.mem _ _ _ i
def bF.JA{P:aq}{T:List (Nat×TI)}(p:db P T){o:aw}{f:an->D}{σ:List aW}{t:ar}{x y:an}(h:o.op=.index t x y){l:List UInt8}{j:Int}{k:IntKind}{i:TI}{m:Nat}(hi:bA T t=aa i)(n:i.desc=.string)
  (q:f x=.e (.one (.c (.str l)))) (u:f y=.e (.one (.c (.int k j)))) (hj:j=m) (v:m<l.length):bF P o f σ (.e (.one (.c (.int .u8 (l[m]).toNat)))) σ:=by
 refine .quiet λs ρ hh hr=>?_
 have h1:=hr x;have h2:=hr y;rw[q] at h1;rw[u] at h2
 replace h1:=fC h1
 replace h2:=fC h2
 generalize d:ρ x=vx at h1;generalize b:ρ y=vy at h2;cases h1 with
 |@str sb _ r hl =>
 cases h2;subst r;have g:sb[m]?=aa (sb.data.toList[m]):=by
  have hm':m<sb.size:=by have e:sb.data.toList.length=sb.size:=iJ;omega
  rw[getElem?_pos sb m hm']
  congr 1
 refine⟨.int .u8 (sb.data.toList[m]).toNat,?_,Rd.int ?_,?_⟩
 rotate_left 2
 .have a:=(p t i hi).run_underlying (w:=s.w);rw[n] at a;simp[ay,h,d,b,Instr.index,asIntOf,a,hj,g]
 .have a:=(p t i hi).run_underlying (w:=s.w);rw[n] at a;simp[ay,h,d,b,Instr.index,asIntOf,a,hj,g]
 .have:=(sb.data.toList[m]).toNat_lt;simp only[bx];omega
def bF.indexAddr{P:aq}{T:List (Nat×TI)}(F:db P T){o:aw}{l:an->D}{σ:List aW}{t:ar}{x y:an}(h:o.op=.indexAddr t x y){i g:TI}{E:ar}(hi:bA T t=aa i)(H:i.desc=.slice E)(I:bA T E=aa g)
  {tt:Bool} {n:Nat} {es:Nat->List C} {j:Int} {k:IntKind} {m:Nat} (G:∀ s v,c8 σ s v (l x)->Rd s.M v (.sl tt g.size n es)) (J:l y=.e (.one (.c (.int k j)))) (hj:j=m) (d:m<n) :
  bF P o l σ (.e (.one (.c (.rp (es m))))) σ:=by
 refine .quiet λs ρ hh hr=>?_
 have h1:=G s _ (hr x);have h2:=hr y;rw[J] at h2
 replace h2:=fC h2
 generalize z:ρ x=vx at h1;generalize p:ρ y=vy at h2;cases h2;cases h1 with
 |@sl a _ cap _ _ _ b off f B hb ht hk ha hm' QG =>
 have r:0<n:=by omega
 have A:=(F t i hi).run_underlying (w:=s.w);rw[H] at A;refine⟨.pointer (aa ⟨b,off+m*g.size,af⟩),?_,Rd.rp b (off+m*g.size) (f m) (λq c u=>hm' m d q c u) (λq c u=>QG m d q c u),?_⟩ <;>
 simp[ay,h,z,p,Instr.indexAt,asIntOf,A,hj,ha r,(F E g I).run_sizeOf,c9,d]
def bF.T3{P:aq}{T:List (Nat×TI)}(r:db P T){o:aw}{g:an->D}{σ:List aW}{x:an}{b:Array ar}{t:ar}(h:o.op=.call { callee:=.builtin .len,args:=#[x],argTypes:=b })(p:b[0]?=aa t){i:TI}{E:ar}(hi:bA T t=aa i)(q:i.desc=.slice E)
  {tt:Bool} {k n:Nat} {es:Nat->List C} (l:∀ s v,c8 σ s v (g x)->Rd s.M v (.sl tt k n es)):bF P o g σ (.e (.one (.c (.int .i64 n)))) σ:=by
 refine .quiet λs ρ hh hr=>?_
 obtain⟨a,cap,vs,m,j,hb,_⟩:=(l s _ (hr x)).flat;have f:=(r t i hi).run_underlying (w:=s.w);rw[q] at f;have d:b[0]?=aa t:=p;refine⟨.int .i64 n,?_,Rd.int (by simp only[bx];omega),?_⟩ <;>
 simp[ay,h,resolve,invoke,builtin,Builtin.len_,m,f,goInt,d]
def bF.Qt{P:aq}{T:List (Nat×TI)}(p:db P T){o:aw}{j:an->D}{σ:List aW}{x:an}{a:Array ar}{t:ar}(h:o.op=.call { callee:=.builtin .len,args:=#[x],argTypes:=a })(m:a[0]?=aa t){i:TI}(hi:bA T t=aa i)(n:i.desc=.string)
  {l:List UInt8} (k:j x=.e (.one (.c (.str l)))):bF P o j σ (.e (.one (.c (.int .i64 l.length)))) σ:=by
 refine .quiet λs ρ hh hr=>?_
 have h1:=hr x;rw[k] at h1
 replace h1:=fC h1
 generalize d:ρ x=vx at h1;cases h1 with
 |@str sb _ q hl =>
 have g:=(p t i hi).run_underlying (w:=s.w);rw[n] at g;have f:a[0]?=aa t:=m;have b:sb.size=l.length:=by rw[<-q];exact iJ.symm
 refine⟨.int .i64 l.length,?_,Rd.int (by simp only[bx];omega),?_⟩ <;>
 simp[ay,h,resolve,invoke,builtin,Builtin.len_,d,g,goInt,f,b]
def St.newRow(s:St)(E:ar)(vs:List ak):St :=
 { β:=s.β,M:=λb o=>if b=s.w.heap.size then vs[o]? else s.M b o,w:=s.w.alloc (.cells vs.toArray E),own:=s.own }
def aJ.newRow{σ:List aW}{s:St}(h:aJ σ s)(E:ar)(vs:List ak):aJ σ (s.newRow E vs)/\Step σ s σ (s.newRow E vs):=by
 refine h.grow (by simp) (λb hb=>cE _ _ hb) (λb hb o=>by grind) (λb hb o v a=>?_) rfl rfl rfl
 by_cases e:b=s.w.heap.size
 .subst e;simp at a;show aZ (s.w.alloc (.cells vs.toArray E)) ⟨s.w.heap.size,o,af⟩=aa v;unfold aZ;simp only[dt];simpa using a
 .simp only[e,b5] at a;have:=h.block a;omega
def G4(s:St)(E:ar)(vs:List ak):∀ p u,vs[p]?=aa u->(s.newRow E vs).M s.w.heap.size (0+p)=aa u:=by
 intro p u h;simpa[St.newRow] using h
def gC:List A->Option (List C)
 |[]=>aa []
 |.c c::r=>match gC r with|some q=>aa (c::q)|none=>af
 |.vec _ k n es::r=>match gC r with|some q=>aa (.sl ae k n es::q)|none=>af
 |_::_=>af
def kg{σ:List aW}{s:St}:∀ {cs:List A}{r:List C}{vs:List ak},gC cs=aa r->dG σ s vs cs->dG σ s vs (r.map A.c)
 |[],r,vs,h,a=>by cases h;exact a
 |_::_,_,[],_,a=>a.elim
 |.c c::al,r,v::vs,h,a=>by
  simp only[gC] at h;cases b:gC al with
  |none=>simp[b] at h
  |some q=>simp[b] at h;subst h;exact⟨a.1,kg b a.2⟩
 |.vec l k n es::al,r,v::vs,h,a=>by
  simp only[gC] at h;cases b:gC al with
  |none=>simp[b] at h
  |some q=>simp[b] at h;subst h;exact⟨a.1.1,kg b a.2⟩
 |.ptr l o::al,r,v::vs,h,a=>by simp[gC] at h
 |.ref l::al,r,v::vs,h,a=>by simp[gC] at h
 |.bp l w::al,r,v::vs,h,a=>by simp[gC] at h
 |.any::al,r,v::vs,h,a=>by simp[gC] at h
def qw{α:Type}(k:Nat):Nat->List α->Option (List (List α))
 |0,[]=>aa []
 |0,_::_=>af
 |n+1,l=>match ot k l with
  |some c=>match qw k n (hX k l) with
   |some r=>aa (c::r)
   |none=>af
  |none=>af
def dG.closed{σ:List aW}{s:St}:∀ {vs:List ak}{cs:List C},dG σ s vs (cs.map A.c)->∀ (j:Nat)(c:C),cs[j]?=aa c->∃ v,vs[j]?=aa v/\Rd s.M v c:=by
 intro vs cs h j c hj;obtain⟨v,h1,h2⟩:=h.get (j:=j) (a:=.c c) (by simp[hj])
 exact⟨v,h1,h2⟩
def sK{M:Mem}{k:Nat}:∀ {n:Nat}{cs:List C}{es:List (List C)}{vs:List ak},qw k n cs=aa es->vs.length=cs.length->(∀ (j:Nat)(c:C),cs[j]?=aa c->∃ v,vs[j]?=aa v/\Rd M v c)->es.length=n/\Flat M k n (λi=>es.getD i []) vs
 |0,[],es,vs,h,a,l=>by cases h;simp at a;subst a;exact⟨rfl,.nil⟩
 |0,_::_,es,vs,h,a,l=>by cases h
 |n+1,cs,es,vs,h,a,l=>by
  simp only[qw] at h;cases g:ot k cs with
  |none=>simp[g] at h
  |some c =>
   simp only[g] at h;cases d:qw k n (hX k cs) with
   |none=>simp[d] at h
   |some q =>
    simp[d] at h;subst h;obtain⟨f,b⟩:=na g;rw[nn] at d;obtain⟨p,o⟩:=sK (vs:=vs.drop k) d (by simp[a]) (λj c m=>by
     obtain⟨v,f,b⟩:=l (k+j) c (by simpa using m)
     exact⟨v,by simpa using f,b⟩)
    refine⟨by simp[p],?_⟩
    have s:k<=cs.length:=by rw[f,List.length_take] at b;omega
    have r:Flat M k 1 (λ_=>c) (vs.take k):=by
     refine⟨by simp[a];omega,by simp[b],λi hi j x m=>?_⟩
     grind
    have:=r.append o;rw[ln 1 n] at this;have e:cJ 1 (λ_=>c) (λi=>q.getD i [])=λi=>(c::q).getD i []:=by
     funext i
     cases i <;> simp[cJ]
    rw[e] at this;simpa using this
def Dv(T:List (Nat×TI))(a:an->D)(t:ar)(n:Nat)(parts:List (Nat×an)):Option (Nat×List (List C)) :=
 match bA T t with
 |some i=>match i.desc with
  |.slice E=>match bA T E with
   |some ie=>match aA ie.size 0 with
    |true=>af
    |false=>match bq (n*ie.size) 16777216 with
     |true=>match nT a parts with
      |some ps=>match vq (λk=>aa (k*ie.size,ie.size)) ps (List.replicate (n*ie.size) A.any) with
       |some cs=>match gC cs with
        |some r=>match qw ie.size n r with
         |some es=>aa (ie.size,es)
         |none=>af
        |none=>af
       |none=>af
      |none=>af
     |false=>af
   |none=>af
  |_=>af
 |none=>af
def bF.buildSlice{P:aq}{T:List (Nat×TI)}(O:db P T){o:aw}{V:an->D}{σ:List aW}{t:ar}{n:Nat}{parts:Array (Nat×an)}(h:o.op=.buildSlice t n parts){k:Nat}{es:List (List C)}
  (a:Dv T V t n parts.toList=aa (k,es)):bF P o V σ (.e (.one (.c (.sl ab k n λi=>es.getD i [])))) σ:=by
 intro s ρ hh hr;unfold Dv at a;cases hi:bA T t with
 |none=>simp[hi] at a
 |some i =>
  simp only[hi] at a;cases U:i.desc with
  |slice E =>
   simp only[U] at a;cases G:bA T E with
   |none=>simp[G] at a
   |some ie =>
    simp only[G] at a;cases N:aA ie.size 0 with
    |true=>simp[N] at a
    |false =>
     simp only[N] at a;cases B:bq (n*ie.size) 16777216 with
     |false=>simp[B] at a
     |true =>
      simp only[B] at a;cases y:nT V parts.toList with
      |none=>simp[y] at a
      |some ps =>
       simp only[y] at a;cases g:vq (λk=>aa (k*ie.size,ie.size)) ps (List.replicate (n*ie.size) A.any) with
       |none=>simp[g] at a
       |some cs =>
        simp only[g] at a;cases j:gC cs with
        |none=>simp[j] at a
        |some r =>
         simp only[j] at a;cases l:qw ie.size n r with
         |none=>simp[l] at a
         |some es' =>
          simp only[l,de,kZ] at a;obtain⟨rfl,rfl⟩:=a;have W:ie.size≠0:=λe=>by rw[e] at N;cases N
          have Y:=c7 B;obtain⟨inf,z,z1,z2,z3,z4,Z,z6,z7⟩:=(O E ie G).info;have hzs:z.cells.size=ie.size:=by
           have:=di List.length Z
           grind
          have hzc:∀ v∈z.cells.toList,cX v=ab:=by
           intro v F;have d:qc v∈z.cells.toList.map qc:=mh.2 ⟨v,F,rfl⟩;rw[Z] at d;obtain⟨c,_,hc⟩:=mh.1 d;exact(Rd.qc (M:=s.M) hc.symm).cell
          have I:∀ m,(∀ v∈(bh m).map (λq=>z.cells[q % z.cells.size]!),cX v=ab):=by
           intro m v F;obtain⟨q,_,rfl⟩:=mh.1 F;have ur:q % z.cells.size<z.cells.size:=hJ _ (by omega)
           grind
          have K:∀ vs:List ak,(∀ v∈vs,cX v=ab)->dG σ s vs (List.replicate vs.length A.any):=by
           intro vs
           induction vs with
           |nil=>intro _;trivial
           |cons v vs ih=>intro F;exact⟨F v (by simp),ih λu J=>F u (by simp[J])⟩
          obtain⟨p1,p2⟩:=pO (σ:=σ) (s:=s) hr y;have R:dG σ s ((Array.range (n*ie.size)).map (λq=>z.cells[q % z.cells.size]!)).toList (List.replicate (n*ie.size) A.any):=by
           have:=K _ (I (n*ie.size));simpa using this
          obtain⟨L,u1,u2⟩:=rB (σ:=σ) (s:=s) (place':=λk=>aa (k*ie.size,ie.size)) (λk p hk=>hk) g p1 p2 R
          have u3:=kg j u2;obtain⟨c1,c2⟩:=sK (M:=s.M) (vs:=L.toList) l (by simpa using u3.length) u3.closed
          obtain⟨g1,g2⟩:=hh.newRow E L.toList;refine⟨.value (.slice (aa ⟨s.w.heap.size,0,af⟩) n n),s.newRow E L.toList,?_,?_,g1,g2,?_⟩
          rotate_left 2
          .have e:(ay ρ o).events P s.w #[]=#[]:=by
            simp only[ay,h];exact cK.bind cK.buildSlice (λ_=>cK.pure) _ _
           rw[e];exact .nil
          .have J:=(O t i hi).run_underlying (w:=s.w);rw[U] at J;have Q:(zeroValue E).run P s.w=.ok z s.w:=by simp[zeroValue,typeInfo,z1,z4]
           have f:Instr.fill (λk=>aa (k*ie.size,ie.size)) ((Array.range (n*ie.size)).map (λq=>z.cells[q % z.cells.size]!)) (parts.map λ(i,x)=>(i,ρ x)).toList=aa L:=by simpa using u1
           by_cases X:n*ie.size=0
           .have S:n=0:=by rcases Nat.mul_eq_zero.1 X with h|h;exact h;exact absurd h W
            subst S;have H:Array.range 0=#[]:=rfl;simp[H] at f;simp[ay,h,Instr.buildSlice,J,(O E ie G).run_sizeOf,H,f,Go.newRow,St.newRow]
           .rw[show ay ρ o=(do pure (.value (<-Instr.buildSlice t n (parts.map λ(i,x)=>(i,ρ x))))) by simp[ay,h]]
            simp only[Instr.buildSlice,bS,J,b7,(O E ie G).run_sizeOf,X,b5,Q,show ¬n*ie.size>2 ^ 24 by omega,pH,f,cW]
            simp[Go.newRow,St.newRow]
          .refine Rd.qt (c2.mono g2.mem) (b:=s.w.heap.size) (off:=0) (λ_=>rfl) (bc _) ?_ (λ_=>rfl) (G4 s E L.toList)
           have:n<=n*ie.size:=qS n (by omega)
           omega
  |_=>simp[U] at a
def Ext.trans{σ σ1 σ2:List aW}{s a s2:St}(h:Ext σ s σ1 a)(k:Ext σ1 a σ2 s2):Ext σ s σ2 s2:=by
 refine⟨λb o v e=>k.mem _ _ _ (h.mem _ _ _ e),λl B L r j=>?_⟩
 obtain⟨B1,L1,h1,h2,n⟩:=h.box l B L r j;obtain⟨p,f,k1,m,c⟩:=k.box l B1 L1 h1 h2;exact⟨p,f,k1,m,n.trans c⟩
def fS{α:Type}{l:List α}{x y:α}{i:Nat}(h:(l++[x])[i]?=aa y):l[i]?=aa y∨(i=l.length/\y=x):=by
 grind
def aJ.gT{σ:List aW}{s a:St}(h1:aJ σ a)(st:Step σ s σ a)(o:a.β=s.β)(hh:aJ σ s){B:aW}{L:Loc}(p:eJ (σ++[B]) { a with β:=a.β++[L] } B L)
  (f:∀ b∈L.bs,s.w.heap.size<=b/\b<a.w.heap.size):aJ (σ++[B]) { a with β:=a.β++[L] }/\Step σ s (σ++[B]) { a with β:=a.β++[L] }:=by
 have ex:Ext σ a (σ++[B]) { a with β:=a.β++[L] }:=by
  refine⟨λ_ _ _ h=>h,λl B' L' l7 ga=>?_⟩
  have hl:l<a.β.length:=(cg.1 ga).1;have n:l<σ.length:=(cg.1 l7).1;exact⟨B',L',by grind,by grind,.refl _ _⟩
 have e2:=st.ext.trans ex;refine⟨⟨h1.mem,by simp[h1.len],?_,?_,?_,?_⟩,⟨st.size,st.eB,st.mem,st.jk,?_,e2.box,st.os,st.tape,st.output,st.own⟩⟩
 .intro l B' L' l7 ga;rcases fS l7 with j|⟨rfl,rfl⟩
  .have hl:l<a.β.length:=by rw[h1.len];grind
   rw[jf hl] at ga;exact(h1.box l B' L' j ga).carry ex h1.len λ_ _=>⟨rfl,λ_=>rfl⟩
  .rcases fS ga with c|⟨_,rfl⟩
   .have:=(cg.1 c).1;rw[h1.len] at this;omega
   .exact p
 .intro l l' L1 L2 c k b hb rl;rcases fS c with k1|⟨rfl,rfl⟩ <;> rcases fS k with m|⟨rfl,rfl⟩
  .exact h1.fT l l' L1 L2 k1 m b hb rl
  .have a1:=f b rl;have a2:=hh.lt L1 (by grind) b hb
   omega
  .have a1:=f b hb;have a2:=hh.lt L2 (by grind) b rl
   omega
  .rfl
 .intro L' ga b hb;simp only[fR,kW] at ga;rcases ga with ga|rfl
  .exact h1.lt L' ga b hb
  .exact(f b hb).2
 .intro b hb;refine⟨(h1.own b hb).1,λL' ga P7=>?_⟩
  simp only[fR,kW] at ga;rcases ga with ga|rfl
  .exact(h1.own b hb).2 L' ga P7
  .have e:=st.own;simp only at hb;rw[e] at hb;have:=(hh.own b hb).1
   grind
 grind
def aJ.im{σ:List aW}{s:St}{M':Mem}{w':az}(hh:aJ σ s){l:Nat}{B B':aW}{L L':Loc}(r:σ[l]?=aa B)(j:s.β[l]?=aa L)(J:il B L B' L')
  (n:s.w.heap.size<=w'.heap.size) (N:∀ b,b<s.w.heap.size->b∉L.bs->w'.heap[b]?=s.w.heap[b]?) (R:∀ b,b<s.w.heap.size->b∉L.bs->∀ o,M' b o=s.M b o)
  (k:∀ b o v,s.M b o=aa v->M' b o=aa v) (H:∀ b o v,M' b o=aa v->w'.cell? ⟨b,o,af⟩=aa v)
  (I:∀ b∈L'.bs,(b∈L.bs∨s.w.heap.size<=b)/\b<w'.heap.size)
  (F:w'.os=s.w.os) (G:w'.tape=s.w.tape) (D:w'.output=s.w.output)
  (Q:eJ (σ.set l B') ⟨s.β.set l L',M',w',s.own⟩ B' L'):aJ (σ.set l B') ⟨s.β.set l L',M',w',s.own⟩/\Step σ s (σ.set l B') ⟨s.β.set l L',M',w',s.own⟩:=by
 have A:l<σ.length:=(cg.1 r).1;have z:l<s.β.length:=(cg.1 j).1;have a:∀ i X,(s.β.set l L')[i]?=aa X->(i=l/\X=L')∨(i≠l/\s.β[i]?=aa X):=by
  grind
 have ex:Ext σ s (σ.set l B') ⟨s.β.set l L',M',w',s.own⟩:=by
  refine⟨k,λi X Y c m=>?_⟩
  by_cases e:l=i
  .grind
  .exact⟨X,Y,by grind,by grind,.refl _ _⟩
 have out:∀ i X,i≠l->s.β[i]?=aa X->∀ b∈X.bs,b<s.w.heap.size/\b∉L.bs:=by
  intro i X hi c b hb;exact⟨hh.lt X (bM c) b hb,λx=>hi (hh.fT i l X L c j b hb x)⟩
 refine⟨⟨H,by simp[hh.len],?_,?_,?_,?_⟩,⟨n,?_,k,?_,?_,ex.box,F,G,D,rfl⟩⟩
 .intro i X Y c m;rcases a i Y m with⟨rfl,rfl⟩|⟨hi,m⟩
  .grind
  .rw[fE (λe=>hi e.symm)] at c
   refine(hh.box i X Y c m).carry ex hh.len λb hb=>?_
   grind
 .intro i C X y c h b hb rl;rcases a i X c with⟨rfl,rfl⟩|⟨hi,u⟩ <;> rcases a C y h with⟨rfl,rfl⟩|⟨p,f⟩
  .rfl
  .grind
  .grind
  .exact hh.fT i C X y u f b hb rl
 .intro X c b hb;obtain⟨i,hi,rfl⟩:=dX c;rcases a i _ (bl hi) with⟨rfl,e⟩|⟨p,h⟩
  .grind
  grind
 .intro b hb;obtain⟨K,O⟩:=hh.own b hb
  grind
 .grind
 .grind
 grind
def rm{a old bytes:Nat}(h:old<a)(b:a*bytes<=140737488355328):¬Builtin.nextslicecap a old*bytes>2 ^ 48:=by
 have:=growslice_fits h b;omega
section
variable {P:aq}{T:List (Nat×TI)}(q:db P T){σ:List aW}{s:St}{t g ty E:ar}{i i2 d:TI}
def jb(hi:bH P t i)(u:i.desc=.slice E)(f:bH P g i2)(j:i2.desc=.slice E)(v:bH P E d)(y:aJ σ s)
  {a:Option Addr} {n cap:Nat} (c:n<=cap) {x:ak} {tx:Bool} {es':Nat->List C} (l:Rd s.M x (.sl tx d.size 0 es')) :
  (Builtin.append_ #[t,g] ty #[.slice a n cap,x]).run P s.w=.ok (.slice a n cap) s.w:=by
 obtain⟨b,p,r,o⟩:=dH (P:=P) y l;have k:=hi.run_underlying (w:=s.w);have e:=f.run_underlying (w:=s.w);rw[u] at k;rw[j] at e;obtain⟨a',m,vs,rfl,_⟩:=l.flat;have h:b=[]:=gf (by simpa using p.len)
 subst h;cases a <;> simp[Builtin.append_,k,e,v.run_sizeOf,Builtin.lenOf,c,r,storeCells]
def iu(hi:bH P t i)(hd:i.desc=.slice E)(G:bH P g i2)(H:i2.desc=.slice E)(L:bH P E d)(V:aJ σ s)
  {a:Option Addr} {n cap m:Nat} {U tx:Bool} {es es':Nat->List C} {x:ak} (hv:Rd s.M (.slice a n cap) (.sl U d.size n es)) (S:Rd s.M x (.sl tx d.size m es')) (hg:cap<n+m) (N:(n+m)*d.bytes<=140737488355328) (F:d.bytes≠0) :
  ∃ vs zs MU,Flat s.M d.size (n+m) (cJ n es es') vs/\n+m<=MU/\MU<=9223372036854775807/\(vs++zs).length=MU*d.size /\
   (Builtin.append_ #[t,g] ty #[.slice a n cap,x]).run P s.w=.ok (.slice (aa ⟨s.w.heap.size,0,af⟩) (n+m) MU) (s.w.drew.alloc (.cells (vs++zs).toArray E)):=by
 have y:aJ σ { s with w:=s.w.drew }:=V.same rfl;obtain⟨b,Q,B,l⟩:=dH (P:=P) y (v:=x) S;obtain⟨c,o,f,hlo⟩:=dH (P:=P) y (v:=.slice a n cap) hv;have O:=hi.run_underlying (w:=s.w);have k:=G.run_underlying (w:=s.w);rw[hd] at O;rw[H] at k;obtain⟨j,z,R,z2,Y,W,X,z6,z7⟩:=L.info;have hle:n+m<=140737488355328:=ez (qS _ (Nat.pos_of_ne_zero F)) N;have A:z.cells.size=d.size:=by
  have:=di List.length X;simp at this;omega
 refine⟨c++b,(Builtin.zeroCells z.cells (grownCap s.w (n+m) cap E-(n+m))).toList,grownCap s.w (n+m) cap E,o.append Q,grownCap_ge _ _ _ _,?_,?_,?_⟩
 .have:=grownCap_le_maxLen s.w (n+m) cap E (by unfold maxLen;omega)
  unfold maxLen at this;omega
 .have Pb:=grownCap_ge s.w (n+m) cap E;simp only[bG,o.len,Q.len,iJ,size_zeroCells,A,<-gB]
  congr 1
  omega
 .have K:=rm hg N;have r:¬Builtin.nextslicecap (n+m) cap*j.bytes>2 ^ 48:=by rw[Y];exact K
  have p:¬n+m<=cap:=by omega
  have J:¬((n+m:Nat):Int)>IntKind.i64.max:=by
   have e:IntKind.i64.max=9223372036854775807:=rfl;rw[e];omega
  have I:∀ u,(typeInfo E).run P u=.ok j u:=λu=>by simp[typeInfo,R]
  have D:∀ u,(zeroValue E).run P u=.ok z u:=λu=>by simp[zeroValue,typeInfo,R,W]
  have h:(Builtin.lenOf x).run P s.w=.ok m s.w:=by rw[l];rfl
  replace B:(Builtin.firstCells d.size m x).run P s.w.drew=.ok b.toArray s.w.drew:=B
  replace f:(Builtin.firstCells d.size n (.slice a n cap)).run P s.w.drew=.ok c.toArray s.w.drew:=f
  unfold Builtin.append_;simp only[iH,kV,mN,bS,O,k,b7,L.run_sizeOf,cW,jB,b5,h,p,
   J,false_and,I,r,run_choose,Question.forced,run_askRoom,pH,World.drew_eq,f,B,j5,cj,D]
  simp[Go.newRow,grownCap];have e:∀ Z:Array ak,(c++b).toArray++Z=(c++(b++Z.toList)).toArray:=λZ=>by apply hO;simp
  rw[e];rfl
def j9(hi:bH P t i)(F:i.desc=.slice E)(p:bH P g i2)(r:i2.desc=.slice E)(A:bH P E d)(D:aJ σ s)
  {b n cap m:Nat} {u:ar} {c:List ak} (G:s.w.heap[b]?=aa (.cells c.toArray u (0,0))) (k:c.length=cap*d.size) {tx:Bool} {es':Nat->List C} {x:ak} (z:Rd s.M x (.sl tx d.size m es')) (y:n+m<=cap) :
  ∃ a,Flat s.M d.size m es' a/\(Builtin.append_ #[t,g] ty #[.slice (aa ⟨b,0,af⟩) n cap,x]).run P s.w=.ok (.slice (aa ⟨b,0,af⟩) (n+m) cap) (s.w.setRow b (c.take (n*d.size)++a++c.drop (n*d.size+a.length)).toArray):=by
 obtain⟨a,o,B,j⟩:=dH (P:=P) D z;have v:=hi.run_underlying (w:=s.w);have h:=p.run_underlying (w:=s.w);rw[F] at v;rw[r] at h;have f:n*d.size+a.length<=c.length:=by
  rw[o.len,k,<-gB];exact ei _ y
 have l:=run_storeCells_at P b (n*d.size) u a 0 c.toArray s.w G (by simpa using f) o.cell
 simp only[iM] at l;have e:(Builtin.lenOf x).run P s.w=.ok m s.w:=by rw[j];rfl
 refine⟨a,o,?_⟩;unfold Builtin.append_;simp only[iH,kV,mN,bS,v,h,b7,A.run_sizeOf,cW,jB,b5,e,y,cj,j5,B,c9,br,l]
end
def Dr{α:Type}{P:aq}{x:Sem α}{w:az}{es:Array Event}{e:Event}(h:e∈x.events P w es):e∈es∨e∈x.events P w #[]:=by
 rw[Sem.events_acc] at h
 grind
def ZD(s:St)(e:Event):Prop:=∃ b o u,e=zk b o/\s.M b o=aa u
def gN{P:aq}{σ:List aW}{s:St}(D:aJ σ s){v:ak}{t:Bool}{k n:Nat}{es:Nat->List C}(h:Rd s.M v (.sl t k n es)){w:az}(z:w.heap=s.w.heap) :
  ∀ e∈(Builtin.firstCells k n v).events P w #[],ZD s e:=by
 obtain⟨a,cap,vs,rfl,r,H,I,x,F⟩:=h.flat;have J:vs.length=n*k:=x.len;intro e l;cases a with
 |none=>simp[Builtin.firstCells] at l
 |some ad =>
  simp only[Builtin.firstCells] at l;have c:∀ j,j<n*k->∃ b off u,ad=⟨b,off,af⟩/\s.M b (off+j)=aa u:=by
   intro j m;obtain⟨b,off,G,o⟩:=F j (vs[j]'(by omega)) (bl (by omega))
   grind
  by_cases y:n*k=0
  .rw[y] at l;simp[loadCells,loadCellsFrom] at l
  .obtain⟨b,off,_,rfl,_⟩:=c 0 (by omega)
   have A:∀ j,j<n*k->∃ v,w.cell? ⟨b,off+j,af⟩=aa v:=by
    intro j m;obtain⟨B,f,u,p,o⟩:=c j m;cases p;have:=D.mem _ _ _ o;exact⟨u,by simp only[aZ,z] at this ⊢;exact this⟩
   rcases rn (P:=P) A e l with h|⟨j,m,rfl⟩
   .simp at h
   .obtain⟨B,f,u,p,o⟩:=c j m;cases p;exact⟨_,_,u,rfl,o⟩
def sJ{s:St}{e:Event}(h:ZD s e):oB s e:=by
 obtain⟨b,o,u,rfl,a⟩:=h;exact Bb a
section
variable {P:aq}{σ:List aW}{s:St}{t g ty E:ar}{i i2 d:TI}
def jF(hi:bH P t i)(z:i.desc=.slice E)(j:bH P g i2)(m:i2.desc=.slice E)(A:bH P E d)(p:aJ σ s)
  {a:Option Addr} {n cap:Nat} (c:n<=cap) {x:ak} {tx:Bool} {es':Nat->List C} (h:Rd s.M x (.sl tx d.size 0 es')) :
  eU s ((Builtin.append_ #[t,g] ty #[.slice a n cap,x]).events P s.w #[]):=by
 obtain⟨b,v,y,u⟩:=dH (P:=P) p h;have l:=gN (P:=P) p h (w:=s.w) rfl;have o:=hi.run_underlying (w:=s.w);have f:=j.run_underlying (w:=s.w);rw[z] at o;rw[m] at f;obtain⟨a',r,vs,rfl,_⟩:=h.flat;have k:b=[]:=gf (by simpa using v.len)
 subst k;intro e B;refine sJ (l e ?_);cases a <;> simpa[Builtin.append_,o,f,A.run_sizeOf,Builtin.lenOf,c,y,storeCells] using B
def iR(hi:bH P t i)(hd:i.desc=.slice E)(N:bH P g i2)(O:i2.desc=.slice E)(W:bH P E d)(K:aJ σ s)
  {a:Option Addr} {n cap m:Nat} {td tx:Bool} {es es':Nat->List C} {x:ak} (hv:Rd s.M (.slice a n cap) (.sl td d.size n es)) (V:Rd s.M x (.sl tx d.size m es')) (hg:cap<n+m) (X:(n+m)*d.bytes<=140737488355328) (L:d.bytes≠0) :
  eU s ((Builtin.append_ #[t,g] ty #[.slice a n cap,x]).events P s.w #[]):=by
 have G:aJ σ { s with w:=s.w.drew }:=K.same rfl;obtain⟨A,hF,I,c⟩:=dH (P:=P) G (v:=x) V;obtain⟨B,hFo,k,hlo⟩:=dH (P:=P) G (v:=.slice a n cap) hv;have U:=gN (P:=P) K V (w:=s.w.drew) rfl;have y:=gN (P:=P) K hv (w:=s.w.drew) rfl;have Y:=hi.run_underlying (w:=s.w);have p:=N.run_underlying (w:=s.w);rw[hd] at Y;rw[O] at p;obtain⟨f,z,Z,z2,z3,z4,z5,z6,z7⟩:=W.info;have hle:n+m<=140737488355328:=ez (qS _ (Nat.pos_of_ne_zero L)) X;have S:=rm hg X;have F:¬Builtin.nextslicecap (n+m) cap*f.bytes>2 ^ 48:=by rw[z3];exact S
 have D:¬n+m<=cap:=by omega
 have R:¬((n+m:Nat):Int)>IntKind.i64.max:=by
  have e:IntKind.i64.max=9223372036854775807:=rfl;rw[e];omega
 have Q:∀ u,(typeInfo E).run P u=.ok f u:=λu=>by simp[typeInfo,Z]
 have J:∀ u,(zeroValue E).run P u=.ok z u:=λu=>by simp[zeroValue,typeInfo,Z,z4]
 have l:(Builtin.lenOf x).run P s.w=.ok m s.w:=by rw[c];rfl
 have j:(Builtin.lenOf x).events P s.w #[]=#[]:=by rw[c];rfl
 replace I:(Builtin.firstCells d.size m x).run P s.w.drew=.ok A.toArray s.w.drew:=I
 replace k:(Builtin.firstCells d.size n (.slice a n cap)).run P s.w.drew=.ok B.toArray s.w.drew:=k
 intro e o;unfold Builtin.append_ at o;simp only[iH,kV,mN,aP,bS,Y,p,b7,aU,W.run_sizeOf,cW,jB,b5,l,j,D,
  R,false_and,Q,F,run_choose,Question.forced,run_askRoom,pH,Sem.events_ite,World.drew_eq,k,I,j5,cj,J,events_underlying,events_sizeOf,events_typeInfo,events_choose,events_zeroValue,Sem.events_pure] at o
 have H:∀ (x:Nat) (w:az) (e:Event),e∈(askRoom x).events P w #[]->e=⟨.mark .noRoom,ae,ab⟩:=by
  intro x w e h;unfold askRoom at h
  simp_all
 rw[cK.newRow (P:=P)] at o;generalize (Go.newRow E _).run P s.w.drew=r at o;have b:e∈(Builtin.firstCells d.size m x).events P s.w.drew ((Builtin.firstCells d.size n (.slice a n cap)).events P s.w.drew ((askRoom ((Question.appendCap (n+m) cap E).cut (s.w.tape s.w.drawn (Question.appendCap (n+m) cap E))*f.bytes)).events P s.w.drew #[])):=by
  cases r with
  |ok v w'=>simpa using o
  |halt v w'=>simpa using o
 rcases Dr b with b|b
 .rcases Dr b with b|b
  .rw[H _ _ _ b];exact .inl rfl
  .exact sJ (y e b)
 .exact sJ (U e b)
def lJ(hi:bH P t i)(S:i.desc=.slice E)(B:bH P g i2)(D:i2.desc=.slice E)(Q:bH P E d)(J:aJ σ s)
  {b n cap m:Nat} {I:ar} {a:List ak} (N:s.w.heap[b]?=aa (.cells a.toArray I (0,0))) (v:a.length=cap*d.size) {tx:Bool} {es':Nat->List C} {x:ak} (H:Rd s.M x (.sl tx d.size m es')) (O:n+m<=cap)
  {L:Loc} (U:L∈s.β) (G:b∈L.bs) (p:∀ o,n*d.size<=o->s.M b o=af) :
  eU s ((Builtin.append_ #[t,g] ty #[.slice (aa ⟨b,0,af⟩) n cap,x]).events P s.w #[]):=by
 obtain⟨c,A,R,k⟩:=dH (P:=P) J H;have F:=gN (P:=P) J H (w:=s.w) rfl;have K:=hi.run_underlying (w:=s.w);have u:=B.run_underlying (w:=s.w);rw[S] at K;rw[D] at u;have f:n*d.size+c.length<=a.length:=by
  rw[A.len,v,<-gB];exact ei _ O
 have y:=run_storeCells_at P b (n*d.size) I c 0 a.toArray s.w N (by simpa using f) A.cell
 simp only[iM] at y;have r:(Builtin.lenOf x).run P s.w=.ok m s.w:=by rw[k];rfl
 have l:(Builtin.lenOf x).events P s.w #[]=#[]:=by rw[k];rfl
 intro e z;unfold Builtin.append_ at z;simp only[iH,kV,mN,aP,bS,K,u,aU,Q.run_sizeOf,cW,jB,b5,r,l,O,cj,j5,R,c9,br,y,
  pH,Sem.events_ite,events_underlying,events_sizeOf,Sem.events_pure] at z
 rcases eD c 0 a.toArray s.w _ N (by simpa using f) A.cell e z with h|⟨j,V,W,rfl⟩
 .exact sJ (F e h)
 .exact mn U G (p _ (by omega))
end
structure mj (P:aq)(o:aw)(x y:an)(E:ar)(d:TI):Prop where
 op:∃ t g i i2,o.op=.call { callee:=.builtin .append,args:=#[x,y],argTypes:=#[t,g] }/\bH P t i/\i.desc=.slice E/\bH P g i2/\i2.desc=.slice E
 elem:bH P E d
 bytes:d.bytes≠0
 size:d.size≠0
def St.grown(s:St)(E:ar)(vs zs:List ak)(β:List Loc):St :=
 { β:=β,M:=λb o=>if b=s.w.heap.size then vs[o]? else s.M b o,w:=s.w.drew.alloc (.cells (vs++zs).toArray E),own:=s.own }
def x7{σ:List aW}{s:St}(h:aJ σ s)(E:ar)(vs zs:List ak):∀ b o v,(if b=s.w.heap.size then vs[o]? else s.M b o)=aa v->(s.w.drew.alloc (.cells (vs++zs).toArray E)).cell? ⟨b,o,af⟩=aa v:=by
 intro b o v a
 by_cases e:b=s.w.heap.size
 .subst e;simp only[cj] at a;unfold aZ;have:(s.w.drew.alloc (.cells (vs++zs).toArray E)).heap[s.w.heap.size]?=aa (.cells (vs++zs).toArray E):=dt s.w.drew _
  grind
 .simp only[e,b5] at a;have c:=h.block a;rw[<-h.mem b o v a];unfold aZ;have:(s.w.drew.alloc (.cells (vs++zs).toArray E)).heap[b]?=s.w.heap[b]?:=cE s.w.drew _ c;simp only[this]
def x8{σ:List aW}{s:St}(h:aJ σ s)(vs:List ak):∀ b o v,s.M b o=aa v->(if b=s.w.heap.size then vs[o]? else s.M b o)=aa v:=by
 intro b o v a;have:=h.block a
 grind
def eu{P:aq}{s:St}{m:Sem ak}(h:eU s (m.events P s.w #[])):eU s ((do pure (.value (<-m)):Sem Next).events P s.w #[]):=by
 simp_all
def cY{o:aw}{x y:an}{t g:ar}(h:o.op=.call { callee:=.builtin .append,args:=#[x,y],argTypes:=#[t,g] })(ρ:an->ak) :
  ay ρ o=(do pure (.value (<-Builtin.append_ #[t,g] o.type #[ρ x,ρ y]))):=by
 simp[ay,h,resolve,invoke,builtin]
def Rd.loose{M:Mem}{v:ak}{t:Bool}{k n:Nat}{es:Nat->List C}(h:Rd M v (.sl t k n es)):Rd M v (.sl ae k n es):=by
 cases h with
 |sl b off f a hb ht hk ha hm hr=>exact .sl b off f a hb (by simp) hk ha hm hr
def Rd.Dn{M:Mem}{v:ak}{t:Bool}{k n:Nat}{es es':Nat->List C}(e:∀ i,i<n->es i=es' i)(h:Rd M v (.sl t k n es)):Rd M v (.sl t k n es'):=by
 cases h with
 |sl b off f a hb ht hk ha hm hr=>exact .sl b off f a hb ht (λi hi=>by grind) ha (λi hi j c hj=>hm i hi j c (by rw[e i hi];exact hj)) (λi hi j c hj=>hr i hi j c (by rw[e i hi];exact hj))
def Rd.uV{M:Mem}{v:ak}{k k' n:Nat}{es:Nat->List C}(c:k=k'∨n=0)(h:Rd M v (.sl ab k n es)):Rd M v (.sl ab k' n es):=by
 rcases c with rfl|rfl
 .exact h
 .obtain⟨a,cap,vs,b,j,e,f,_⟩:=h.flat;rw[b];have:=f rfl;subst this;exact Rd.jG
def pK{σ:List aW}{s:St}{l:Nat}{E:ar}{k n:Nat}{es:Nat->List C}{L:Loc}(a:σ[l]?=aa (.vec E k n es))(b:s.β[l]?=aa L)(h:eJ σ s (.vec E k n es) L):gu σ s L.v (.vec l k n es):=by
 refine⟨h.1,(cg.1 a).1,λc k' n' es' he=>?_⟩
 grind
def bF.oR{P:aq}{o:aw}{S:an->D}{σ:List aW}{x y:an}{E:ar}{d:TI}(h:mj P o x y E d){n m k:Nat}{tx:Bool}{es es':Nat->List C}
  (X:S x=.e (.one (.c (.sl ab k n es)))) (hk:k=d.size∨n=0) (hy:∀ s v,c8 σ s v (S y)->Rd s.M v (.sl tx d.size m es')) (hb:(n+m)*d.bytes<=140737488355328) (hz:n=0∨0<m) :
  bF P o S σ (.e (.one (.vec σ.length d.size (n+m) (cJ n es es')))) (σ++[.vec E d.size (n+m) (cJ n es es')]):=by
 intro s ρ hh hr;obtain⟨t,g,i,i2,N,hi,K,z,A⟩:=h.op;have h1:=hr x;rw[X] at h1;have j:=Rd.uV hk (fC h1);have h2:=hy s _ (hr y);obtain⟨a,cap,vs,hv,B,IF,ht,hF,V⟩:=j.flat;have U:cap=n:=ht rfl;subst U;rw[cY N];rw[hv] at j ⊢
 by_cases Y:m=0
 .subst Y;have r:=jb (P:=P) (ty:=o.type) hi K z A h.elem hh (a:=a) B h2;simp only[iM];have j:=Rd.Dn (es':=cJ cap es es') (λi hi=>by simp[cJ,hi]) j
  have J:eJ (σ++[.vec E d.size cap (cJ cap es es')]) { s with β:=s.β++[⟨.slice a cap cap,[]⟩] } (.vec E d.size cap (cJ cap es es')) ⟨.slice a cap cap,[]⟩:=⟨j.loose,.inl ⟨⟨rfl,by omega⟩,j⟩⟩
  obtain⟨Q,g2⟩:=hh.gT (.refl _ _) rfl hh J (by simp)
  refine⟨.value (.slice a cap cap),_,?_,?_,Q,g2,eu (jF hi K z A h.elem hh B h2)⟩
  .simp[r]
  .exact pK (by simp) (by simp[<-hh.len]) J
 .have W:cap<cap+m:=by omega
  obtain⟨l,F,f,H,L,O,I,r⟩:=iu (P:=P) (ty:=o.type) hi K z A h.elem hh j h2 W hb h.bytes;have G:aJ σ (s.grown E l F s.β)/\Step σ s σ (s.grown E l F s.β) :=
   hh.grow (by simp) (λb hb=>cE s.w.drew _ hb) (λb hb o=>by grind)
    (λb hb o v V=>x7 hh E l F b o v V) rfl rfl rfl
  have R:Rd (s.grown E l F s.β).M (.slice (aa ⟨s.w.heap.size,0,af⟩) (cap+m) f) (.sl ae d.size (cap+m) (cJ cap es es')) :=
   Rd.qt (H.mono G.2.mem) (b:=s.w.heap.size) (off:=0) (λ_=>rfl) L O (by simp) (λp u Z=>by simpa[St.grown] using Z)
  have J:eJ (σ++[.vec E d.size (cap+m) (cJ cap es es')]) { (s.grown E l F s.β) with β:=(s.grown E l F s.β).β++[⟨.slice (aa ⟨s.w.heap.size,0,af⟩) (cap+m) f,[s.w.heap.size]⟩] } (.vec E d.size (cap+m) (cJ cap es es')) ⟨.slice (aa ⟨s.w.heap.size,0,af⟩) (cap+m) f,[s.w.heap.size]⟩:=by
   refine⟨R,.inr ⟨s.w.heap.size,f,l++F,rfl,dt s.w.drew _,I,λo N=>?_⟩⟩
   have hl:l.length<=o:=by rw[H.len];exact N
   simp[St.grown,qq hl]
  obtain⟨Q,g2⟩:=G.1.gT G.2 rfl hh J (λb hb=>by
   simp at hb;subst hb;refine⟨bc _,?_⟩;simp[St.grown])
  refine⟨.value (.slice (aa ⟨s.w.heap.size,0,af⟩) (cap+m) f),_,?_,?_,Q,g2,eu (iR hi K z A h.elem hh j h2 W hb h.bytes)⟩
  .simp[r];rfl
  .exact pK (by simp) (by simp[St.grown,<-hh.len]) J
def bF.GB{P:aq}{o:aw}{η:an->D}{σ:List aW}{x y:an}{E:ar}{d:TI}(h:mj P o x y E d){l n m:Nat}{tx:Bool}{es es':Nat->List C}
  (hx:η x=.e (.one (.vec l d.size n es))) (hl:σ[l]?=aa (.vec E d.size n es)) (hy:∀ s v,c8 σ s v (η y)->Rd s.M v (.sl tx d.size m es')) (hb:(n+m)*d.bytes<=140737488355328) :
  bF P o η σ (.e (.one (.vec l d.size (n+m) (cJ n es es')))) (σ.set l (.vec E d.size (n+m) (cJ n es es'))):=by
 intro s ρ hh hr;obtain⟨t,g,i,i2,ho,hi,hd,I,K⟩:=h.op;have P8:l<σ.length:=(cg.1 hl).1;have h1:=hr x;rw[hx] at h1;obtain⟨S,_,h1v⟩:=h1;obtain⟨L,V,hv⟩:=(h1v _ _ _ _ hl).2 rfl;have h2:=hy s _ (hr y);have P9:l<s.β.length:=(cg.1 V).1;have Q:=hh.box l _ L hl V;obtain⟨a,cap,vs,Z,U,IF,ht,hF,hm⟩:=S.flat;rw[cY ho,Z];rw[Z] at S;have R:L.v=.slice a n cap:=by rw[<-hv,Z]
 by_cases h0:m=0
 .subst h0;have A:=jb (P:=P) (ty:=o.type) hi hd I K h.elem hh (a:=a) U h2;simp only[iM];have ha:∀ i,i<n->es i=cJ n es es' i:=λi hi=>by simp[cJ,hi]
  have V2:eJ (σ.set l (.vec E d.size n (cJ n es es'))) ⟨s.β.set l L,s.M,s.w,s.own⟩ (.vec E d.size n (cJ n es es')) L:=by
   refine⟨Q.1.Dn ha,?_⟩;rcases Q.2 with⟨h3,h4⟩|h3
   .exact .inl ⟨h3,h4.Dn ha⟩
   .exact .inr h3
  have f:=hh.im (M':=s.M) (w':=s.w) (B':=.vec E d.size n (cJ n es es')) (L':=L) hl V ⟨λ_=>rfl,bc _⟩ (bc _) (λ_ _ _=>rfl) (λ_ _ _ _=>rfl) (λ_ _ _ h=>h) hh.mem
   (λb hb=>⟨.inl hb,hh.lt L (bM V) b hb⟩) rfl rfl rfl V2
  refine⟨.value (.slice a n cap),_,?_,?_,f.1,f.2,eu (jF hi hd I K h.elem hh U h2)⟩
  .simp[A]
  .rw[<-R];exact pK (E:=E) (by grind) (by grind) V2
 .have O:¬(n+m=n):=by omega
  by_cases k:n+m<=cap
  .rcases Q.2 with⟨Qa,H⟩|⟨b,IV,z,rfl,hw,N,W⟩
   .rw[R] at H;obtain⟨_,_,_,e,_,_,ht2,_⟩:=H.flat
    grind
   .simp only at R;cases R;obtain⟨c,MH,A⟩:=j9 (P:=P) (ty:=o.type) hi hd I K h.elem hh hw N h2 k;have SV:c.length=m*d.size:=MH.len;have WK:b<s.w.heap.size:=(ig.1 hw).1
    let M':Mem:=λG o=>if G=b/\n*d.size<=o/\o<(n+m)*d.size then c[o-n*d.size]? else s.M G o
    have Ds:z.length=cap*d.size:=N;have hnm:(n+m)*d.size=n*d.size+m*d.size:=gB _ _ _;have WL:(n+m)*d.size<=cap*d.size:=ei _ k;have Pc:∀ G o v,s.M G o=aa v->M' G o=aa v:=by
     grind
    have P6:∀ p u,c[p]?=aa u->M' b (n*d.size+p)=aa u:=by
     grind
    have Y:Rd M' (.slice (aa ⟨b,0,af⟩) (n+m) cap) (.sl ae d.size (n+m) (cJ n es es')):=by
     refine Rd.qt (vs:=vs++c) ((hF.append MH).mono Pc) (b:=b) (off:=0) (λ_=>rfl) k IF (by simp) (λp u hp=>?_)
     have SU:vs.length=n*d.size:=hF.len
     grind
    have f:=hh.im (M':=M') (w':=s.w.setRow b (z.take (n*d.size)++c++z.drop (n*d.size+c.length)).toArray) (B':=.vec E d.size (n+m) (cJ n es es')) (L':=⟨.slice (aa ⟨b,0,af⟩) (n+m) cap,[b]⟩) hl V
     ⟨λe=>absurd e O,by omega⟩ (by simp) (λG _ r=>setRow_other _ _ _ _ (by simpa using r)) (λG _ r o=>by
      grind) Pc ?_ (λG r=>by
      simp at r;subst r;exact⟨.inl (by simp),by simpa using WK⟩) rfl rfl rfl ?_
    .refine⟨.value (.slice (aa ⟨b,0,af⟩) (n+m) cap),_,?_,?_,f.1,f.2,eu (lJ hi hd I K h.elem hh hw N h2 k (bM V) (by simp) W)⟩
     .simp[A]
     .exact pK (L:=⟨.slice (aa ⟨b,0,af⟩) (n+m) cap,[b]⟩) (E:=E) (by grind) (by grind) (f.1.box l _ _ (by grind) (by grind))
    .intro G o v J
     by_cases r:G=b
     .subst r;have X:∀ j,(s.w.setRow G (z.take (n*d.size)++c++z.drop (n*d.size+c.length)).toArray).cell? ⟨G,j,af⟩=(z.take (n*d.size)++c++z.drop (n*d.size+c.length))[j]?:=by
       intro j;rw[cell_setRow_same _ _ _ _ _ _ _ hw];simp
      rw[X];simp only[M'] at J;have hkl:(z.take (n*d.size)).length=n*d.size:=by rw[List.length_take];omega
      split at J
      .grind
      .rename_i hc
       have h3:=hh.mem G o v J;have ho:o<n*d.size:=by
        grind
       rw[ij,jf (by omega),gQ,bg ho]
       simp only[aZ,hw] at h3;simpa using h3
     .simp only[M'] at J;rw[aY (by omega)] at J
      rw[<-hh.mem G o v J];simp only[aZ];rw[setRow_other _ _ _ _ r]
    .refine⟨Y,.inr ⟨b,cap,_,rfl,setRow_heap _ _ _ _ _ _ hw,?_,λo ho=>?_⟩⟩
     .grind
     grind
  .have hg:cap<n+m:=by omega
   obtain⟨F,zs,B,Tl,V3,V4,hlen,A⟩:=iu (P:=P) (ty:=o.type) hi hd I K h.elem hh S h2 hg hb h.bytes;have hbl:∀ b∈L.bs,b<s.w.heap.size:=hh.lt L (bM V);have Y:Rd (λb o=>if b=s.w.heap.size then F[o]? else s.M b o) (.slice (aa ⟨s.w.heap.size,0,af⟩) (n+m) B) (.sl ae d.size (n+m) (cJ n es es')) :=
    Rd.qt (Tl.mono (x8 hh F)) (b:=s.w.heap.size) (off:=0) (λ_=>rfl) V3 V4 (by simp) (λp u hp=>by simpa using hp)
   have f:=hh.im (M':=λb o=>if b=s.w.heap.size then F[o]? else s.M b o) (w':=s.w.drew.alloc (.cells (F++zs).toArray E)) (B':=.vec E d.size (n+m) (cJ n es es')) (L':=⟨.slice (aa ⟨s.w.heap.size,0,af⟩) (n+m) B,[s.w.heap.size]⟩) hl V
    ⟨λe=>absurd e O,by omega⟩ (by simp) (λb hb _=>cE s.w.drew _ hb) (λb hb _ o=>by grind) (x8 hh F) (x7 hh E F zs) (λb hb=>by
     simp at hb;subst hb;exact⟨.inr (bc _),by simp⟩) rfl rfl rfl ⟨Y,.inr ⟨s.w.heap.size,B,F++zs,rfl,dt s.w.drew _,hlen,λo ho=>by
      have hl:F.length<=o:=by rw[Tl.len];exact ho
      grind⟩⟩
   refine⟨.value (.slice (aa ⟨s.w.heap.size,0,af⟩) (n+m) B),_,?_,?_,f.1,f.2,eu (iR hi hd I K h.elem hh S h2 hg hb h.bytes)⟩
   .simp[A]
   .exact pK (L:=⟨.slice (aa ⟨s.w.heap.size,0,af⟩) (n+m) B,[s.w.heap.size]⟩) (E:=E) (by grind) (by grind) (f.1.box l _ _ (by grind) (by grind))
section
open Go.Conc (G)
def kA{α:Type}:List Nat->List α->Option (List α)
 |[],_=>aa []
 |k::ks,l=>match fA k l with
  |some x=>match kA ks l with
   |some r=>aa (x::r)
   |none=>af
  |none=>af
def eW{α:Type}:∀ (n:Nat)(l:List α),fA n l=l[n]?
 |_,[]=>by simp[fA]
 |0,x::_=>by simp[fA]
 |n+1,_::xs=>by simpa[fA] using eW n xs
def gE{α:Type}:∀ {ks:List Nat}{l r:List α},kA ks l=aa r->r.length=ks.length/\∀ (j k:Nat),ks[j]?=aa k->∃ x,r[j]?=aa x/\l[k]?=aa x
 |[],l,r,h=>by cases h;simp
 |k::ks,l,r,h=>by
  simp only[kA] at h;cases a:fA k l with
  |none=>simp[a] at h
  |some x =>
   cases b:kA ks l with
   |none=>simp[a,b] at h
   |some q =>
    simp[a,b] at h;subst h;obtain⟨c,d⟩:=gE b;refine⟨by simp[c],λj k' hj=>?_⟩
    cases j with
    |zero=>simp at hj;subst hj;exact⟨x,rfl,dw a⟩
    |succ j=>grind
def vv{α f:Type}:∀ {ks:List Nat}{l r:List α}{l':List f},kA ks l=aa r->l'.length=l.length->∃ r',kA ks l'=aa r'
 |[],l,r,l',_,_=>⟨[],rfl⟩
 |k::ks,l,r,l',h,d=>by
  simp only[kA] at h;cases a:fA k l with
  |none=>simp[a] at h
  |some x =>
   cases c:kA ks l with
   |none=>simp[a,c] at h
   |some q =>
    obtain⟨r',b⟩:=vv (l':=l') c d;have e:k<l'.length:=by rw[d];exact(cg.1 (dw a)).1
    exact⟨l'[k]::r',by simp[kA,eW,e,b]⟩
def oD(ks:List Nat):A->A
 |.ptr l o=>match fA l ks with|some k=>.ptr k o|none=>.any
 |.vec l k n es=>match fA l ks with|some m=>.vec m k n es|none=>.c (.sl ae k n es)
 |.ref l=>match fA l ks with|some k=>.ref k|none=>.any
 |.bp l w=>match fA l ks with|some k=>.bp k w|none=>.any
 |.c x=>.c x
 |.any=>.any
def Bi(ks:List Nat):List A->List A
 |[]=>[]
 |a::r=>oD ks a::Bi ks r
def zu(ks:List Nat):E1->E1
 |.one a=>.one (oD ks a)
 |.agg cs=>.agg (Bi ks cs)
def yb(ks:List Nat):List E1->List E1
 |[]=>[]
 |a::r=>zu ks a::yb ks r
def jm(ks:List Nat):D->D
 |.e x=>.e (zu ks x)
 |.eN xs=>.eN (yb ks xs)
 |.any=>.any
def iT(ks:List Nat):List D->List D
 |[]=>[]
 |a::r=>jm ks a::iT ks r
def DD:A->Bool
 |.c _|.any=>ab
 |_=>ae
def zv:List A->Bool
 |[]=>ab
 |a::r=>match DD a with|true=>zv r|false=>ae
def vA:aW->Bool
 |.cells _ cs=>zv cs
 |.loop ..=>ae
 |_=>ab
def cU:List aW->Bool
 |[]=>ab
 |a::r=>match vA a with|true=>cU r|false=>ae
def jw:∀ {l:List aW},cU l=ab->∀ B∈l,vA B=ab
 |[],_,B,a=>by simp at a
 |b::r,h,B,a=>by
  simp only[cU] at h;cases c:vA b with
  |false=>simp[c] at h
  |true =>
   simp only[c] at h;rcases eY.1 a with rfl|a
   .exact c
   .exact jw h B a
def dG.plain{σ σ':List aW}{s s':St}(e:s'.M=s.M):∀ {vs:List ak}{cs:List A},zv cs=ab->dG σ s vs cs->dG σ' s' vs cs
 |[],[],_,_=>trivial
 |[],_::_,_,h=>h.elim
 |_::_,[],_,h=>h.elim
 |v::vs,a::al,b,h=>by
  simp only[zv] at b;cases d:DD a with
  |false=>simp[d] at b
  |true =>
   simp only[d] at b;refine⟨?_,dG.plain e b h.2⟩;cases a with
   |c x=>have:=h.1;simp only[gu] at this ⊢;rw[e];exact this
   |any=>exact h.1
   |_=>simp[DD] at d
def eJ.plain{σ σ':List aW}{s s':St}(a:s'.M=s.M)(c:s'.w=s.w){B:aW}{L:Loc}(d:vA B=ab)(h:eJ σ s B L):eJ σ' s' B L:=by
 cases B with
 |cells E cs =>
  obtain⟨b,vs,h1,h2,f,e⟩:=h;exact⟨b,vs,h1,by rw[c];exact h2,f.plain a d,λo=>by rw[a];exact e o⟩
 |vec E k n es=>simp only[eJ,a,c] at h ⊢;exact h
 |dz H=>simp only[eJ,a,c] at h ⊢;exact h
 |dead=>trivial
 |loop N φ r=>simp[vA] at d
 |rq=>simp only[eJ,a,c] at h ⊢;exact h
 |buf E k n es=>simp only[eJ,a,c] at h ⊢;exact h
def fI:Nat->List Nat->Bool
 |_,[]=>ae
 |k,x::r=>match aA k x with|true=>ab|false=>fI k r
def dM:List Nat->Bool
 |[]=>ab
 |k::r=>match fI k r with|true=>ae|false=>dM r
def rF:∀ {k:Nat}{l:List Nat},k∈l->fI k l=ab
 |k,[],h=>by simp at h
 |k,x::r,h=>by
  simp only[fI];cases a:aA k x with
  |true=>rfl
  |false =>
   rcases eY.1 h with rfl|h
   .rw[iL] at a;cases a
   .exact rF h
def vB:∀ {l:List Nat},dM l=ab->∀ (i j k:Nat),l[i]?=aa k->l[j]?=aa k->i=j
 |[],_,i,j,k,hi,_=>by simp at hi
 |x::r,h,i,j,k,hi,b=>by
  simp only[dM] at h;cases a:fI x r with
  |true=>simp[a] at h
  |false =>
   simp only[a] at h;have no:∀ q,r[q]?=aa x->False:=λq c=>by
    have:=rF (bM c);rw[a] at this;cases this
   cases i with
   |zero =>
    grind
   |succ i =>
    cases j with
    |zero =>
     grind
    |succ j =>
     simp at hi b;rw[vB h i j k hi b]
def GG(n:Nat):A->Bool
 |.ptr l _|.vec l _ _ _|.ref l|.bp l _=>bq (l+1) n
 |_=>ab
def GH(n:Nat):List A->Bool
 |[]=>ab
 |a::r=>match GG n a with|true=>GH n r|false=>ae
def Je(n:Nat):E1->Bool
 |.one a=>GG n a
 |.agg cs=>GH n cs
def xx(n:Nat):List E1->Bool
 |[]=>ab
 |a::r=>match Je n a with|true=>xx n r|false=>ae
def uw(n:Nat):D->Bool
 |.e x=>Je n x
 |.eN xs=>xx n xs
 |.any=>ab
def oC(n:Nat):List D->Bool
 |[]=>ab
 |a::r=>match uw n a with|true=>oC n r|false=>ae
section sub
variable {ks:List Nat}{σ σ':List aW}{s:St}{β':List Loc}
def gu.sub(r:kA ks σ=aa σ')(t:kA ks s.β=aa β'){v:ak}{a:A}(d:gu σ s v (oD ks a))(e:GG ks.length a=ab):gu σ' { s with β:=β' } v a:=by
 obtain⟨u,p⟩:=gE r;obtain⟨z,g2⟩:=gE t;cases a with
 |c x=>exact d
 |any=>exact d
 |ptr l o =>
  have hl:l<ks.length:=c7 e;simp only[oD,eW,bl hl] at d;obtain⟨h1,L,b,h2,j,q⟩:=d;obtain⟨x,f,m⟩:=p l _ (bl hl);obtain⟨y,g,h⟩:=g2 l _ (bl hl);rw[h] at h2;cases h2;exact⟨λB i=>h1 B (by rw[m,<-f,i]),L,b,g,j,q⟩
 |vec l k n es =>
  have hl:l<ks.length:=c7 e;simp only[oD,eW,bl hl] at d;obtain⟨h1,h2,j⟩:=d;obtain⟨x,f,m⟩:=p l _ (bl hl);obtain⟨y,g,h⟩:=g2 l _ (bl hl);refine⟨h1,by rw[u];exact hl,λE k' n' es' i=>?_⟩
  grind
 |ref l =>
  have hl:l<ks.length:=c7 e;simp only[oD,eW,bl hl] at d;obtain⟨h1,L,h2,j,q⟩:=d;obtain⟨x,f,m⟩:=p l _ (bl hl);obtain⟨y,g,h⟩:=g2 l _ (bl hl);rw[h] at h2;cases h2;exact⟨λB i=>h1 B (by rw[m,<-f,i]),L,g,j,q⟩
 |bp l w =>
  have hl:l<ks.length:=c7 e;simp only[oD,eW,bl hl] at d;obtain⟨lv,h1,h2,j⟩:=d;obtain⟨x,f,m⟩:=p l _ (bl hl);obtain⟨y,g,h⟩:=g2 l _ (bl hl);refine⟨lv,h1,(cg.1 f).1,λE k n es i=>?_⟩
  grind
def gu.m8{σ2:List aW}{s2:St}(t:s2.M=s.M)(e:∀ (j:Nat)(B:aW),σ[j]?=aa B->∃ k,ks[j]?=aa k/\σ2[k]?=aa B)(h:∀ (j:Nat)(L:Loc),s.β[j]?=aa L->∃ k,ks[j]?=aa k/\s2.β[k]?=aa L)(u:s.β.length=σ.length)
  {v:ak} {a:A} (f:gu σ s v a):gu σ2 s2 v (oD ks a):=by
 cases a with
 |c x=>simp only[oD,gu,t];exact f
 |any=>exact f
 |ptr l o =>
  obtain⟨h1,L,b,h2,g,i⟩:=f;obtain⟨k,k1,m⟩:=h l L h2;have hl:l<σ.length:=by grind
  obtain⟨k',d,r⟩:=e l _ (bl hl);rw[k1] at d;cases d;simp only[oD,eW,k1];refine⟨λB q=>?_,L,b,m,g,i⟩
  grind
 |vec l k n es =>
  obtain⟨h1,h2,g⟩:=f;obtain⟨k1,p,p2⟩:=e l _ (bl h2);simp only[oD,eW,p];refine⟨by rw[t];exact h1,(cg.1 p2).1,λE k' n' es' q=>?_⟩
  grind
 |ref l =>
  obtain⟨h1,L,h2,g,i⟩:=f;obtain⟨k,k1,m⟩:=h l L h2;have hl:l<σ.length:=by grind
  obtain⟨k',d,r⟩:=e l _ (bl hl);rw[k1] at d;cases d;simp only[oD,eW,k1];refine⟨λB q=>?_,L,m,g,i⟩
  grind
 |bp l w =>
  obtain⟨lv,h1,h2,g⟩:=f;obtain⟨k1,p,p2⟩:=e l _ (bl h2);simp only[oD,eW,p];refine⟨lv,h1,(cg.1 p2).1,λE k' n' es' q=>?_⟩
  grind
def dG.sub(b:kA ks σ=aa σ')(c:kA ks s.β=aa β'):∀ {vs:List ak}{cs:List A},dG σ s vs (Bi ks cs)->GH ks.length cs=ab->dG σ' { s with β:=β' } vs cs
 |[],[],_,_=>trivial
 |[],_::_,h,_=>h.elim
 |_::_,[],h,_=>h.elim
 |v::vs,a::al,h,d=>by
  simp only[GH] at d;cases e:GG ks.length a with
  |false=>simp[e] at d
  |true=>simp only[e] at d;exact⟨h.1.sub b c e,dG.sub b c h.2 d⟩
def ma.sub(b:kA ks σ=aa σ')(c:kA ks s.β=aa β'){v:ak}{x:E1}(h:ma σ s v (zu ks x))(d:Je ks.length x=ab):ma σ' { s with β:=β' } v x:=by
 cases x with
 |one a=>exact gu.sub b c h d
 |agg cs=>obtain⟨vs,h1,h2⟩:=h;exact⟨vs,h1,h2.sub b c d⟩
def gD.sub(b:kA ks σ=aa σ')(c:kA ks s.β=aa β'):∀ {vs:List ak}{xs:List E1},gD σ s vs (yb ks xs)->xx ks.length xs=ab->gD σ' { s with β:=β' } vs xs
 |[],[],_,_=>trivial
 |[],_::_,h,_=>h.elim
 |_::_,[],h,_=>h.elim
 |v::vs,a::al,h,d=>by
  simp only[xx] at d;cases e:Je ks.length a with
  |false=>simp[e] at d
  |true=>simp only[e] at d;exact⟨h.1.sub b c e,gD.sub b c h.2 d⟩
def c8.sub(a:kA ks σ=aa σ')(b:kA ks s.β=aa β'){v:ak}{d:D}(h:c8 σ s v (jm ks d))(c:uw ks.length d=ab):c8 σ' { s with β:=β' } v d:=by
 cases d with
 |e x=>exact ma.sub a b h c
 |eN xs=>obtain⟨vs,h1,h2⟩:=h;exact⟨vs,h1,h2.sub a b c⟩
 |any=>trivial
def cv.sub(b:kA ks σ=aa σ')(c:kA ks s.β=aa β'):∀ {vs:List ak}{ds:List D},cv σ s vs (iT ks ds)->oC ks.length ds=ab->cv σ' { s with β:=β' } vs ds
 |[],[],_,_=>trivial
 |[],_::_,h,_=>h.elim
 |_::_,[],h,_=>h.elim
 |v::vs,a::al,h,d=>by
  simp only[oC] at d;cases e:uw ks.length a with
  |false=>simp[e] at d
  |true=>simp only[e] at d;exact⟨h.1.sub b c e,cv.sub b c h.2 d⟩
variable {σ2:List aW}{s2:St}
def dG.m8(d:s2.M=s.M)(b:∀ (j:Nat)(B:aW),σ[j]?=aa B->∃ k,ks[j]?=aa k/\σ2[k]?=aa B)(c:∀ (j:Nat)(L:Loc),s.β[j]?=aa L->∃ k,ks[j]?=aa k/\s2.β[k]?=aa L)(a:s.β.length=σ.length) :
  ∀ {vs:List ak} {cs:List A},dG σ s vs cs->dG σ2 s2 vs (Bi ks cs)
 |[],[],_=>trivial
 |[],_::_,h=>h.elim
 |_::_,[],h=>h.elim
 |_::_,_::_,h=>⟨h.1.m8 d b c a,dG.m8 d b c a h.2⟩
def ma.m8(e:s2.M=s.M)(c:∀ (j:Nat)(B:aW),σ[j]?=aa B->∃ k,ks[j]?=aa k/\σ2[k]?=aa B)(d:∀ (j:Nat)(L:Loc),s.β[j]?=aa L->∃ k,ks[j]?=aa k/\s2.β[k]?=aa L)(b:s.β.length=σ.length)
  {v:ak} {x:E1} (h:ma σ s v x):ma σ2 s2 v (zu ks x):=by
 cases x with
 |one a=>exact gu.m8 e c d b h
 |agg cs=>obtain⟨vs,h1,h2⟩:=h;exact⟨vs,h1,h2.m8 e c d b⟩
def gD.m8(d:s2.M=s.M)(b:∀ (j:Nat)(B:aW),σ[j]?=aa B->∃ k,ks[j]?=aa k/\σ2[k]?=aa B)(c:∀ (j:Nat)(L:Loc),s.β[j]?=aa L->∃ k,ks[j]?=aa k/\s2.β[k]?=aa L)(a:s.β.length=σ.length) :
  ∀ {vs:List ak} {xs:List E1},gD σ s vs xs->gD σ2 s2 vs (yb ks xs)
 |[],[],_=>trivial
 |[],_::_,h=>h.elim
 |_::_,[],h=>h.elim
 |_::_,_::_,h=>⟨h.1.m8 d b c a,gD.m8 d b c a h.2⟩
def c8.m8(f:s2.M=s.M)(b:∀ (j:Nat)(B:aW),σ[j]?=aa B->∃ k,ks[j]?=aa k/\σ2[k]?=aa B)(c:∀ (j:Nat)(L:Loc),s.β[j]?=aa L->∃ k,ks[j]?=aa k/\s2.β[k]?=aa L)(a:s.β.length=σ.length)
  {v:ak} {d:D} (h:c8 σ s v d):c8 σ2 s2 v (jm ks d):=by
 cases d with
 |e x=>exact ma.m8 f b c a h
 |eN xs=>obtain⟨vs,h1,h2⟩:=h;exact⟨vs,h1,h2.m8 f b c a⟩
 |any=>trivial
end sub
def dZ.sM{α:Type}:Nat->α->List α->List α
 |_,_,[]=>[]
 |0,x,_::r=>x::r
 |k+1,x,y::r=>y::dZ.sM k x r
def dZ{α:Type}:List Nat->List α->List α->List α
 |[],new,old=>old++new
 |k::ks,x::new,old=>dZ ks new (dZ.sM k x old)
 |_::_,[],old=>old
def lx{α:Type}:∀ (k:Nat)(x:α)(l:List α),dZ.sM k x l=l.set k x
 |_,_,[]=>by simp[dZ.sM]
 |0,x,_::r=>by simp[dZ.sM]
 |k+1,x,y::r=>by simp[dZ.sM,lx k x r]
def vC{α:Type}:∀ {ks:List Nat}{new old:List α},dM ks=ab->(∀ k∈ks,k<old.length)->ks.length<=new.length ->
  (dZ ks new old).length=old.length+(new.length-ks.length)/\(∀ (j k:Nat),ks[j]?=aa k->(dZ ks new old)[k]?=new[j]?) /\
  (∀ j,(dZ ks new old)[old.length+j]?=new[ks.length+j]?)/\(∀ l,l<old.length->l∉ks->(dZ ks new old)[l]?=old[l]?)
 |[],new,old,_,_,_=>by
  refine⟨by simp[dZ],by simp,λj=>?_,λl g _=>?_⟩
  .simp only[dZ,gA,br]
   grind
  .simp[dZ,jf g]
 |k::ks,[],old,_,_,h=>by simp at h
 |k::ks,x::new,old,b,a,d=>by
  have e:=b;simp only[dM] at b;cases c:fI k ks with
  |true=>simp[c] at b
  |false =>
   simp only[c] at b;have o:k<old.length:=a k (by simp)
   have f:k∉ks:=λh=>by rw[rF h] at c;cases c
   obtain⟨m,n,p,i⟩:=vC (ks:=ks) (new:=new) (old:=old.set k x) b (λk' WY=>by simpa using a k' (by simp[WY])) (by simpa using d)
   simp only[dZ,lx]
   grind
def Ev{P:aq}(X:Cx P)(f:aV)(args:List D)(σ:List aW)(res:D)(σ':List aW):Prop :=
 (∃ fn,P.funcs[f]?=aa fn/\(fn.name== "runtime.NumGoroutine")=ae/\fn.body.isNone=ae) /\
 ∀ s (vs:List ak),cv σ s vs args->aJ σ s->∀ (S:au->St->Prop) (cs:List aO),
  (∀ a v s',uq P f a v s'->c8 σ' s' v res->aJ σ' s'->cw σ s σ' s'->eZ X S (G a cs) s')->eZ X S (G (Frame.enter P f vs.toArray .normal) cs) s
def cD{P:aq}{ι:Type}(X:Cx P)(f:aV)(args:List D)(σ:List aW)(res:ι->D)(σ':ι->List aW):Prop :=
 (∃ fn,P.funcs[f]?=aa fn/\(fn.name== "runtime.NumGoroutine")=ae/\fn.body.isNone=ae) /\
 ∀ s (vs:List ak),cv σ s vs args->aJ σ s->∀ (S:au->St->Prop) (cs:List aO),
  (∀ i a v s',uq P f a v s'->c8 (σ' i) s' v (res i)->aJ (σ' i) s'->cw σ s (σ' i) s'->eZ X S (G a cs) s')->eZ X S (G (Frame.enter P f vs.toArray .normal) cs) s
def Ev.A9{P:aq}{X:Cx P}{f:aV}{args:List D}{σ:List aW}{res:D}{σ':List aW}(h:Ev X f args σ res σ'):cD (ι:=Unit) X f args σ (λ_=>res) (λ_=>σ') :=
 ⟨h.1,λs vs hr hh S cs hS=>h.2 s vs hr hh S cs (hS ())⟩
def cD.ux{P:aq}{X:Cx P}{f:aV}{args:List D}{σ:List aW}{res:D}{σ':List aW}(h:cD (ι:=Unit) X f args σ (λ_=>res) (λ_=>σ')):Ev X f args σ res σ' :=
 ⟨h.1,λs vs hr hh S cs hS=>h.2 s vs hr hh S cs (λ_=>hS)⟩
def xy(s:St)(a:List Loc):Nat->Prop:=λb=>s.own b∨((∃ L∈s.β,b∈L.bs)/\∀ L∈a,b∉L.bs)
def mV(n:Nat):Nat->List Nat
 |0=>[]
 |m+1=>n::mV (n+1) m
def Bj:∀ (m n j:Nat),(mV n m)[j]?=if j<m then aa (n+j) else af
 |0,n,j=>by simp[mV]
 |m+1,n,0=>by simp[mV]
 |m+1,n,j+1=>by
  simp only[mV,mN,Bj m (n+1) j,Nat.add_lt_add_iff_right];split
  .congr 1;omega
  .rfl
def frame{ks:List Nat}{σ U σ1:List aW}{s a:St}{p:List Loc}(q:aJ σ s)(Q:kA ks σ=aa U)(hβ:kA ks s.β=aa p)(hn:dM ks=ab)
  (hp:cU σ1=ab) (u:aJ σ1 a) (st:cw U { s with β:=p,own:=xy s p } σ1 a) (S:ks.length<=σ1.length) {v:ak} {res:D} (hr:c8 σ1 a v res) :
  ∃ s2:St,s2.w=a.w/\c8 (dZ ks σ1 σ) s2 v (jm (ks++mV σ.length (σ1.length-ks.length)) res)/\aJ (dZ ks σ1 σ) s2/\cw σ s (dZ ks σ1 σ) s2/\s2.M=a.M/\s2.own=s.own/\∀ L∈s2.β,L∈a.β∨(L∈s.β/\∀ b∈L.bs,∀ L'∈p,b∉L'.bs):=by
 have J:∀ k∈ks,k<σ.length:=by
  intro k O;obtain⟨j,m,rfl⟩:=dX O;obtain⟨x,_,h2⟩:=(gE Q).2 j _ (bl m)
  grind
 have C:∀ k∈ks,k<s.β.length:=by rw[q.len];exact J
 have N:ks.length<=a.β.length:=by rw[u.len];exact S
 obtain⟨a1,a2,a3,a4⟩:=vC (new:=σ1) (old:=σ) hn J S;obtain⟨b1,b2,b3,b4⟩:=vC (new:=a.β) (old:=s.β) hn C N;obtain⟨c1,c2⟩:=gE Q;obtain⟨d1,d2⟩:=gE hβ
 let K:=ks++mV σ.length (σ1.length-ks.length)
 have R:∀ j,j<σ1.length->∃ k,K[j]?=aa k/\(dZ ks σ1 σ)[k]?=σ1[j]?/\(dZ ks a.β s.β)[k]?=a.β[j]?:=by
  intro j m;rcases cx j ks.length with i|G
  .refine⟨ks[j],?_,a2 j _ (bl i),b2 j _ (bl i)⟩
   grind
  .refine⟨σ.length+(j-ks.length),?_,?_,?_⟩
   .simp only[K];rw[gg G,Bj,bg (by omega)]
   .rw[a3];congr 1;omega
   .rw[<-q.len,b3];congr 1;omega
 have g:∀ l L,(dZ ks a.β s.β)[l]?=aa L->(∃ j,j<σ1.length/\a.β[j]?=aa L/\(∀ B,(dZ ks σ1 σ)[l]?=aa B->σ1[j]?=aa B)/\(∀ k,ks[j]?=aa k->k=l)/\(j≥ks.length->l=σ.length+(j-ks.length))) ∨
   (l<σ.length/\l∉ks/\s.β[l]?=aa L/\(dZ ks σ1 σ)[l]?=σ[l]?):=by
  intro l L d;have hll:l<(dZ ks a.β s.β).length:=(cg.1 d).1;rcases cx l σ.length with i|G
  .by_cases r:l∈ks
   .obtain⟨j,m,rfl⟩:=dX r;have O:=bl m
    grind
   .exact .inr ⟨i,r,by rw[<-b4 l (by rw[q.len];exact i) r];exact d,a4 l i r⟩
  .rw[b1,u.len,q.len] at hll;refine .inl ⟨ks.length+(l-σ.length),by omega,?_,λB t=>?_,λk O=>?_,λ_=>by omega⟩
   .rw[<-b3,q.len,zh G];exact d
   .rw[<-a3,zh G];exact t
   grind
 have F:∀ L∈p,L∈s.β:=by
  intro L d;obtain⟨j,m,rfl⟩:=dX d;have A:j<ks.length:=by rw[<-d1];exact m
  obtain⟨x,V,X⟩:=d2 j _ (bl A)
  grind
 have other:∀ l L,l∉ks->s.β[l]?=aa L->∀ b∈L.bs,b<s.w.heap.size/\∀ L'∈p,b∉L'.bs:=by
  intro l L z d b f;refine⟨q.lt L (bM d) b f,λL' ga rl=>?_⟩
  obtain⟨j,m,rfl⟩:=dX ga;have A:j<ks.length:=by rw[<-d1];exact m
  obtain⟨x,V,X⟩:=d2 j _ (bl A);rw[bl m] at V;cases V;have:=q.fT l ks[j] L _ d X b f rl
  grind
 have out:∀ b,b<s.w.heap.size->(∀ L∈s.β,b∉L.bs)->∀ L∈p,b∉L.bs:=λb _ h L d=>h L (F L d)
 have ex:Ext σ s (dZ ks σ1 σ) ⟨dZ ks a.β s.β,a.M,a.w,s.own⟩:=by
  refine⟨st.mem,λl B L t d=>?_⟩
  have i:l<σ.length:=(cg.1 t).1
  by_cases r:l∈ks
  .obtain⟨j,m,rfl⟩:=dX r;have O:=bl m;obtain⟨x,V,X⟩:=c2 j _ O;obtain⟨y,y1,y2⟩:=d2 j _ O;rw[t] at X;cases X;rw[d] at y2;cases y2;obtain⟨B',L',p1,p2,p3⟩:=st.box j B L V y1
   grind
  .exact⟨B,L,by rw[a4 l i r,t],by grind,.refl _ _⟩
 refine⟨⟨dZ ks a.β s.β,a.M,a.w,s.own⟩,rfl,?_,⟨u.mem,?_,?_,?_,?_,?_⟩,⟨st.size,?_,st.mem,?_,?_,ex.box,st.os,st.tape,st.output,rfl⟩,rfl,rfl,?_⟩
 .refine c8.m8 (s:=a) (s2:=⟨dZ ks a.β s.β,a.M,a.w,s.own⟩) (σ2:=dZ ks σ1 σ) (ks:=K) rfl (λj B t=>?_) (λj L d=>?_) u.len hr
  .grind
  .obtain⟨k,k1,_,k3⟩:=R j (by rw[<-u.len];grind)
   grind
 .simp only;rw[a1,b1,u.len,q.len]
 .intro l B L t d;rcases g l L d with⟨j,m,c,T,_⟩|⟨z,r,ga,l7⟩
  .exact eJ.plain (σ:=σ1) (s:=a) (s':=⟨dZ ks a.β s.β,a.M,a.w,s.own⟩) rfl rfl (jw hp B (bM (T B t))) (u.box j B L (T B t) c)
  .rw[l7] at t;refine(q.box l B L t ga).carry ex q.len λb f=>?_
   obtain⟨o1,P⟩:=other l L r ga b f;exact⟨st.eB b (.inr ⟨⟨L,bM ga,f⟩,P⟩),st.jk b o1 P⟩
 .intro l l' L L' d ga b f rl;rcases g l L d with⟨j,m,c,_,Tk,hjn⟩|⟨z,r,n,_⟩ <;> rcases g l' L' ga with⟨j',A,I,_,abN,abO⟩|⟨A8,hm',H,_⟩
  .have e:=u.fT j j' L L' c I b f rl
   grind
  .obtain⟨o1,P⟩:=other l' L' hm' H b rl;rcases st.uo L (bM c) b f with h|⟨Z,Y,E⟩
   .simp only at h;omega
   .exact absurd E (P Z Y)
  .obtain⟨o1,P⟩:=other l L r n b f;rcases st.uo L' (bM I) b rl with h|⟨Z,Y,E⟩
   .simp only at h;omega
   .exact absurd E (P Z Y)
  .exact q.fT l l' L L' n H b f rl
 .intro L d b f;obtain⟨l,z,rfl⟩:=dX d;rcases g l _ (bl z) with⟨j,m,c,_⟩|⟨_,_,n,_⟩
  .exact u.lt _ (bM c) b f
  .have:=q.lt _ (bM n) b f;have:=st.size;simp only at this ⊢;omega
 .intro b f;refine⟨?_,λL d W=>?_⟩
  .have:=(q.own b f).1;have:=st.size;simp only at this ⊢;omega
  .obtain⟨l,z,rfl⟩:=dX d;rcases g l _ (bl z) with⟨j,m,c,_⟩|⟨_,_,n,_⟩
   .have ho:a.own b:=by rw[st.own];exact .inl f
    exact(u.own b ho).2 _ (bM c) W
   .exact(q.own b f).2 _ (bM n) W
 .intro b f;exact st.eB b (.inl f)
 .intro b f WZ o;exact st.jk b f (out b f WZ) o
 .intro L d b f;obtain⟨l,z,rfl⟩:=dX d;rcases g l _ (bl z) with⟨j,m,c,_⟩|⟨_,_,n,_⟩
  .rcases st.uo _ (bM c) b f with h|⟨Z,Y,E⟩
   .exact .inl h
   grind
  grind
 .intro L d;obtain⟨l,z,rfl⟩:=dX d;rcases g l _ (bl z) with⟨j,m,c,_⟩|⟨_,r,n,_⟩
  .exact .inl (bM c)
  grind
def eO:D->Option (aV×List C)
 |.e (.one (.c (.fn (.func f) [] cap)))=>aa (f,cap)
 |_=>af
def nP{σ:List aW}{s:St}{ρ:an->ak}{a:an->D}(b:∀ y,c8 σ s (ρ y) (a y)):∀ l:List an,cv σ s (l.map ρ) (l.map a)
 |[]=>trivial
 |x::r=>⟨b x,nP b r⟩
def cv.append{σ:List aW}{s:St}:∀ {vs vD:List ak}{ds Fo:List D},cv σ s vs ds->cv σ s vD Fo->cv σ s (vs++vD) (ds++Fo)
 |[],_,[],_,_,h=>h
 |[],_,_::_,_,h,_=>h.elim
 |_::_,_,[],_,h,_=>h.elim
 |_::_,_,_::_,_,h,a=>⟨h.1,cv.append h.2 a⟩
def Qi:A->A
 |.vec _ k n es=>.c (.sl ae k n es)
 |.c (.sl _ k n es)=>.c (.sl ae k n es)
 |a=>a
def Fs{σ:List aW}{s:St}{v:ak}{a:A}(h:gu σ s v a):gu σ s v (Qi a):=by
 cases a with
 |vec l k n es=>exact h.1
 |c x=>cases x <;> first|exact h|exact Rd.loose h
 |_=>exact h
def Qj:List A->List A
 |[]=>[]
 |a::r=>Qi a::Qj r
def Ft{σ:List aW}{s:St}:∀ {vs:List ak}{cs:List A},dG σ s vs cs->dG σ s vs (Qj cs)
 |[],[],_=>trivial
 |[],_::_,h=>h.elim
 |_::_,[],h=>h.elim
 |_::_,_::_,h=>⟨Fs h.1,Ft h.2⟩
def TN:D->D
 |.e (.one a)=>.e (.one (Qi a))
 |.e (.agg cs)=>.e (.agg (Qj cs))
 |d=>d
def M7{σ:List aW}{s:St}{v:ak}{d:D}(h:c8 σ s v d):c8 σ s v (TN d):=by
 cases d with
 |e x=>cases x with
  |one a=>exact Fs h
  |agg cs=>obtain⟨vs,c,b⟩:=h;exact⟨vs,c,Ft b⟩
 |eN xs=>exact h
 |any=>trivial
def oq:List D->List D
 |[]=>[]
 |a::r=>TN a::oq r
def rG{σ:List aW}{s:St}:∀ {vs:List ak}{ds:List D},cv σ s vs ds->cv σ s vs (oq ds)
 |[],[],_=>trivial
 |[],_::_,h=>h.elim
 |_::_,[],h=>h.elim
 |_::_,_::_,h=>⟨M7 h.1,rG h.2⟩
def gj:List C->List D
 |[]=>[]
 |c::r=>.e (.one (.c c))::gj r
def lI{σ:List aW}{s:St}:∀ {vs:List ak}{cs:List C},(∀ (j:Nat)(c:C),cs[j]?=aa c->∃ v,vs[j]?=aa v/\Rd s.M v c)->vs.length=cs.length->cv σ s vs (gj cs)
 |[],[],_,_=>trivial
 |[],_::_,_,h=>by simp at h
 |_::_,[],_,h=>by simp at h
 |v::vs,c::cs,h,e=>by
  obtain⟨u,a,d⟩:=h 0 c rfl;simp at a;subst a;exact⟨d,lI (λj c b=>by simpa using h (j+1) c (by simpa using b)) (by simpa using e)⟩
def u4{α:Type}{ks:List Nat}{l r:List α}(h:kA ks l=aa r):∀ x∈r,x∈l:=by
 intro x a;obtain⟨c,b⟩:=gE h;obtain⟨j,d,rfl⟩:=dX a;obtain⟨y,f,e⟩:=b j _ (bl (by omega))
 grind
def aJ.sub{ks:List Nat}{σ e:List aW}{s:St}{a:List Loc}(hh:aJ σ s)(m:kA ks σ=aa e)(i:kA ks s.β=aa a)(u:cU e=ab)(hn:dM ks=ab) :
  aJ e { s with β:=a,own:=xy s a }/\eK s { s with β:=a,own:=xy s a }:=by
 obtain⟨c1,c2⟩:=gE m;obtain⟨d1,d2⟩:=gE i;have d:∀ L∈a,L∈s.β:=u4 i;refine⟨⟨hh.mem,by simp[c1,d1],?_,?_,?_,?_⟩,⟨rfl,λ_ _ _ h=>h,λ_ _ _=>rfl,hh.mem,?_⟩⟩
 .intro j B L r c;have hj:j<ks.length:=by grind
  obtain⟨x,t,v⟩:=c2 j _ (bl hj);obtain⟨y,g,q⟩:=d2 j _ (bl hj);rw[r] at t;cases t;simp only at c;rw[c] at g;cases g;exact eJ.plain (σ:=σ) (s:=s) (s':={ s with β:=a,own:=xy s a }) rfl rfl (jw u B (bM r)) (hh.box _ B L v q)
 .intro j n L L' c l b hb rl;simp only at c l;have hj:j<ks.length:=by grind
  have f:n<ks.length:=by grind
  obtain⟨y,g,q⟩:=d2 j _ (bl hj);obtain⟨w,k,p⟩:=d2 n _ (bl f);rw[c] at g;cases g;rw[l] at k;cases k;have:=hh.fT _ _ L L' q p b hb rl;exact vB hn j n ks[j] (bl hj) (by rw[bl f,this])
 .intro L c b hb;exact hh.lt _ (d L c) b hb
 .rintro b (hb|⟨⟨L,c,hb⟩,o⟩)
  .exact⟨(hh.own b hb).1,λL c=>(hh.own b hb).2 L (d L c)⟩
  .exact⟨hh.lt L c b hb,o⟩
 .rintro b ((hb|⟨⟨L,c,hb⟩,_⟩)|⟨L,c,hb⟩)
  .exact .inl hb
  .exact .inr ⟨L,c,hb⟩
  .exact .inr ⟨L,d L c,hb⟩
def eK.back{σ e σ1:List aW}{s c s2:St}{a:List Loc}(hh:aJ σ s)(h1:aJ σ1 c)(st:cw e { s with β:=a,own:=xy s a } σ1 c)(g:s2.w=c.w)(d:s2.M=c.M)(i:s2.own=s.own)
  (f:∀ L∈s2.β,L∈c.β∨(L∈s.β/\∀ b∈L.bs,∀ L'∈a,b∉L'.bs)):eK c s2:=by
 refine⟨g,λb o v h=>by rw[d];exact h,λb _ o=>by rw[d],λb o v h=>by rw[d] at h;exact h1.mem b o v h,?_⟩
 rintro b (hb|⟨L,j,hb⟩)
 .left;rw[st.own];exact .inl (by rw[<-i];exact hb)
 .rcases f L j with h|⟨h,k⟩
  .exact .inr ⟨L,h,hb⟩
  .left;rw[st.own];exact .inr ⟨⟨L,h,hb⟩,k b hb⟩
def sO{P:aq}{ι:Type}{X:Cx P}{S:au->St->Prop}{b:aO}{k:List Item}{cs:List aO}{a:Act}{s:St}{ops:Array aw}{i:Nat}{rest:List Nat}{o:aw}{ks:List Nat}{σ g:List aW}{σ1:ι->List aW}{f:aV}{d:List D}{res:ι->D}{vs:List ak}
  (hb:b.kind≠.early) (ho:ops[i]?=aa o) (hw:bj o (yielded ops a.tmps)=ab) (hh:aJ σ s) (C:∀ w,(ay a.eval o).run P w=.ok (.enter f vs.toArray) w) (z:∀ w,(ay a.eval o).events P w #[]=#[])
  (Z:cD X f d g res σ1) (u:cv σ s vs (iT ks d)) (M:oC ks.length d=ab) (p:kA ks σ=aa g) (hp:cU g=ab) (T:∀ j,cU (σ1 j)=ab) (hn:dM ks=ab) (R:∀ j,ks.length<=(σ1 j).length)
  (h:∀ j v s',c8 (dZ ks (σ1 j) σ) s' v (jm (ks++mV σ.length ((σ1 j).length-ks.length)) (res j))->aJ (dZ ks (σ1 j) σ) s'->cw σ s (dZ ks (σ1 j) σ) s'->eZ X S (G (b.aT (a.put o.dst v) (.inRegion ops rest::k)) cs) s') :
  eZ X S (G (b.aT a (.inRegion ops (i::rest)::k)) cs) s:=by
 obtain⟨_,x⟩:=Z;refine .next rfl λn Y=>?_
 have V:=X.iq Y;have e:=hh.rely V;obtain⟨m,t⟩:=vv (l':=n.β) p e.len;obtain⟨A,U⟩:=e.sub p t hp hn;have q:cv σ n vs (iT ks d):=u.mono V.stepW.ext hh.len;have y:cv g { n with β:=m,own:=xy n m } vs d:=(q.sub (s:=n) p t M).mono (σ:=g) (s:={ n with β:=m }) (σ':=g) (s':={ n with β:=m,own:=xy n m }) ⟨λ_ _ _ h=>h,λl B L hB hL=>⟨B,L,hB,hL,.refl _ _⟩⟩ A.len
 refine⟨_,n,_,oQ ho hw hb (C n.w),?_,.ghost U (x _ vs y A S _ λj fr v s2 hl mR Ba oz=>?_)⟩
 .refine⟨⟨σ,σ,e,e,.refl _ _⟩,eU.seen ?_⟩;rw[z];exact .nil
 refine pI (cs:=cs) (c:=b.aT a (.inRegion ops (i::rest)::k)) Ba hl λs3 r=>?_
 have F:=Ba.rely r;have E:=oz.trans r.stepW;obtain⟨s4,I,O,W,K,J,N,H⟩:=frame e p t hn (T j) F E (R j) (mR.mono r.stepW.ext Ba.len);refine .ghost (eK.back e F E I J N H) ?_;have Q:=j8 (b:=b) (a:=a) (k:=k) ops i rest v;rw[ho] at Q;simp only[nG] at Q;rw[Q];exact h j v s4 O W (V.stepW.trans K)
def Jf{P:aq}{X:Cx P}{S:au->St->Prop}{b:aO}{k:List Item}{cs:List aO}{a:Act}{s:St}{ops:Array aw}{i:Nat}{rest:List Nat}{o:aw}{ks:List Nat}{σ d:List aW}{σ1:List aW}{f:aV}{c:List D}{res:D}{vs:List ak}
  (r:b.kind≠.early) (x:ops[i]?=aa o) (u:bj o (yielded ops a.tmps)=ab) (z:aJ σ s) (j:∀ w,(ay a.eval o).run P w=.ok (.enter f vs.toArray) w) (g:∀ w,(ay a.eval o).events P w #[]=#[])
  (p:Ev X f c d res σ1) (e:cv σ s vs (iT ks c)) (m:oC ks.length c=ab) (l:kA ks σ=aa d) (t:cU d=ab) (n:cU σ1=ab) (y:dM ks=ab) (q:ks.length<=σ1.length)
  (h:∀ v s',c8 (dZ ks σ1 σ) s' v (jm (ks++mV σ.length (σ1.length-ks.length)) res)->aJ (dZ ks σ1 σ) s'->cw σ s (dZ ks σ1 σ) s'->eZ X S (G (b.aT (a.put o.dst v) (.inRegion ops rest::k)) cs) s') :
  eZ X S (G (b.aT a (.inRegion ops (i::rest)::k)) cs) s :=
 sO r x u z j g p.A9 e m l t (λ_=>n) y (λ_=>q) (λ_=>h)
def gM{P:aq}{o:aw}{l:an}{xs:Array an}{i:Array ar}(m:o.op=.call { callee:=.value l,args:=xs,argTypes:=i }){f:aV}{fn:Func}(g:P.funcs[f]?=aa fn)(h:(fn.name== "runtime.NumGoroutine")=ae)(c:fn.body.isNone=ae)
  {a:Act} {cs:List ak} (k:a.eval l=.func (.func f) #[] cs.toArray) (w:az) :
  (ay a.eval o).run P w=.ok (.enter f (xs.toList.map a.eval++cs).toArray) w/\(ay a.eval o).events P w #[]=#[]:=by
 have j:(xs.map a.eval++cs.toArray)=(xs.toList.map a.eval++cs).toArray:=by apply hO;simp
 have d:fn.name≠ "runtime.NumGoroutine":=by simpa using h
 have b:fn.body≠af:=by intro e;rw[e] at c;cases c
 constructor
 .simp[ay,m,resolve,k,Deferred.ofValue,invoke,callFunc,g,d,b,j]
 .simp[ay,m,resolve,k,Deferred.ofValue,invoke,callFunc,g,d,b]
def jA.Pe{P:aq}{ι:Type}{X:Cx P}{N:Nat}{all rest:List aw}{Q:Fr->List aW->Prop}{φ:Fr}{σ:List aW}{o:aw}{B:an}{xs:Array an}{M:Array ar}
  (hg:∀ σ s a,cp N σ s φ a->bj o (yielded all.toArray a.tmps)=ab) (R:o.op=.call { callee:=.value B,args:=xs,argTypes:=M })
  {f:aV} {cap:List C} (A:eO (bX φ B)=aa (f,cap)) (ks:List Nat) {e:List D} {p:List aW} {σ1:ι->List aW} {res:ι->D} (z:cD X f e p res σ1)
  (r:∀ s vs,cv σ s vs (xs.toList.map (bX φ)++gj cap)->cv σ s vs (iT ks e)) (G:oC ks.length e=ab) (E:kA ks σ=aa p) (V:cU p=ab) (L:∀ j,cU (σ1 j)=ab) (hn:dM ks=ab) (J:∀ j,ks.length<=(σ1 j).length)
  (d:Option Nat) (Z:o.dst=d) (Y:∀ t,d=aa t->t<N)
  (k:∀ j,jA X N all rest Q (lr d (jm (ks++mV σ.length ((σ1 j).length-ks.length)) (res j)) φ) (dZ ks (σ1 j) σ)):jA X N all (o::rest) Q φ σ:=by
 subst Z;intro s a g hh b kk cs S idx hb jE hQ;cases idx with
 |nil=>exact jE.elim
 |cons i idx =>
 obtain⟨hi,jE⟩:=jE;have x:=dK g B;unfold eO at A;split at A
 case h_2=>cases A
 case h_1 f' IV he =>
  cases A;rw[he] at x;have l:=fC x;generalize T:a.eval B=fv at l;cases l with
  |fn fs l8 hl A8 f1 f2 h1 h2 r1 r2 =>
   have O:fs=[]:=gf hl;subst O;have n:cv σ s l8 (gj cap):=lI (λj c hj=>⟨f2 j,h2 j (by grind),r2 j c hj⟩) A8
   have u:cv σ s (xs.toList.map a.eval++l8) (iT ks e):=by
    exact r _ _ ((nP (dK g) xs.toList).append n)
   obtain⟨fn,y,m,h⟩:=z.1;refine sO hb hi (hg _ _ _ g) hh (λw=>(gM R y m h T w).1) (λw=>(gM R y m h T w).2) z u G E V L hn J λj v s' hr ld st=>?_
   refine k j s' _ ?_ ld b kk cs S idx hb jE λF I W a3 q U h3 K=>hQ F I W a3 q U h3 (st.trans K)
   cases H:o.dst with
   |none=>exact g.mono st hh.len
   |some t=>exact(g.mono st hh.len).put (Y t H) hr
def jA.Pf{P:aq}{ι:Type}{X:Cx P}{N:Nat}{all rest:List aw}{Q:Fr->List aW->Prop}{φ:Fr}{σ:List aW}{o:aw}{q:an}{xs:Array an}{i:Array ar}
  (u:∀ σ s a,cp N σ s φ a->bj o (yielded all.toArray a.tmps)=ab) (x:o.op=.call { callee:=.value q,args:=xs,argTypes:=i })
  {f:aV} {cap:List C} (r:eO (bX φ q)=aa (f,cap)) (ks:List Nat) {b:List D} {c:List aW} {σ1:ι->List aW} {res:ι->D} (p:cD X f b c res σ1)
  (e:oq (xs.toList.map (bX φ)++gj cap)=iT ks b) (l:oC ks.length b=ab) (g:kA ks σ=aa c) (w:cU c=ab) (m:∀ j,cU (σ1 j)=ab) (hn:dM ks=ab) (n:∀ j,ks.length<=(σ1 j).length)
  (d:Option Nat) (y:o.dst=d) (v:∀ t,d=aa t->t<N)
  (k:∀ j,jA X N all rest Q (lr d (jm (ks++mV σ.length ((σ1 j).length-ks.length)) (res j)) φ) (dZ ks (σ1 j) σ)):jA X N all (o::rest) Q φ σ :=
 jA.Pe u x r ks p (λs vs h=>by rw[<-e];exact rG h) l g w m hn n d y v k
def jA.call{P:aq}{X:Cx P}{N:Nat}{all rest:List aw}{Q:Fr->List aW->Prop}{φ:Fr}{σ:List aW}{o:aw}{n:an}{xs:Array an}{h:Array ar}
  (q:∀ σ s a,cp N σ s φ a->bj o (yielded all.toArray a.tmps)=ab) (v:o.op=.call { callee:=.value n,args:=xs,argTypes:=h })
  {f:aV} {cap:List C} (p:eO (bX φ n)=aa (f,cap)) (ks:List Nat) {b:List D} {c σ1:List aW} {res:D} (m:Ev X f b c res σ1)
  (e:oq (xs.toList.map (bX φ)++gj cap)=iT ks b) (i:oC ks.length b=ab) (g:kA ks σ=aa c) (u:cU c=ab) (j:cU σ1=ab) (hn:dM ks=ab) (l:ks.length<=σ1.length)
  (d:Option Nat) (w:o.dst=d) (r:∀ t,d=aa t->t<N)
  (k:jA X N all rest Q (lr d (jm (ks++mV σ.length (σ1.length-ks.length)) res) φ) (dZ ks σ1 σ)):jA X N all (o::rest) Q φ σ :=
 jA.Pf q v p ks m.A9 e i g u (λ_=>j) hn (λ_=>l) d w r (λ_=>k)
def Names.range(all:List aw):Names all (bh all.toArray.size) all:=by
 have key:∀ (l:List aw) (n:Nat),(∀ j o,l[j]?=aa o->all[n+j]?=aa o)->Names all (List.range' n l.length) l:=by
  intro l
  induction l with
  |nil=>intro n _;trivial
  |cons o r a =>
   intro n h;rw[eQ,List.range'_succ];refine⟨by simpa using h 0 o rfl,a (n+1) λj b hj=>?_⟩
   have:=h (j+1) b (by simpa using hj)
   grind
 have:=key all 0 (λj o h=>by simpa using h)
 rw[List.range_eq_range'];simpa using this
def AW.region{P:aq}{X:Cx P}{N:Nat}{Q:Post}{φ:Fr}{σ:List aW}{id:Nat}{ops:Array aw}(h:jA X N ops.toList ops.toList (λφ σ=>Q .normal φ σ) φ σ):AW X N (.region id ops ae) Q φ σ:=by
 intro s a f hh b k cs S hb hQ;refine .ctl hh rfl (λ_=>pL) λe h1=>?_
 have:=h e a (f.rely h1 hh) (hh.rely h1) b k cs S (bh ops.size) hb (by simpa using Names.range ops.toList) λc σ' s' a' q g d st=>hQ .normal c σ' s' a' q g d (h1.stepW.trans st)
 simpa using this
def jA.nil{P:aq}{X:Cx P}{N:Nat}{all:List aw}{Q:Fr->List aW->Prop}{φ:Fr}{σ:List aW}(h:Q φ σ):jA X N all [] Q φ σ:=by
 intro s a f hh b k cs S idx _ c d;cases idx with
 |cons i idx=>exact c.elim
 |nil=>exact .ctl hh rfl (λ_=>iS) λe h1=>d φ σ e a h (f.rely h1 hh) (hh.rely h1) h1.stepW
def jA.mono{P:aq}{X:Cx P}{N:Nat}{all rest:List aw}{Q d:Fr->List aW->Prop}{φ:Fr}{σ:List aW}(h:jA X N all rest Q φ σ)(e:∀ φ σ,Q φ σ->d φ σ):jA X N all rest d φ σ :=
 λs a f hh b k cs S idx hb hi hQ=>h s a f hh b k cs S idx hb hi λc σ' s' a' q g i st=>hQ c σ' s' a' (e _ _ q) g i st
def hU:Nat->List D->Fr
 |_,[]=>[]
 |i,d::r=>(i,d)::hU (i+1) r
def lN:∀ (ds:List D)(i t:Nat),look (hU i ds) t=if i<=t then (ds[t-i]?).getD .any else .any
 |[],i,t=>by simp[hU,look]
 |d::r,i,t=>by
  simp only[hU,look]
  by_cases e:i=t
  .subst e;rw[show aA i i=ab from iL i]
   simp
  .have:aA i t=ae:=by
    cases h:aA i t
    .rfl
    .exact absurd (bT h) e
   rw[this];simp only[cond,lN r (i+1) t]
   grind
def cv.get{σ:List aW}{s:St}:∀ {vs:List ak}{ds:List D},cv σ s vs ds->vs.length=ds.length/\∀ (j:Nat),c8 σ s ((vs[j]?).getD aj) ((ds[j]?).getD .any)
 |[],[],_=>⟨rfl,λj=>by simp[c8]⟩
 |[],_::_,h=>h.elim
 |_::_,[],h=>h.elim
 |v::vs,d::ds,h=>by
  obtain⟨h1,h2⟩:=cv.get h.2;refine⟨by simp[h1],λj=>?_⟩
  cases j with
  |zero=>simpa using h.1
  |succ j=>simpa using h2 j
def xz(φ:Fr):List ResultVar->Option (List D)
 |[]=>aa []
 |.tmp t::r=>match xz φ r with
  |some q=>aa (look φ t::q)
  |none=>af
 |.cell _ _::_=>af
def tG:List D->Option (List E1)
 |[]=>aa []
 |.e x::r=>match tG r with
  |some q=>aa (x::q)
  |none=>af
 |_::_=>af
def rH:List D->Option D
 |[d]=>aa d
 |ds=>match tG ds with
  |some es=>aa (.eN es)
  |none=>af
def fU(a:Act):ResultVar->Sem ak
 |ResultVar.tmp t=>pure (a.tmps.getD t aj)
 |ResultVar.cell ad t=>do loadVar t (<-asAddr (a.tmps.getD ad aj))
def Fu(P:aq){N:Nat}{σ:List aW}{s:St}{φ:Fr}{a:Act}(f:cp N σ s φ a):∀ {rs:List ResultVar}{ds:List D},xz φ rs=aa ds ->
  ∃ vs,(∀ w,(rs.mapM (fU a)).run P w=Result.ok vs w)/\cv σ s vs ds/\cK P (rs.mapM (fU a))
 |[],ds,h=>by cases h;exact⟨[],by simp,av,by rw[List.mapM_nil];exact .pure⟩
 |.tmp t::r,ds,h=>by
  simp only[xz] at h;cases b:xz φ r with
  |none=>simp[b] at h
  |some q =>
   simp[b] at h;subst h;obtain⟨vs,d,e,c⟩:=Fu P f b;refine⟨a.tmps.getD t aj::vs,?_,⟨f.slot t,e⟩,?_⟩
   .intro w;simp only[mQ,bS,fU,cW,b7,d]
   .rw[mQ];exact .bind .pure λ_=>.bind c λ_=>.pure
 |.cell ad t::r,ds,h=>by simp[xz] at h
def Bl{σ:List aW}{s:St}:∀ {vs:List ak}{ds:List D}{es:List E1},tG ds=aa es->cv σ s vs ds->gD σ s vs es
 |[],[],es,h,_=>by cases h;trivial
 |[],_::_,_,_,h=>h.elim
 |_::_,[],_,_,h=>h.elim
 |v::vs,.e x::r,es,h,b=>by
  simp only[tG] at h;cases a:tG r with
  |none=>simp[a] at h
  |some q=>simp[a] at h;subst h;exact⟨b.1,Bl a b.2⟩
 |_::_,.eN _::_,es,h,_=>by simp[tG] at h
 |_::_,.any::_,es,h,_=>by simp[tG] at h
def Bm{σ:List aW}{s:St}{vs:List ak}{ds:List D}{d:D}(h:rH ds=aa d)(a:cv σ s vs ds):c8 σ s (if h:vs.length=1 then vs[0] else .tuple vs.toArray) d:=by
 unfold rH at h;split at h
 .rename_i g
  cases h
  match vs,a with
  |[v],a=>simpa using a.1
 .rename_i b
  cases c:tG ds with
  |none=>simp[c] at h
  |some es =>
   simp[c] at h;subst h;have f:vs.length≠1:=by
    intro e;rw[(cv.get a).1] at e
    match ds,e with
    |[x],_=>exact b x rfl
   rw[dif_neg f];exact⟨vs,rfl,Bl c a⟩
def Bn(P:aq)(fn:Func)(φ:Fr)(d:D):Prop:=∀ {N:Nat}{σ:List aW}{s:St}{a:Act},cp N σ s φ a->∃ v,c8 σ s v d/\∀ w,(∀ b o u,s.M b o=aa u->w.cell? ⟨b,o,af⟩=aa u)->(results fn a.tmps).run P w=.ok v w/\∀ e∈(results fn a.tmps).events P w #[],∃ b o u,e=⟨.cell ⟨b,o,af⟩,ae,ae⟩/\s.M b o=aa u
def tH{P:aq}{N:Nat}{σ:List aW}{s:St}{φ:Fr}{a:Act}(f:cp N σ s φ a){fn:Func}{ds:List D}{d:D}(h:xz φ fn.results.toList=aa ds)(b:rH ds=aa d) :
  ∃ v,(∀ w,(results fn a.tmps).run P w=.ok v w)/\c8 σ s v d/\cK P (results fn a.tmps):=by
 obtain⟨vs,g,c,i⟩:=Fu P f h;refine⟨_,λw=>?_,Bm b c,?_⟩
 .have e:(fn.results.mapM (fU a)).run P w=Result.ok vs.toArray w:=by
   rw[qp];simp only[Sem.run_map,g,b7]
  unfold results;rw[bS];refine(di (λr=>Result.andThen r _) (Eq.trans ?_ e)).trans ?_
  .congr 2
  .simp
 .unfold results;have e:cK P (fn.results.mapM (fU a)):=by
   rw[qp];exact .map i
  exact .bind e λ_=>.pure
def Bn.of{P:aq}{fn:Func}{φ:Fr}{ds:List D}{d:D}(h:xz φ fn.results.toList=aa ds)(hj:rH ds=aa d):Bn P fn φ d:=by
 intro N σ s a f;obtain⟨v,h1,h2,c⟩:=tH (P:=P) f h hj;exact⟨v,h2,λw _=>⟨h1 w,λe b=>by rw[c w #[]] at b;simp at b⟩⟩
end
section
open Go.Conc (G)
def aJ.kz{σ:List aW}{s:St}(h:aJ σ s):aJ (σ.map λ_=>.dead) s:=by
 refine⟨h.mem,by simp[h.len],λl B L a c=>?_,h.fT,h.lt,h.own⟩
 simp only[nF] at a;cases b:σ[l]? with
 |none=>rw[b] at a;cases a
 |some x=>rw[b] at a;cases a;trivial
structure Pg (ls:List Nat)(s s':St):Prop where
 β:s'.β=s.β
 M:s'.M=s.M
 own:s'.own=s.own
 size:s.w.heap.size<=s'.w.heap.size
 eB:∀ b,(s.own b∨∃ (l:Nat) (L:Loc),s.β[l]?=aa L/\l∉ls/\b∈L.bs)->s'.w.heap[b]?=s.w.heap[b]?
 mem:∀ b o v,s.M b o=aa v->s'.w.cell? ⟨b,o,af⟩=aa v
 os:s'.w.os=s.w.os
 tape:s'.w.tape=s.w.tape
 output:s'.w.output=s.w.output
def b9.unR{s s':St}(h:b9 s s')(ls:List Nat):Pg ls s s' :=
 ⟨h.β,h.M,h.own,h.size,λb hb=>h.eB b (hb.imp id λ⟨l,L,h1,_,a⟩=>⟨L,bM h1,a⟩),h.mem,h.os,h.tape,h.output⟩
def Pg.cat{l:Nat}{ls:List Nat}{s c s2:St}(h:Pg [l] s c)(k:Pg ls c s2):Pg (l::ls) s s2:=by
 refine⟨k.β.trans h.β,k.M.trans h.M,k.own.trans h.own,ez h.size k.size,λb hb=>?_,λb o v e=>k.mem b o v (by rw[h.M];exact e),k.os.trans h.os,k.tape.trans h.tape,k.output.trans h.output⟩
 rw[k.eB b,h.eB b (hb.imp id λ⟨l',L,h1,h2,d⟩=>⟨l',L,h1,λa=>h2 (by simp at a;simp[a]),d⟩)]
 rw[h.own,h.β]
 grind
def Jj{P:aq}{w:az}{r:Nat}(a:w.heap[r]?=aa (.deferred (aa []))) :
  (Instr.takeDeferred r).run P w=.ok [] { w with heap:=w.heap.setIfInBounds r (.deferred af) }/\(Instr.takeDeferred r).events P w #[]=#[⟨.obj r,ae,ae⟩,⟨.obj r,ab,ae⟩]:=by
 have b:(getObj r).run P w=.ok (.deferred (aa [])) w:=by simp only[getObj,Sem.run,a]
 have d:(setObj r (.deferred af)).run P w=.ok () { w with heap:=w.heap.setIfInBounds r (.deferred af) }:=by simp only[setObj,Sem.run,a]
 have e:∀ es,(getObj r).events P w es=es.push ⟨.obj r,ae,ae⟩:=λes=>by simp only[getObj,Sem.events,Sem.runT,a];rfl
 have c:∀ es,(setObj r (.deferred af)).events P w es=es.push ⟨.obj r,ab,ae⟩:=λes=>by simp only[setObj,Sem.events,Sem.runT,a];rfl
 constructor
 .simp[Instr.takeDeferred,b,d]
 .simp[Instr.takeDeferred,b,e,c]
variable {P:aq}{X:Cx P}{S:au->St->Prop}{cs:List aO}{main:Bool}
def M9{a:aO}{r:Nat}{ds:List Deferred}{w:az}(f:a.mode=.returning)(d:a.defers={ target:=.collected r,args:=#[] }::ds)(e:w.heap[r]?=aa (.deferred (aa []))) :
  aK P main (G a cs) w=.go (G { a with defers:=ds } cs) { w with heap:=w.heap.setIfInBounds r (.deferred af) } (seen P a.fn #[⟨.obj r,ae,ae⟩,⟨.obj r,ab,ae⟩]):=by
 obtain⟨b,c⟩:=Jj (P:=P) e;simp[G,aK,unwind,f,d,b,c,GStep.after]
def vI(s:St):List Deferred->List Nat->Prop
 |[],[]=>True
 |d::ds,l::ls=>(∃ r:Nat,s.β[l]?=aa ⟨.int .i64 r,[r]⟩/\s.w.heap[r]?=aa (.deferred (aa []))/\(∀ o,s.M r o=af)/\d={ target:=.collected r,args:=#[] })/\l∉ls/\vI s ds ls
 |_,_=>False
def oE.taken{σ:List aW}{s:St}(hh:aJ σ s):∀ {ds:List Deferred}{ls:List Nat},oE σ s ds ls->vI s ds ls
 |[],[],_=>trivial
 |[],_::_,r=>r.elim
 |_::_,[],r=>r.elim
 |d::ds,l::ls,⟨⟨h1,L,r,h2,h,a⟩,f,b⟩=>by
  obtain⟨r',k1,g,c⟩:=hh.box l _ L h1 h2;subst k1;simp at h;have e:r'=r:=by omega
  subst e;exact⟨⟨r',h2,g,c,a⟩,f,oE.taken hh b⟩
def vI.mono{s s':St}{b:Nat}(h:Pg [b] s s'):∀ {ds:List Deferred}{ls:List Nat},b∉ls->vI s ds ls->vI s' ds ls
 |[],[],_,_=>trivial
 |[],_::_,_,r=>r.elim
 |_::_,[],_,r=>r.elim
 |d::ds,l::ls,a,⟨⟨r,h1,h2,i,c⟩,g,f⟩=>by
  simp only[eY,not_or] at a;refine⟨⟨r,by rw[h.β];exact h1,by rw[h.eB r (.inr ⟨l,_,h1,by simp;exactλe=>a.1 e.symm,by simp⟩)];exact h2,λo=>by rw[h.M];exact i o,c⟩,g,vI.mono h a.2 f⟩
def nY:∀ (ls:List Nat)(f:aO)(s:St)(σ:List aW),aJ σ s->(∀ B∈σ,B=.dead)->f.mode=.returning->vI s f.defers ls ->
  (∀ s',Pg ls s s'->eZ X S (G { f with defers:=[] } cs) s')->eZ X S (G f cs) s
 |[],f,s,σ,t,m,D,n,k=>by
  have q:f.defers=[]:=by
   cases q:f.defers with
   |nil=>rfl
   |cons d ds=>rw[q] at n;exact n.elim
  have:=k s ((b9.refl t).unR _);have e:{ f with defers:=[] }=f:=by cases f;simp_all
  rwa [e] at this
 |l::ls,f,s,σ,t,m,D,n,k=>by
  cases q:f.defers with
  |nil=>rw[q] at n;exact n.elim
  |cons d ds =>
   rw[q] at n;obtain⟨⟨r,z,O,Q,R⟩,T,N⟩:=n;subst R;refine .next rfl λi J=>?_
   have g:=X.iq J;have a:=t.rely g;have H:i.β[l]?=aa ⟨.int .i64 r,[r]⟩:=by rw[g.β];exact z
   have F:i.w.heap[r]?=aa (.deferred (aa [])):=by rw[g.eB r (.inr ⟨_,bM z,by simp⟩)];exact O
   have C:∀ o,i.M r o=af:=λo=>by rw[g.M];exact Q o
   let s2:St:={ i with w:={ i.w with heap:=i.w.heap.setIfInBounds r (.deferred af) } }
   have E:∀ b,b≠r->s2.w.heap[b]?=i.w.heap[b]?:=λb c=>by
    grind
   have j:∀ b o v,i.M b o=aa v->s2.w.cell? ⟨b,o,af⟩=aa v:=by
    intro b o v x;have p:b≠r:=by rintro rfl;rw[C] at x;cases x
    rw[<-a.mem b o v x];simp only[aZ];rw[E b p]
   have y:aJ σ s2:=by
    refine⟨j,a.len,λl' B L K A=>?_,a.fT,λL A b c=>?_,λb c=>⟨?_,(a.own b c).2⟩⟩
    .rw[m B (bM K)];trivial
    .have:=a.lt L A b c;simpa[s2] using this
    .have:=(a.own b c).1;simpa[s2] using this
   have u:∃ L∈i.β,r∈L.bs:=⟨_,bM H,by simp⟩
   have st:Step σ i σ s2:=by
    refine⟨by simp[s2],λb _ c=>E b ?_,λ_ _ _ h=>h,λ_ _ _ _=>rfl,λL A b c=>.inr ⟨L,A,c⟩,λ_ B L h U=>⟨B,L,h,U,.refl _ _⟩,rfl,rfl,rfl,rfl⟩
    grind
   have un:Pg [l] s s2:=by
    refine⟨g.β,g.M,g.own,ez g.size (by simp[s2]),λb c=>?_,λb o v x=>j b o v (by rw[g.M];exact x),g.os,g.tape,g.output⟩
    have p:b≠r:=by
     rintro rfl;rcases c with c|⟨l',L',I,p2,p3⟩
     .exact(t.own b c).2 _ (bM z) (by simp)
     .exact p2 (by simp;exact t.fT l' l L' _ I z b p3 (by simp))
    rw[E b p];exact g.eB b (c.imp id λ⟨l',L',I,_,p3⟩=>⟨L',bM I,p3⟩)
   refine⟨_,s2,_,M9 D q F,⟨⟨σ,σ,a,y,st⟩,eU.seen (.two ?_ ?_)⟩,?_⟩
   .exact⟨rfl,.inr u⟩
   .exact⟨rfl,.inr u⟩
   refine nY ls { f with defers:=ds } s2 σ y m D (N.mono un T) λs' hu=>?_
   exact k s' (un.cat hu)
end
section
open Go.Conc (G)
def aR(n:Nat)(f g:Nat->List C):Prop:=∀ i,i<n->f i=g i
def Flat.Dn{M:Mem}{k n:Nat}{es es':Nat->List C}{vs:List ak}(h:Flat M k n es vs)(a:aR n es es'):Flat M k n es' vs :=
 ⟨h.len,λi hi=>by rw[<-a i hi];exact h.width i hi,λi hi j c hj=>h.rd i hi j c (by rw[a i hi];exact hj)⟩
def XX:C->C->Option (List Prop)
 |.int k n,.int k' n'=>match GY k k' with|true=>aa [n=n']|false=>af
 |.bool b,.bool b'=>aa [b=b']
 |.str s,.str s'=>aa [s=s']
 |.sl t k n es,.sl t' k' n' es'=>match aA k k' with
  |true=>match t,t' with
   |false,ab=>af
   |_,_=>aa [n=n',aR n es es']
  |false=>match t,t' with
   |true,_=>aa [n=0,n'=0]
   |_,_=>af
 |.val x,.val y=>aa [x=y]
 |x,y=>aa [x=y]
def QR{M:Mem}{v:ak}{x y:C}{ps:List Prop}(h:XX x y=aa ps)(c:ag ps)(r:Rd M v x):Rd M v y:=by
 unfold XX at h;split at h
 .rename_i k n k' n'
  cases d:GY k k' <;> simp[d] at h
  subst h;cases zS d;cases (show n=n' from c)
  exact r
 .cases h;rename_i b f;cases (show b=f from c);exact r
 .cases h;rename_i b f;cases (show b=f from c);exact r
 .rename_i t k n es t' k' n' es'
  cases d:aA k k' with
  |true =>
   simp only[d] at h;have e:=bT d;subst e;cases t <;> cases t' <;> simp at h
   all_goals (subst h;obtain⟨rfl,g⟩:=(show n=n'/\aR n es es' from c);first|exact r.Dn g|exact r.loose.Dn g)
  |false =>
   simp only[d] at h;cases t <;> simp at h
   subst h;obtain⟨rfl,rfl⟩:=(show n=0/\n'=0 from c)
   obtain⟨a,cap,vs,rfl,_,_,i,_⟩:=r.flat;have:=i rfl;subst this;exact Rd.jG
 .cases h;rename_i x y;cases (show x=y from c);exact r
 .cases h;cases c;exact r
def Uk:A->A->Option (List Prop)
 |.c x,.c y=>XX x y
 |.vec _ k n es,.c (.sl ae k' n' es')=>match aA k k' with|true=>aa [n=n',aR n es es']|false=>af
 |.vec l k n es,.vec l' k' n' es'=>match aA l l' with
  |true=>match aA k k' with|true=>aa [n=n',aR n es es']|false=>af
  |false=>af
 |.ptr l o,.ptr l' o'=>match aA l l' with|true=>(match aA o o' with|true=>aa []|false=>af)|false=>af
 |.ref l,.ref l'=>match aA l l' with|true=>aa []|false=>af
 |.bp l w,.bp l' w'=>match aA l l' with|true=>aa [w=w']|false=>af
 |_,.any=>aa []
 |_,_=>af
def JW{σ:List aW}{s:St}{v:ak}{x y:A}{ps:List Prop}(h:Uk x y=aa ps)(d:ag ps)(r:gu σ s v x):gu σ s v y:=by
 unfold Uk at h;split at h
 .exact QR h d r
 .rename_i k n es k' n' es'
  cases b:aA k k' <;> simp[b] at h
  subst h;have e:=bT b;subst e;obtain⟨rfl,f⟩:=(show n=n'/\aR n es es' from d)
  exact r.1.Dn f
 .rename_i l k n es l' k' n' es'
  cases a:aA l l' <;> simp[a] at h
  cases b:aA k k' <;> simp[b] at h
  subst h;have e:=bT b;have c:=bT a;subst e c;obtain⟨rfl,f⟩:=(show n=n'/\aR n es es' from d)
  exact⟨r.1.Dn f,r.2.1,r.2.2⟩
 .rename_i l o l' o'
  cases a:aA l l' <;> simp[a] at h
  cases b:aA o o' <;> simp[b] at h
  have e:=bT b;have c:=bT a;subst e c;exact r
 .rename_i l l'
  cases a:aA l l' <;> simp[a] at h
  have c:=bT a;subst c;exact r
 .rename_i l w l' w'
  cases a:aA l l' <;> simp[a] at h
  have c:=bT a;subst c;subst h;cases (show w=w' from d)
  exact r
 .exact gu.cell r
 .cases h
def kh:List Prop->List Prop->List Prop
 |[],q=>q
 |p::r,q=>p::kh r q
def ag.cat{p q:List Prop}:ag (kh p q)↔ag p/\ag q:=by
 induction p with
 |nil=>simp[kh,ag]
 |cons x r a=>simp only[kh,ag.cons,a,and_assoc]
def Px:List A->List A->Option (List Prop)
 |[],[]=>aa []
 |a::al,b::bs=>match Uk a b with
  |some p=>match Px al bs with
   |some q=>aa (kh p q)
   |none=>af
  |none=>af
 |_,_=>af
def DY{σ:List aW}{s:St}:∀ {vs:List ak}{xs ys:List A}{ps:List Prop},Px xs ys=aa ps->ag ps->dG σ s vs xs->dG σ s vs ys
 |[],[],[],_,_,_,_=>trivial
 |_::_,[],_,_,_,_,h=>h.elim
 |[],_::_,_,_,_,_,h=>h.elim
 |[],[],_::_,_,h,_,_=>by simp[Px] at h
 |_::_,_::_,[],_,h,_,_=>by simp[Px] at h
 |v::vs,a::al,b::bs,ps,h,d,f=>by
  simp only[Px] at h;cases c:Uk a b with
  |none=>simp[c] at h
  |some p =>
   cases e:Px al bs with
   |none=>simp[c,e] at h
   |some q =>
    simp[c,e] at h;subst h;rw[ag.cat] at d;exact⟨JW c d.1 f.1,DY e d.2 f.2⟩
def Ul:E1->E1->Option (List Prop)
 |.one a,.one b=>Uk a b
 |.agg al,.agg bs=>Px al bs
 |_,_=>af
def JX{σ:List aW}{s:St}{v:ak}{x y:E1}{ps:List Prop}(h:Ul x y=aa ps)(a:ag ps)(r:ma σ s v x):ma σ s v y:=by
 cases x <;> cases y <;> simp only[Ul,reduceCtorEq] at h
 .exact JW h a r
 .obtain⟨vs,c,b⟩:=r;exact⟨vs,c,DY h a b⟩
def DZ:List E1->List E1->Option (List Prop)
 |[],[]=>aa []
 |a::al,b::bs=>match Ul a b with
  |some p=>match DZ al bs with
   |some q=>aa (kh p q)
   |none=>af
  |none=>af
 |_,_=>af
def FL{σ:List aW}{s:St}:∀ {vs:List ak}{xs ys:List E1}{ps:List Prop},DZ xs ys=aa ps->ag ps->gD σ s vs xs->gD σ s vs ys
 |[],[],[],_,_,_,_=>trivial
 |_::_,[],_,_,_,_,h=>h.elim
 |[],_::_,_,_,_,_,h=>h.elim
 |[],[],_::_,_,h,_,_=>by simp[DZ] at h
 |_::_,_::_,[],_,h,_,_=>by simp[DZ] at h
 |v::vs,a::al,b::bs,ps,h,d,f=>by
  simp only[DZ] at h;cases c:Ul a b with
  |none=>simp[c] at h
  |some p =>
   cases e:DZ al bs with
   |none=>simp[c,e] at h
   |some q =>
    simp[c,e] at h;subst h;rw[ag.cat] at d;exact⟨JX c d.1 f.1,FL e d.2 f.2⟩
def Bo:D->D->Option (List Prop)
 |.e x,.e y=>Ul x y
 |.eN xs,.eN ys=>DZ xs ys
 |_,.any=>aa []
 |_,_=>af
def oU{σ:List aW}{s:St}{v:ak}{x y:D}{ps:List Prop}(h:Bo x y=aa ps)(a:ag ps)(r:c8 σ s v x):c8 σ s v y:=by
 cases x <;> cases y <;> simp only[Bo,reduceCtorEq] at h
 .exact JX h a r
 .trivial
 .obtain⟨vs,c,b⟩:=r;exact⟨vs,c,FL h a b⟩
 .trivial
 .trivial
def qA(φ:Fr):Fr->Option (List Prop)
 |[]=>aa []
 |(i,d)::r=>match Bo (look φ i) d with
  |some p=>match qA φ r with
   |some q=>aa (kh p q)
   |none=>af
  |none=>af
def dC{φ:Fr}:∀ {a:Fr}{ps:List Prop},qA φ a=aa ps->ag ps->rZ φ a
 |[],_,_,_=>λ_ _ _ _ _=>trivial
 |(i,d)::r,ps,h,f=>by
  simp only[qA] at h;cases b:Bo (look φ i) d with
  |none=>simp[b] at h
  |some p =>
   cases c:qA φ r with
   |none=>simp[b,c] at h
   |some q =>
    simp[b,c] at h;subst h;rw[ag.cat] at f;intro σ s v t g;simp only[look];cases j:aA i t with
    |true =>
     have e:=bT j;subst e;exact oU b f.1 g
    |false=>exact dC c f.2 σ s v t g
def ki(σ:List aW):Bool:=match cU σ with|true=>mr σ|false=>ae
def sZ{σ:List aW}(h:ki σ=ab):cU σ=ab/\mr σ=ab:=by
 unfold ki at h
 grind
def oE.yh{σ:List aW}{s:St}:∀ {ds:List Deferred}{ls:List Nat},oE σ s ds ls->∀ l∈ls,σ[l]?=aa .rq
 |[],[],_,l,hl=>by simp at hl
 |[],_::_,r,_,_=>r.elim
 |_::_,[],r,_,_=>r.elim
 |d::ds,b::ls,⟨⟨h1,_⟩,_,a⟩,l,hl=>by
  rcases eY.1 hl with rfl|hl
  .exact h1
  .exact oE.yh a l hl
def bZ(fn:Func)(a:Nat)(res:D)(σ':List aW):Post:=λe φ σ1 =>
 (e=.ret∨e=.normal)/\∃ ks ds d ps,xz φ fn.results.toList=aa ds/\rH ds=aa d/\Bo d (jm ks res)=aa ps/\ag ps/\uw ks.length res=ab /\
  kA ks σ1=aa σ'/\ki σ'=ab/\dM ks=ab/\(∀ j,j<a->ks[j]?=aa j)
def Bp(P:aq)(fn:Func)(a:Nat)(res:D)(σ':List aW):Post:=λe φ σ1 =>
 (e=.ret∨e=.normal)/\∃ ks d ps,Bn P fn φ d/\Bo d (jm ks res)=aa ps/\ag ps/\uw ks.length res=ab /\
  kA ks σ1=aa σ'/\ki σ'=ab/\dM ks=ab/\(∀ j,j<a->ks[j]?=aa j)
def bZ.toJ{P:aq}{fn:Func}{a:Nat}{res:D}{σ':List aW}{e:Exit}{φ:Fr}{σ1:List aW}(h:bZ fn a res σ' e φ σ1):Bp P fn a res σ' e φ σ1:=by
 obtain⟨c,ks,ds,d,ps,h1,h2,b⟩:=h;exact⟨c,ks,d,ps,Bn.of h1 h2,b⟩
def cD.JY{P:aq}{ι:Type}{X:Cx P}{f:aV}{fn:Func}{c:Code}{args:List D}{σ:List aW}{σ':ι->List aW}{res:ι->D}(hf:P.funcs[f]?=aa fn)(J:(fn.name== "runtime.NumGoroutine")=ae)(hb:fn.body=aa c)(hlen:args.length<=fn.ntmps)
  (h:∀ s a,cp fn.ntmps σ s (hU 0 args) a->aJ σ s->∀ (b:aO) (k:List Item) (cs:List aO) (S:au->St->Prop),b.kind≠.early->b.roundOf=af ->
  (∀ e C σ1 s' a',(∃ j,Bp P fn σ.length (res j) (σ' j) e C σ1)->cp fn.ntmps σ1 s' C a'->aJ σ1 s'->cw σ s σ1 s'->ends X S b k cs e a' s')->eZ X S (G (b.aT a (.code c::k)) cs) s):cD X f args σ res σ':=by
 refine⟨⟨fn,hf,J,by rw[hb];rfl⟩,λs vs hr hh S cs hS=>?_⟩
 obtain⟨hl,hg⟩:=cv.get hr
 let b:aO:={ fn:=f,tmps:=#[],todo:=[],defers:=[],mode:=.run,kind:=.normal,roundOf:=af }
 have z:Frame.enter P f vs.toArray .normal=b.aT { tmps:=vs.toArray++Array.replicate (fn.ntmps-vs.toArray.size) aj,defers:=[] } [.code c]:=by
  simp[Frame.enter,Frame.aT,hf,hb,b]
 rw[z];refine h s { tmps:=vs.toArray++Array.replicate (fn.ntmps-vs.toArray.size) aj,defers:=[] } ⟨by simp;omega,⟨[],av⟩,λt=>?_⟩ hh b [] cs S (by simp[b]) rfl ?_
 .rw[lN];simp only[gh,cj,ll];have:=hg t;rcases cx t vs.length with ur|Pb
  .have e:(vs.toArray++Array.replicate (fn.ntmps-vs.toArray.size) aj).getD t aj=(vs[t]?).getD aj:=by
    simp only[dn]
    grind
   rw[e];exact this
  .rw[qq (by omega)]
   trivial
 .rintro e C σ1 s1 a1 ⟨R,U,ks,d,ps,h1,h3,h4,h5,Q,V,h8,h9⟩ f' T st;obtain⟨Z,W⟩:=sZ V;have fin:∀ (fr:aO) s2,b9 s1 s2->fr.fn=f->fr.tmps=a1.tmps->fr.defers=a1.defers->fr.mode=.returning->fr.kind=.normal->eZ X S (G fr cs) s2:=by
   intro fr s2 n6 e1 e2 e3 e4 e5;have f2:=f'.rely n6 T;have n:=T.rely n6;have g:=st.trans n6.stepW;obtain⟨v,r2,r1⟩:=h1 f2;obtain⟨i,r⟩:=vv (l':=s2.β) Q n.len;have r4:=(oU h3 h4 r2).sub Q r h5;obtain⟨c1,c2⟩:=gE Q;obtain⟨d1,d2⟩:=gE r;have A:∀ L∈i,L∈s2.β:=u4 r;have N:aJ (σ' R) { s2 with β:=i }:=by
    obtain⟨I,_⟩:=n.sub Q r Z h8;refine⟨I.mem,I.len,λj B L H q=>?_,I.fT,I.lt,λb hb=>⟨(n.own b hb).1,λL q=>(n.own b hb).2 L (A L q)⟩⟩
    exact eJ.plain (σ:=σ' R) (s:={ s2 with β:=i,own:=xy s2 i }) (s':={ s2 with β:=i }) rfl rfl (jw Z B (bM H)) (I.box j B L H q)
   have Y:cw σ s (σ' R) { s2 with β:=i }:=by
    refine⟨g.size,g.eB,g.mem,g.jk,λL q b hb=>g.uo _ (A L q) b hb,λl B L H q=>?_,g.os,g.tape,g.output,g.own⟩
    have hl:l<σ.length:=(cg.1 H).1;obtain⟨B',L',p1,p2,p3⟩:=g.box l B L H q
    grind
   obtain⟨ls,K⟩:=f2.defers;refine nY ls fr s2 _ n.kz (by simp) e4 (by rw[e3];exact K.taken n) λF m=>?_
   have p:b9 { s2 with β:=i } { F with β:=i }:=by
    refine⟨rfl,m.M,m.own,m.size,λb hb=>m.eB b (hb.imp id ?_),m.mem,m.os,m.tape,m.output⟩
    rintro⟨L,q,hb⟩;obtain⟨j,hj,rfl⟩:=dX q;have E:j<ks.length:=by rw[<-d1];exact hj
    obtain⟨y,y1,y2⟩:=d2 j _ (bl E);obtain⟨x,x1,x2⟩:=c2 j _ (bl E);rw[bl hj] at y1;cases y1;refine⟨_,_,y2,λhc=>?_,hb⟩
    rw[K.yh _ hc] at x2;cases x2;exact lD W _ (bM x1) rfl
   have hG:eK F { F with β:=i }:=⟨rfl,λ_ _ _ h=>h,λ_ _ _=>rfl,λb o v hv=>m.mem b o v (by rw[<-m.M];exact hv),λb hb=>hb.imp id λ⟨L,q,hb⟩=>⟨L,by rw[m.β];exact A L q,hb⟩⟩
   refine .ghost hG (hS R _ v _ ⟨e1,e4,rfl,e5,fn,by grind,λw hw=>?_⟩ (r4.mono p.stepW.ext N.len) (N.rely p) (Y.trans p.stepW))
   show (results fn fr.tmps).run P w=_/\∀ e∈(results fn fr.tmps).events P w #[],_;rw[e2];have O:∀ b o u,s2.M b o=aa u->w.cell? ⟨b,o,af⟩=aa u:=λb o u h=>hw b o u (by show F.M b o=aa u;rw[m.M];exact h)
   refine⟨(r1 w O).1,λe U=>?_⟩
   obtain⟨b,o,u,q1,q2⟩:=(r1 w O).2 e U;exact⟨b,o,u,q1,by show F.M b o=aa u;rw[m.M];exact q2⟩
  rcases U with rfl|rfl
  .intro pre;exact .ctl T rfl (λ_=>zm rfl) λs2 n6=>fin _ s2 n6 rfl rfl (ik _) rfl rfl
  .exact .ctl T rfl (λ_=>zn rfl) λs2 n6=>fin _ s2 n6 rfl rfl (ik _) rfl rfl
def cD.Pw{P:aq}{ι:Type}{X:Cx P}{f:aV}{fn:Func}{c:Code}{args:List D}{σ:List aW}{σ':ι->List aW}{res:ι->D}(l:P.funcs[f]?=aa fn)(i:(fn.name== "runtime.NumGoroutine")=ae)(hb:fn.body=aa c)(g:args.length<=fn.ntmps)
  (h:∀ s a,cp fn.ntmps σ s (hU 0 args) a->aJ σ s->∀ (b:aO) (k:List Item) (cs:List aO) (S:au->St->Prop),b.kind≠.early->b.roundOf=af ->
  (∀ e d σ1 s' a',(∃ j,bZ fn σ.length (res j) (σ' j) e d σ1)->cp fn.ntmps σ1 s' d a'->aJ σ1 s'->cw σ s σ1 s'->ends X S b k cs e a' s')->eZ X S (G (b.aT a (.code c::k)) cs) s):cD X f args σ res σ' :=
 cD.JY l i hb g λs a f hh b k cs S h1 h2 hQ=>h s a f hh b k cs S h1 h2 λe d σ1 s' a' ⟨j,q⟩=>hQ e d σ1 s' a' ⟨j,q.toJ⟩
def cD.Ql{P:aq}{ι:Type}{X:Cx P}{f:aV}{fn:Func}{c:Code}{args:List D}{σ:List aW}{σ':ι->List aW}{res:ι->D}(m:P.funcs[f]?=aa fn)(d:(fn.name== "runtime.NumGoroutine")=ae)(hb:fn.body=aa c)(g:args.length<=fn.ntmps)
  (h:AW X fn.ntmps c (λe φ σ1=>∃ j,Bp P fn σ.length (res j) (σ' j) e φ σ1) (hU 0 args) σ):cD X f args σ res σ' :=
 cD.JY m d hb g λs a f hh b k cs S l _ i=>h s a f hh b k cs S l i
def cD.intro{P:aq}{ι:Type}{X:Cx P}{f:aV}{fn:Func}{c:Code}{args:List D}{σ:List aW}{σ':ι->List aW}{res:ι->D}(m:P.funcs[f]?=aa fn)(d:(fn.name== "runtime.NumGoroutine")=ae)(hb:fn.body=aa c)(g:args.length<=fn.ntmps)
  (h:AW X fn.ntmps c (λe φ σ1=>∃ j,bZ fn σ.length (res j) (σ' j) e φ σ1) (hU 0 args) σ):cD X f args σ res σ' :=
 cD.Pw m d hb g λs a f hh b k cs S l _ i=>h s a f hh b k cs S l i
def Ev.intro{P:aq}{X:Cx P}{f:aV}{fn:Func}{c:Code}{args:List D}{σ σ':List aW}{res:D}(d:P.funcs[f]?=aa fn)(b:(fn.name== "runtime.NumGoroutine")=ae)(hb:fn.body=aa c)(a:args.length<=fn.ntmps)
  (h:AW X fn.ntmps c (bZ fn σ.length res σ') (hU 0 args) σ):Ev X f args σ res σ' :=
 (cD.intro d b hb a (AW.mono h λ_ _ _ q=>⟨(),q⟩)).ux
end
inductive It where
 |code (c:Code)
 |blk (id:Nat)
 |ops (all rest:List aw)
def AK{P:aq}(X:Cx P)(N:Nat)(Qf:Post):List It->Post
 |[],e,φ,σ=>Qf e φ σ
 |.code c::K,.normal,φ,σ=>AW X N c (AK X N Qf K) φ σ
 |.code _::K,e,φ,σ=>AK X N Qf K e φ σ
 |.blk id::K,.exit IM,φ,σ=>if IM=id then AK X N Qf K .normal φ σ else AK X N Qf K (.exit IM) φ σ
 |.blk _::K,e,φ,σ=>AK X N Qf K e φ σ
 |.ops all rest::K,.normal,φ,σ=>jA X N all rest (AK X N Qf K .normal) φ σ
 |.ops _ _::K,e,φ,σ=>AK X N Qf K e φ σ
section
variable {P:aq}{X:Cx P}{N:Nat}{Qf:Post}{K:List It}{φ:Fr}{σ:List aW}
def AK.of_code{c:Code}(h:AK X N Qf [.code c] .normal φ σ):AW X N c Qf φ σ:=h
def AK.skip(h:AK X N Qf K .normal φ σ):AK X N Qf (.code .skip::K) .normal φ σ:=AW.skip h
def AK.seq{x y:Code}(h:AK X N Qf (.code x::.code y::K) .normal φ σ):AK X N Qf (.code (.seq x y)::K) .normal φ σ:=by
 refine AW.seq (AW.mono h ?_);intro e a σ' q;cases e <;> exact q
def AK.block{id:Nat}{c:Code}(h:AK X N Qf (.code c::.blk id::K) .normal φ σ):AK X N Qf (.code (.block id c)::K) .normal φ σ:=by
 refine AW.block (AW.mono h ?_);intro e a σ' q;cases e <;> exact q
def AK.Q8{id:Nat}(h:AK X N Qf K .normal φ σ):AK X N Qf (.blk id::K) .normal φ σ:=h
def AK.region{id:Nat}{ops:Array aw}(h:AK X N Qf (.ops ops.toList ops.toList::K) .normal φ σ):AK X N Qf (.code (.region id ops ae)::K) .normal φ σ:=AW.region h
def AK.Q9{all:List aw}(h:AK X N Qf K .normal φ σ):AK X N Qf (.ops all []::K) .normal φ σ:=jA.nil h
def AK.rY:∀ {K:List It},Qf .ret φ σ->AK X N Qf K .ret φ σ
 |[],h=>h
 |.code _::K,h=>AK.rY (K:=K) h
 |.blk _::K,h=>AK.rY (K:=K) h
 |.ops _ _::K,h=>AK.rY (K:=K) h
def AK.ret(h:Qf .ret φ σ):AK X N Qf (.code .ret::K) .normal φ σ:=AW.ret (AK.rY h)
def kL(id:Nat):List It->Option (List It)
 |[]=>af
 |.blk i::K=>match aA id i with|true=>aa K|false=>kL id K
 |_::K=>kL id K
def AK.vZ{id:Nat}:∀ {K a:List It},kL id K=aa a->AK X N Qf a .normal φ σ->AK X N Qf K (.exit id) φ σ
 |[],_,h,_=>by cases h
 |.blk i::K,a,h,q=>by
  simp only[kL] at h;cases hb:aA id i with
  |true =>
   simp[hb] at h;subst h;have e:=bT hb;simp only[AK,e,cj];exact q
  |false =>
   simp[hb] at h;have b:id≠i:=λe=>by rw[e,iL] at hb;cases hb
   simp only[AK,b,b5];exact AK.vZ h q
 |.code _::K,a,h,q=>AK.vZ (K:=K) h q
 |.ops _ _::K,a,h,q=>AK.vZ (K:=K) h q
def AK.exit{id:Nat}{a:List It}(b:kL id K=aa a)(h:AK X N Qf a .normal φ σ):AK X N Qf (.code (.exit id)::K) .normal φ σ:=AW.exit (AK.vZ b h)
def AK.cond{c:an}{x y:Code}{b:Bool}{t:Nat}(f:c=.tmp t)(hl:look φ t=.e (.one (.c (.bool b))))
  (d:b=ab->AK X N Qf (.code x::K) .normal φ σ) (a:b=ae->AK X N Qf (.code y::K) .normal φ σ):AK X N Qf (.code (.cond c x y)::K) .normal φ σ:=AW.cond f hl d a
def AK.loop{S:Type}{c:Code}(I:S->Prop)(fr:S->Fr)(st:S->List aW)(d:S->Nat)(x:S)(g:I x)(f:rZ φ (fr x))(b:st x=σ)
  (round:∀ x,I x->AK X N (λe a σ'=>match e with
   |.normal=>∃ y,I y/\d y<d x/\rZ a (fr y)/\σ'=st y
   |e=>AK X N Qf K e a σ') [.code c] .normal (fr x) (st x)):AK X N Qf (.code (.loop c)::K) .normal φ σ:=by
 refine AW.loop I fr st d x g f b λy h=>AW.mono (round y h) ?_
 intro e a σ' q;cases e <;> exact q
end
def dc{α a:Type}:List α->(List α->Option a)->Option a
 |[],k=>k []
 |x::r,k=>dc r λq=>k (x::q)
def cR{α b:Type}(l:List α)(k:List α->Option b):dc l k=k l:=by
 induction l generalizing k with
 |nil=>rfl
 |cons x r a=>simp[dc,a]
def zG(φ:Fr)(all:List aw)(j:Nat):Option (Option Bool) :=
 match fA j all with
 |some oj=>match oj.dst with
  |some d=>match look φ d with
   |.e (.one (.c (.bool ab)))=>aa (aa ab)
   |.e (.one (.c (.bool ae)))=>aa (aa ae)
   |.eN []=>aa af
   |_=>af
  |none=>af
 |none=>af
def pS{N:Nat}{φ:Fr}{all:List aw}{j:Nat}{r:Option Bool}(h:zG φ all j=aa r){σ:List aW}{s:St}{a:Act}(f:cp N σ s φ a):yielded all.toArray a.tmps j=r:=by
 unfold zG at h;rw[eW] at h;unfold yielded;cases i:all[j]? with
 |none=>simp[i] at h
 |some oj =>
  simp only[i] at h;simp only[iH,i,nG];cases l:oj.dst with
  |none=>simp[l] at h
  |some d =>
   simp only[l] at h;simp only[nG];have c:=f.slot d;have key:∀ v,a.tmps.getD d aj=v->v≠aj->a.tmps[d]?=aa v:=by
    intro v e n;simp only[dn] at e
    grind
   split at h
   .rename_i g
    cases h;rw[g] at c;have b:=fC c;generalize e:a.tmps.getD d aj=v at b;cases b;rw[key _ e (by simp[aj])]
   .rename_i g
    cases h;rw[g] at c;have b:=fC c;generalize e:a.tmps.getD d aj=v at b;cases b;rw[key _ e (by simp[aj])]
   .rename_i g
    cases h;rw[g] at c;obtain⟨vs,m,o⟩:=c;have k:vs=[]:=by cases vs with
     |nil=>rfl
     |cons _ _=>exact o.elim
    subst k;simp only[dn] at m
    grind
   .cases h
def Wa(T:List (Nat×TI))(φ:Fr)(σ:List aW)(o:aw):Option (D×List aW×List Prop) :=
 match o.op with
 |.move x|.assign x=>aa (bX φ x,σ,[])
 |.pick c a b=>match bX φ c with
  |.e (.one (.c (.bool ab)))=>aa (bX φ a,σ,[])
  |.e (.one (.c (.bool ae)))=>aa (bX φ b,σ,[])
  |_=>af
 |.binOp op _ x y _=>match bX φ x,bX φ y with
  |.e (.one (.c a)),.e (.one (.c b))=>match Ng op a b with
   |some (c,obs)=>aa (.e (.one (.c c)),σ,obs)
   |none=>af
  |_,_=>af
 |.unOp op _ x=>match bX φ x with
  |.e (.one (.c a))=>match V9 op a with
   |some c=>aa (.e (.one (.c c)),σ,[])
   |none=>af
  |_=>af
 |.extract x j=>match bX φ x with
  |.eN xs=>match fA j xs with
   |some e=>aa (.e e,σ,[])
   |none=>af
  |_=>af
 |.alloc E=>match bA T E with
  |some i=>dc (σ++[.cells E (i.zero.map A.c)]) λσ'=>aa (.e (.one (.ptr σ.length 0)),σ',[])
  |none=>af
 |.box E x=>match mU (bX φ x) with
  |some cs=>dc (σ++[.cells E cs]) λσ'=>aa (.e (.one (.ptr σ.length 0)),σ',[])
  |none=>af
 |.load t x=>match bA T t with
  |some i=>match bX φ x with
   |.e (.one (.ptr l off))=>match fA l σ with
    |some (.cells _ cs)=>match m9 i (hX off cs) with
     |some e=>aa (.e e,σ,[])
     |none=>af
    |_=>af
   |.e (.one (.c (.rp cs)))=>match m9 i (cs.map A.c) with
    |some e=>aa (.e e,σ,[])
    |none=>af
   |_=>af
  |none=>af
 |.store t x y=>match bA T t with
  |some i=>match bX φ x with
   |.e (.one (.ptr l off))=>match fA l σ with
    |some (.cells E cs)=>match mU (bX φ y) with
     |some new=>match aA new.length i.size with
      |true=>match eR off new cs with
       |some l8=>dc (dZ.sM l (.cells E l8) σ) λσ'=>aa (.any,σ',[])
       |none=>af
      |false=>af
     |none=>af
    |_=>af
   |_=>af
  |none=>af
 |.fieldAddr t x f=>match jK T t f with
  |some (k,_)=>match bX φ x with
   |.e (.one (.ptr l off))=>aa (.e (.one (.ptr l (off+k))),σ,[])
   |.e (.one (.c (.rp cs)))=>aa (.e (.one (.c (.rp (hX k cs)))),σ,[])
   |_=>af
  |none=>af
 |.field t x f=>match jK T t f with
  |some (k,j)=>match bX φ x with
   |.e (.agg cs)=>match m9 j (hX k cs) with
    |some e=>aa (.e e,σ,[])
    |none=>af
   |_=>af
  |none=>af
 |.nilCheck x=>match bX φ x with
  |.e (.one (.ptr l off))=>aa (.e (.one (.ptr l off)),σ,[])
  |.e (.one (.c (.rp cs)))=>aa (.e (.one (.c (.rp cs))),σ,[])
  |_=>af
 |.build t parts=>match zE T (bX φ) t parts.toList with
  |some cs=>aa (.e (.agg cs),σ,[])
  |none=>af
 |.buildSlice t n parts=>match Dv T (bX φ) t n parts.toList with
  |some (k,es)=>aa (.e (.one (.c (.sl ab k n λi=>es.getD i []))),σ,[])
  |none=>af
 |_=>af
def DO{P:aq}{T:List (Nat×TI)}(m:db P T){φ:Fr}{σ σ':List aW}{o:aw}{x:D}{obs:List Prop}(h:Wa T φ σ o=aa (x,σ',obs))(B:ag obs):bF P o (bX φ) σ x σ':=by
 unfold Wa at h;split at h
 .rename_i y d
  cases h;exact bF.move d
 .rename_i y d
  cases h;exact bF.assign d
 .rename_i c a b d
  split at h
  .rename_i g;cases h;exact bF.pick d g
  .rename_i g;cases h;exact bF.pick d g
  .cases h
 .rename_i op t y z ty d
  split at h
  .rename_i a b s r
   split at h
   .rename_i c u g;cases h;exact bF.binOp d s r g B
   .cases h
  .cases h
 .rename_i op t y d
  split at h
  .rename_i a s
   split at h
   .rename_i c g;cases h;exact bF.unOp d s g
   .cases h
  .cases h
 .rename_i y j d
  split at h
  .rename_i xs hx
   split at h
   .rename_i e w;cases h;exact bF.extract d hx (dw w)
   .cases h
  .cases h
 .rename_i E d
  split at h
  .rename_i i hi;rw[cR] at h;cases h;exact bF.alloc m d hi
  .cases h
 .rename_i E y d
  split at h
  .rename_i cs g;rw[cR] at h;cases h;exact bF.box d g
  .cases h
 .rename_i t y d
  split at h
  .rename_i i hi
   split at h
   .rename_i l off hx
    split at h
    .rename_i E cs hB
     split at h
     .rename_i e p;cases h;exact bF.FC m d hx (dw hB) hi p
     .cases h
    .cases h
   .rename_i cs hx
    split at h
    .rename_i e p;cases h;exact bF.JC m d hx hi p
    .cases h
   .cases h
  .cases h
 .rename_i t y z d
  split at h
  .rename_i i hi
   split at h
   .rename_i l off hx
    split at h
    .rename_i E cs hB
     split at h
     .rename_i new hn
      split at h
      .rename_i r
       split at h
       .rename_i v A
        rw[cR,lx] at h;cases h;exact bF.store m d hx (dw hB) hi hn (bT r) A
       .cases h
      .cases h
     .cases h
    .cases h
   .cases h
  .cases h
 .rename_i t y f d
  split at h
  .rename_i k j q
   split at h
   .rename_i l off hx;cases h;exact bF.rS m d hx q
   .rename_i cs hx;cases h;exact bF.tJ m d hx q
   .cases h
  .cases h
 .rename_i t y f d
  split at h
  .rename_i k j q
   split at h
   .rename_i cs hx
    split at h
    .rename_i e p;cases h;exact bF.field m d hx q p
    .cases h
   .cases h
  .cases h
 .rename_i y d
  split at h
  .rename_i l off hx;cases h;exact bF.tK d hx
  .rename_i cs hx;cases h;exact bF.vS d hx
  .cases h
 .rename_i t parts d
  split at h
  .rename_i cs g;cases h;exact bF.build m d g
  .cases h
 .rename_i t n parts d
  split at h
  .rename_i k es g;cases h;exact bF.buildSlice m d g
  .cases h
 .cases h
def gv(N:Nat):Option Nat->Bool
 |some d=>bq (d+1) N
 |none=>ab
def ir{N:Nat}{d:Option Nat}(h:gv N d=ab):∀ t,d=aa t->t<N:=by
 intro t a;subst a;exact c7 h
def dq{all:List aw}{o:aw}(h:o.guard=af){a:Act}:bj o (yielded all.toArray a.tmps)=ab:=by simp[bj,h]
section
variable {P:aq}{T:List (Nat×TI)}{o:aw}{g:an->D}{σ:List aW}
def uA(g:an->D):Option an->Option (Option Int)
 |none=>aa af
 |some x=>match g x with
  |.e (.one (.c (.int _ j)))=>aa (aa j)
  |_=>af
def jd{s:St}{ρ:an->ak}(d:∀ y,c8 σ s (ρ y) (g y)){x:Option an}{b:Option Int}(h:uA g x=aa b):(x.map ρ=af/\b=af)∨∃ k j,x.map ρ=aa (.int k j)/\b=aa j:=by
 cases x with
 |none=>cases h;exact .inl ⟨rfl,rfl⟩
 |some y =>
  right
  simp only[uA] at h;split at h
  .rename_i k j a
   cases h;have:=d y;rw[a] at this;have:=fC this;generalize c:ρ y=v at this;cases this;exact⟨k,j,by simp[c],rfl⟩
  .cases h
def cn(d:Nat):Option Int->Nat
 |none=>d
 |some j=>j.toNat
def iN(n:Nat):Option Int->Option Int->List Prop
 |none,af=>[]
 |some l,af=>[0<=l,l<=n]
 |none,aa h=>[0<=h,h<=n]
 |some l,aa h=>[0<=l,l<=h,h<=n]
def nS{isS:Bool}{n cap:Nat}(p:n<=cap){lo hi:Option ak}{l h:Option Int}(i:(lo=af/\l=af)∨∃ k j,lo=aa (.int k j)/\l=aa j)(m:(hi=af/\h=af)∨∃ k j,hi=aa (.int k j)/\h=aa j)
  (c:ag (iN n l h)) (w:az):(Instr.sliceBounds isS n cap lo hi af).run P w=.ok (cn 0 l,cn n h,cap) w/\cn 0 l<=cn n h/\cn n h<=n:=by
 rcases i with⟨rfl,rfl⟩|⟨d,l,rfl,rfl⟩ <;> rcases m with⟨rfl,rfl⟩|⟨f,h,rfl,rfl⟩
 .exact⟨by simp[Instr.sliceBounds,cn],by simp[cn],by simp[cn]⟩
 .obtain⟨a,b⟩:0<=h/\h<=(n:Int):=c;refine⟨?_,by simp[cn],by simp only[cn];omega⟩
  simp[Instr.sliceBounds,cn,run_sliceBound (P:=P) w f h cap _ a (by omega)]
 .obtain⟨a,b⟩:0<=l/\l<=(n:Int):=c;refine⟨?_,by simp only[cn];omega,by simp[cn]⟩
  simp[Instr.sliceBounds,cn,run_sliceBound (P:=P) w d l n _ a b]
 .obtain⟨a,b,q⟩:0<=l/\l<=h/\h<=(n:Int):=c;have e:((h.toNat:Nat):Int)=h:=uQ (by omega)
  refine⟨?_,by simp only[cn];omega,by simp only[cn];omega⟩
  simp[Instr.sliceBounds,cn,run_sliceBound (P:=P) w f h cap _ (by omega) (by omega),run_sliceBound (P:=P) w d l h.toNat _ a (by omega)]
def eF(w:az)(k:IntKind) (i:Int)(y:Nat)(code:BoundsCode)(b:0<=i)(a:i<=(y:Int))(es:Array Event):(Instr.sliceBound (.int k i) y code).events P w es=es:=by
 simp[Instr.sliceBound,asIntOf,b,a]
def pM{isS:Bool}{n cap:Nat}{lo hi:Option ak}{l h:Option Int}(r:n<=cap)(m:(lo=af/\l=af)∨∃ k j,lo=aa (.int k j)/\l=aa j)(p:(hi=af/\h=af)∨∃ k j,hi=aa (.int k j)/\h=aa j)
  (c:ag (iN n l h)) (w:az) (es:Array Event):(Instr.sliceBounds isS n cap lo hi af).events P w es=es:=by
 have q:∀ (isS:Bool) (v:Option ak) (d:Nat) (w:az) (es:Array Event),v=af->(Instr.sliceBounds isS n cap af af af).events P w es=es:=λisS v d w es _=>by simp[Instr.sliceBounds]
 rcases m with⟨rfl,rfl⟩|⟨i,l,rfl,rfl⟩ <;> rcases p with⟨rfl,rfl⟩|⟨f,h,rfl,rfl⟩
 .simp[Instr.sliceBounds]
 .obtain⟨a,b⟩:0<=h/\h<=(n:Int):=c;simp[Instr.sliceBounds,eF (P:=P) w f h cap _ a (by omega)]
 .obtain⟨a,b⟩:0<=l/\l<=(n:Int):=c;simp[Instr.sliceBounds,eF (P:=P) w i l n _ a b]
 .obtain⟨a,b,s⟩:0<=l/\l<=h/\h<=(n:Int):=c;have e:((h.toNat:Nat):Int)=h:=uQ (by omega)
  simp[Instr.sliceBounds,run_sliceBound (P:=P) w f h cap _ (by omega) (by omega),eF (P:=P) w f h cap _ (by omega) (by omega),eF (P:=P) w i l h.toNat _ a (by omega)]
def rP(s:List UInt8):Option Int->Option Int->List UInt8
 |none,af=>s
 |some l,af=>s.drop l.toNat
 |none,aa h=>s.take h.toNat
 |some l,aa h=>(s.take h.toNat).drop l.toNat
def bF.Jz(A:db P T){t:ar}{x:an}{lo hi:Option an}(h:o.op=.slice t x lo hi af){i:TI}(k:bA T t=aa i)(z:i.desc=.string){s:List UInt8}{l u:Option Int}
  (y:g x=.e (.one (.c (.str s)))) (hl:uA g lo=aa l) (p:uA g hi=aa u) (q:ag (iN s.length l u)):bF P o g σ (.e (.one (.c (.str (rP s l u))))) σ:=by
 refine .quiet λst ρ hh hr=>?_
 have h1:=hr x;rw[y] at h1
 replace h1:=fC h1
 generalize f:ρ x=vx at h1;cases h1 with
 |@str sb _ r v =>
 have b:sb.size=s.length:=by rw[<-r];exact iJ.symm
 obtain⟨hb,j,d⟩:=nS (P:=P) (isS:=ae) (n:=sb.size) (cap:=sb.size) (bc _) (jd hr hl) (jd hr p) (by rw[b];exact q) st.w
 have a:=(A t i k).run_underlying (w:=st.w);rw[z] at a;have m:=pM (P:=P) (isS:=ae) (n:=sb.size) (cap:=sb.size) (bc _) (jd hr hl) (jd hr p) (by rw[b];exact q) st.w
 refine⟨.string (sb.extract (cn 0 l) (cn sb.size u)),?_,Rd.str ?_ ?_,by simp[ay,h,f,Instr.sliceAt,a,Instr.slice,m]⟩
 .simp[ay,h,f,Instr.sliceAt,a,Instr.slice,hb]
 .rw[Lib.extract_data,r,b];rw[b] at j d;cases l <;> cases u <;> simp only[rP,cn] at j d ⊢
  .simp
  .simp
  .rw[qT (by simp)]
  .rw[List.drop_take]
 .cases l <;> cases u <;> simp only[rP,mO,List.length_take] <;> omega
def jJ(l:Nat)(f:Nat->List C):Nat->List C:=λi=>f (l+i)
def Nf(tt:Bool):Option Int->Bool
 |none=>tt
 |some _=>ae
def bF.No(B:db P T){t:ar}{x:an}{lo hi:Option an}(h:o.op=.slice t x lo hi af){i p:TI}{E:ar}(q:bA T t=aa i)(O:i.desc=.slice E)(G:bA T E=aa p){tt:Bool}{n:Nat}{es:Nat->List C}{l u:Option Int}
  (F:∀ s v,c8 σ s v (g x)->Rd s.M v (.sl tt p.size n es)) (hl:uA g lo=aa l) (A:uA g hi=aa u) (z:ag (iN n l u)) :
  bF P o g σ (.e (.one (.c (.sl (Nf tt u) p.size (cn n u-cn 0 l) (jJ (cn 0 l) es))))) σ:=by
 refine .quiet λst ρ hh hr=>?_
 have h1:=F st _ (hr x);obtain⟨a,cap,vs,r,k,I,J,R,Q⟩:=h1.flat;rw[r] at h1;obtain⟨hb,L,H⟩:=nS (P:=P) (isS:=ab) k (jd hr hl) (jd hr A) z st.w;have d:=(B t i q).run_underlying (w:=st.w);rw[O] at d;refine⟨.slice (if cap=cn 0 l then a else a.map (·.add (cn 0 l*p.size))) (cn n u-cn 0 l) (cap-cn 0 l),?_,?_,by simp[ay,h,r,Instr.sliceAt,d,Instr.slice,hb,pM (P:=P) (isS:=ab) k (jd hr hl) (jd hr A) z st.w]⟩
 .simp[ay,h,r,Instr.sliceAt,d,Instr.slice,hb,(B E p G).run_sizeOf]
 .cases h1 with
  |sl b off f _ _ _ K N hm' QG =>
   refine Rd.sl b (off+cn 0 l*p.size) (λi j=>f (cn 0 l+i) j) (by omega) (by omega) ?_ (λi hi=>K _ (by omega)) (λy=>?_) (λi hi j c hj=>?_) (λi hi j c hj=>QG _ (by omega) j c hj)
   .intro m;cases u with
    |none=>simp only[Nf] at m;have:=J m;simp only[cn];omega
    |some u=>cases m
   .rw[aY (by omega),N (by omega)]
    simp[c9]
   .have:=hm' (cn 0 l+i) (by omega) j c hj
    grind
def bF.Nm(m:db P T){b dst:ar}{x:an}(h:o.op=.convert b dst x){i i2:TI}{k k':IntKind}{j:Int}(hi:bA T b=aa i)(l:bA T dst=aa i2)(q:i2.desc=.int k')(p:g x=.e (.one (.c (.int k j))))(n:bx k' j) :
  bF P o g σ (.e (.one (.c (.int k' j)))) σ:=by
 refine .quiet λst ρ hh hr=>?_
 have h1:=hr x;rw[p] at h1
 replace h1:=fC h1
 generalize d:ρ x=vx at h1;cases h1;have f:=(m b i hi).run_underlying (w:=st.w);have a:=(m dst i2 l).run_underlying (w:=st.w);rw[q] at a;exact⟨.int k' j,by simp[ay,h,d,convert,f,a,Conv.intToInt,mo n],Rd.int n,by simp[ay,h,d,convert,f,a,Conv.intToInt]⟩
def bF.Nn(l:db P T){d dst:ar}{x:an}(h:o.op=.convert d dst x){i i2:TI}{s:List UInt8}(hi:bA T d=aa i)(k:bA T dst=aa i2)(n:i2.desc=.string)(m:g x=.e (.one (.c (.str s)))) :
  bF P o g σ (.e (.one (.c (.str s)))) σ:=by
 refine .quiet λst ρ hh hr=>?_
 have h1:=hr x;rw[m] at h1;have f:=fC h1;generalize b:ρ x=vx at f;cases f;have j:=(l d i hi).run_underlying (w:=st.w);have a:=(l dst i2 k).run_underlying (w:=st.w);rw[n] at a;exact⟨_,by simp[ay,h,b,convert,j,a];rfl,by rw[<-b];exact h1,by simp[ay,h,b,convert,j,a]⟩
def vP(f:Nat->List C):Nat->Nat->Option (List UInt8)
 |_,0=>aa []
 |i,n+1=>match f i with
  |[.int .u8 v]=>match vP f (i+1) n with
   |some r=>aa (UInt8.ofNat v.toNat::r)
   |none=>af
  |_=>af
def yp{M:Mem}{f:Nat->List C}:∀ {n i:Nat}{r:List UInt8}{vs:List ak},vP f i n=aa r->vs.length=n->(∀ j,j<n->∀ c,(f (i+j))[0]?=aa c->∃ v,vs[j]?=aa v/\Rd M v c) ->
  ∃ xs:List Int,vs=xs.map (Value.int .u8)/\r=xs.map (λx=>UInt8.ofNat x.toNat)
 |0,i,r,vs,h,a,_=>by cases h;exact⟨[],by simpa using a,rfl⟩
 |n+1,i,r,[],h,a,_=>by simp at a
 |n+1,i,r,v::vs,h,a,d=>by
  simp only[vP] at h;split at h
  .rename_i x k
   split at h
   .rename_i q m
    cases h;obtain⟨u,b,l⟩:=d 0 (by omega) (.int .u8 x) (by simp[k])
    simp at b;subst b;cases l;obtain⟨xs,p,e⟩:=yp (vs:=vs) m (by simpa using a) (λj s c t=>by
     have:=d (j+1) (by omega) c (by grind)
     simpa using this)
    exact⟨x::xs,by simp[p],by simp[e]⟩
   .cases h
  .cases h
def ou{P:aq}(w:az){F:ak->ByteArray->Sem (ForInStep ByteArray)}(a:∀ x s,F (.int .u8 x) s=pure (.yield (s.push (UInt8.ofNat x.toNat)))):∀ (xs:List Int)(s:ByteArray),
  (forIn (m:=Sem) (xs.map (Value.int .u8)) s F).run P w=.ok ⟨s.data++(xs.map λx=>UInt8.ofNat x.toNat).toArray⟩ w
 |[],s=>by simp
 |x::xs,s=>by
  simp only[rh,List.forIn_cons,a,bS,cW,b7];rw[ou w a xs]
  congr 2
  apply hO
  simp[ByteArray.push]
end
section
open Go.Conc (G)
def OA{P:aq}(X:Cx P)(N:Nat)(all:List aw)(o:aw)(φ:Fr)(σ:List aW)(x:D)(σ':List aW):Prop :=
 ∀ s a,cp N σ s φ a->aJ σ s->∀ (b:aO) (k:List Item) (cs:List aO) (S:au->St->Prop) (i:Nat) (rest:List Nat),b.kind≠.early->all.toArray[i]?=aa o ->
  (∀ v s',c8 σ' s' v x->aJ σ' s'->cw σ s σ' s'->eZ X S (G (b.aT (a.put o.dst v) (.inRegion all.toArray rest::k)) cs) s')->eZ X S (G (b.aT a (.inRegion all.toArray (i::rest)::k)) cs) s
section
variable {P:aq}{X:Cx P}{N:Nat}{all rest:List aw}{φ m:Fr}{σ σ':List aW}{o:aw}{x:D}
def OA.lF(p:∀ σ s a,cp N σ s φ a->bj o (yielded all.toArray a.tmps)=ab)(h:bF P o (bX φ) σ x σ'):OA X N all o φ σ x σ':=by
 intro s a f hh b k cs S i rest hb hi hK;refine zK hb hi (p _ _ _ f) λe d=>?_
 have c:=hh.rely d;obtain⟨r,s',h1,h2,g,j,q⟩:=h e a.eval c (dK (f.rely d hh));have n:=d.stepW.trans (j.oo c);have l:qu e s' ((ay a.eval o).events P e.w #[]):=⟨⟨σ,σ',c,g,j⟩,q⟩;cases r with
 |value v=>exact⟨_,s',v,h1,.inl rfl,l,hK v s' h2 g n⟩
 |skip=>simp only[QU] at h2;subst h2;exact⟨_,s',aj,h1,.inr ⟨rfl,rfl⟩,l,hK aj s' av g n⟩
 |_=>exact h2.elim
def OA.pass(d:∀ σ s a,cp N σ s φ a->bj o (yielded all.toArray a.tmps)=ae):OA X N all o φ σ (.eN []) σ:=by
 intro s a f hh b k cs S i rest hb hi hK;exact .ctl hh rfl (λ_=>MV hi (d _ _ _ f)) λe c=>hK aj e ⟨[],rfl,av⟩ (hh.rely c) c.stepW
def jA.sY{Q:Fr->List aW->Prop}(h:OA X N all o φ σ x σ')(e:∀ t,o.dst=aa t->t<N)(k:jA X N all rest Q (lr o.dst x φ) σ'):jA X N all (o::rest) Q φ σ:=by
 intro s a f hh b kk cs S idx hb jE hQ;cases idx with
 |nil=>exact jE.elim
 |cons i idx =>
 refine h s a f hh b kk cs S i idx hb jE.1 λv s' hv ld st=>k s' _ ?_ ld b kk cs S idx hb jE.2 λc σ2 s2 a2 q g h2 oz=>hQ c σ2 s2 a2 q g h2 (st.trans oz)
 cases d:o.dst with
 |none=>exact f.mono st hh.len
 |some t=>exact(f.mono st hh.len).put (e t d) hv
end
abbrev dg:=List D->List aW->Option (D×List aW×List Prop)
def yk:List (Nat×dg)->Nat->Option dg
 |[],_=>af
 |(i,g)::r,f=>cond (aA i f) (aa g) (yk r f)
def dD{P:aq}(X:Cx P)(f:aV)(g:dg):Prop:=∀ args σ res σ' obs,g args σ=aa (res,σ',obs)->ag obs->Ev X f args σ res σ'
def bD{P:aq}(X:Cx P)(CT:List (Nat×dg)):Prop:=∀ f g,yk CT f=aa g->dD X f g
def bD.nil{P:aq}{X:Cx P}:bD X []:=λ_ _ h=>by cases h
def bD.cons{P:aq}{X:Cx P}{f:aV}{g:dg}{CT:List (Nat×dg)}(h:dD X f g)(r:bD X CT):bD X ((f,g)::CT):=by
 intro a g2 h2;simp only[yk] at h2;cases hb:aA f a with
 |true=>rw[hb] at h2;cases h2;rw[<-bT hb];exact h
 |false=>rw[hb] at h2;exact r a g2 h2
def bxA:A->List Nat->List Nat
 |.ptr l _,ks=>cond (fI l ks) ks (ks++[l])
 |.vec l _ _ _,ks=>cond (fI l ks) ks (ks++[l])
 |.ref l,ks=>cond (fI l ks) ks (ks++[l])
 |.bp l _,ks=>cond (fI l ks) ks (ks++[l])
 |_,ks=>ks
def bxL:List A->List Nat->List Nat
 |[],ks=>ks
 |a::r,ks=>bxL r (bxA a ks)
def bxD:D->List Nat->List Nat
 |.e (.one a),ks=>bxA a ks
 |.e (.agg cs),ks=>bxL cs ks
 |_,ks=>ks
def Um:List D->List Nat->List Nat
 |[],ks=>ks
 |a::r,ks=>Um r (bxD a ks)
def Bw(l:Nat):List Nat->Nat->Option Nat
 |[],_=>af
 |k::r,i=>match aA k l with|true=>aa i|false=>Bw l r (i+1)
def r5{l:Nat}:∀ {ks:List Nat}{i j:Nat},Bw l ks i=aa j->i<=j/\ks[j-i]?=aa l
 |[],_,_,h=>by cases h
 |k::r,i,j,h=>by
  simp only[Bw] at h;cases a:aA k l with
  |true=>rw[a] at h;cases h;exact⟨bc _,by simp[bT a]⟩
  |false =>
   rw[a] at h;obtain⟨c,b⟩:=r5 h
   grind
def S7(ks:List Nat):A->Option A
 |.ptr l o=>match Bw l ks 0 with|some i=>aa (.ptr i o)|none=>af
 |.ref l=>match Bw l ks 0 with|some i=>aa (.ref i)|none=>af
 |.bp l w=>match Bw l ks 0 with|some i=>aa (.bp i w)|none=>af
 |.vec _ _ _ _=>af
 |.c x=>aa (.c x)
 |.any=>aa .any
def Wj(ks:List Nat):List A->Option (List A)
 |[]=>aa []
 |a::r=>match S7 ks a with
  |some b=>match Wj ks r with
   |some q=>aa (b::q)
   |none=>af
  |none=>af
def XZ(ks:List Nat):D->Option D
 |.e (.one a)=>match S7 ks a with|some b=>aa (.e (.one b))|none=>af
 |.e (.agg cs)=>match Wj ks cs with|some b=>aa (.e (.agg b))|none=>af
 |.eN _=>af
 |.any=>aa .any
def GZ(ks:List Nat):List D->Option (List D)
 |[]=>aa []
 |a::r=>match XZ ks a with
  |some b=>match GZ ks r with
   |some q=>aa (b::q)
   |none=>af
  |none=>af
def JZ{ks:List Nat}{a b:A}(h:S7 ks a=aa b):oD ks b=a/\GG ks.length b=ab:=by
 cases a with
 |ptr l o =>
  simp only[S7] at h;split at h
  .rename_i i hi
   cases h;obtain⟨_,d⟩:=r5 hi;simp only[ll] at d;have e:i<ks.length:=(cg.1 d).1;exact⟨by simp[oD,eW,d],qU e⟩
  .cases h
 |ref l =>
  simp only[S7] at h;split at h
  .rename_i i hi
   cases h;obtain⟨_,d⟩:=r5 hi;simp only[ll] at d;have e:i<ks.length:=(cg.1 d).1;exact⟨by simp[oD,eW,d],qU e⟩
  .cases h
 |bp l w =>
  simp only[S7] at h;split at h
  .rename_i i hi
   cases h;obtain⟨_,d⟩:=r5 hi;simp only[ll] at d;have e:i<ks.length:=(cg.1 d).1;exact⟨by simp[oD,eW,d],qU e⟩
  .cases h
 |vec l k n es=>cases h
 |c x=>cases h;exact⟨rfl,rfl⟩
 |any=>cases h;exact⟨rfl,rfl⟩
def J0{ks:List Nat}:∀ {a b:List A},Wj ks a=aa b->Bi ks b=a/\GH ks.length b=ab
 |[],b,h=>by cases h;exact⟨rfl,rfl⟩
 |a::r,b,h=>by
  simp only[Wj] at h;split at h
  .rename_i x e
   split at h
   .rename_i q g
    cases h;obtain⟨d,f⟩:=JZ e;obtain⟨i,c⟩:=J0 g;exact⟨by simp[Bi,d,i],by simp[GH,f,c]⟩
   .cases h
  .cases h
def QV{ks:List Nat}{a b:D}(h:XZ ks a=aa b):jm ks b=a/\uw ks.length b=ab:=by
 unfold XZ at h;split at h
 .rename_i a
  split at h
  .rename_i x c;cases h;obtain⟨e,d⟩:=JZ c;exact⟨by simp[jm,zu,e],by simp[uw,Je,d]⟩
  .cases h
 .rename_i cs
  split at h
  .rename_i x c;cases h;obtain⟨e,d⟩:=J0 c;exact⟨by simp[jm,zu,e],by simp[uw,Je,d]⟩
  .cases h
 .cases h
 .cases h;exact⟨rfl,rfl⟩
def FN{ks:List Nat}:∀ {a b:List D},GZ ks a=aa b->iT ks b=a/\oC ks.length b=ab
 |[],b,h=>by cases h;exact⟨rfl,rfl⟩
 |a::r,b,h=>by
  simp only[GZ] at h;split at h
  .rename_i x e
   split at h
   .rename_i q g
    cases h;obtain⟨d,f⟩:=QV e;obtain⟨i,c⟩:=FN g;exact⟨by simp[iT,d,i],by simp[oC,f,c]⟩
   .cases h
  .cases h
def Jx(CT:List (Nat×dg))(φ:Fr)(σ:List aW)(a:an)(xs:List an):Option (D×List aW×List Prop) :=
 match eO (bX φ a) with
 |none=>af
 |some (f,cap)=>match yk CT f with
  |none=>af
  |some g =>
   let args:=oq (xs.map (bX φ)++gj cap)
   let ks:=Um args []
   match GZ ks args with
   |none=>af
   |some J1=>match kA ks σ with
    |none=>af
    |some σs=>match g J1 σs with
     |none=>af
     |some (res,σ1,obs)=>match cU σs,cU σ1,dM ks,bq ks.length σ1.length with
      |true,ab,ab,ab=>aa (jm (ks++mV σ.length (σ1.length-ks.length)) res,dZ ks σ1 σ,obs)
      |_,_,_,_=>af
def OA.Py{P:aq}{X:Cx P}{N:Nat}{all:List aw}{φ:Fr}{σ:List aW}{o:aw}{CT:List (Nat×dg)}(hC:bD X CT){B:an}{xs:Array an}{K:Array ar}
  (R:∀ σ s a,cp N σ s φ a->bj o (yielded all.toArray a.tmps)=ab) (M:o.op=.call { callee:=.value B,args:=xs,argTypes:=K }) {f:aV} {cap:List C} (A:eO (bX φ B)=aa (f,cap)) {g:dg} (I:yk CT f=aa g)
  {ks:List Nat} {d:List D} {p σ1:List aW} {res:D} {obs:List Prop} (G:GZ ks (oq (xs.toList.map (bX φ)++gj cap))=aa d) (E:kA ks σ=aa p) (t:g d p=aa (res,σ1,obs))
  (Q:cU p=ab) (J:cU σ1=ab) (hn:dM ks=ab) (H:ks.length<=σ1.length) (r:ag obs):OA X N all o φ σ (jm (ks++mV σ.length (σ1.length-ks.length)) res) (dZ ks σ1 σ):=by
 obtain⟨q,F⟩:=FN G;intro s a n hh b kk cs S i rest hb hi hK;have z:=hC f g I _ _ _ _ _ t r;have v:=dK n B;unfold eO at A;split at A
 case h_2=>cases A
 case h_1 f' IV he =>
  cases A;rw[he] at v;have h:=fC v;generalize O:a.eval B=fv at h;cases h with
  |fn fs l8 hl A8 f1 f2 h1 h2 r1 r2 =>
   have L:fs=[]:=gf hl;subst L;have l:cv σ s l8 (gj cap):=lI (λj c hj=>⟨f2 j,h2 j (by grind),r2 j c hj⟩) A8
   have u:cv σ s (xs.toList.map a.eval++l8) (iT ks d):=by
    rw[q];exact rG ((nP (dK n) xs.toList).append l)
   obtain⟨fn,y,k,e⟩:=z.1;exact Jf hb hi (R _ _ _ n) hh (λw=>(gM M y k e O w).1) (λw=>(gM M y k e O w).2) z u F E Q J hn H hK
def OA.call{P:aq}{X:Cx P}{N:Nat}{all:List aw}{φ:Fr}{σ σ':List aW}{o:aw}{CT:List (Nat×dg)}(hC:bD X CT){l:an}{xs:Array an}{e:Array ar}{x:D}{obs:List Prop}
  (p:∀ σ s a,cp N σ s φ a->bj o (yielded all.toArray a.tmps)=ab) (r:o.op=.call { callee:=.value l,args:=xs,argTypes:=e })
  (b:Jx CT φ σ l xs.toList=aa (x,σ',obs)) (c:ag obs):OA X N all o φ σ x σ':=by
 unfold Jx at b;split at b
 .cases b
 rename_i f cap hf
 split at b
 .cases b
 rename_i g i
 simp only at b;split at b
 .cases b
 rename_i k j
 split at b
 .cases b
 rename_i n d
 split at b
 .cases b
 rename_i res σ1 X0 QW
 split at b
 case h_2=>cases b
 rename_i q h hn QK
 cases b;exact OA.Py hC p r hf i j d QW q h hn (c7 QK) c
def BL{d:D}(h:uw 0 d=ab):jm [] d=d:=by
 have i:∀ {a:A},GG 0 a=ab->oD [] a=a:=by
  intro a b;cases a <;> simp only[GG] at b <;> first|rfl|(simp at b)
 have j:∀ {l:List A},GH 0 l=ab->Bi [] l=l:=by
  intro l
  induction l with
  |nil=>intro _;rfl
  |cons a r f =>
   intro h;simp only[GH] at h;cases b:GG 0 a with
   |false=>simp[b] at h
   |true=>simp only[b] at h;simp[Bi,i b,f h]
 have g:∀ {a:E1},Je 0 a=ab->zu [] a=a:=by
  intro a b;cases a with
  |one a=>simp[zu,i b]
  |agg cs=>simp[zu,j b]
 have c:∀ {l:List E1},xx 0 l=ab->yb [] l=l:=by
  intro l
  induction l with
  |nil=>intro _;rfl
  |cons a r f =>
   intro h;simp only[xx] at h;cases b:Je 0 a with
   |false=>simp[b] at h
   |true=>simp only[b] at h;simp[yb,g b,f h]
 cases d with
 |e x=>simp[jm,g h]
 |eN xs=>simp[jm,c h]
 |any=>rfl
def Bu(CT:List (Nat×dg))(φ:Fr)(a:an)(xs:List an):Option (D×List Prop) :=
 match eO (bX φ a) with
 |none=>af
 |some (f,cap)=>match yk CT f with
  |none=>af
  |some g=>match GZ [] (oq (xs.map (bX φ)++gj cap)) with
   |none=>af
   |some J1=>match g J1 [] with
    |some (res,[],obs)=>match uw 0 res with
     |true=>aa (res,obs)
     |false=>af
    |_=>af
def OA.Bu{P:aq}{X:Cx P}{N:Nat}{all:List aw}{φ:Fr}{σ:List aW}{o:aw}{CT:List (Nat×dg)}(hC:bD X CT){k:an}{xs:Array an}{d:Array ar}{x:D}{obs:List Prop}
  (l:∀ σ s a,cp N σ s φ a->bj o (yielded all.toArray a.tmps)=ab) (n:o.op=.call { callee:=.value k,args:=xs,argTypes:=d })
  (b:AM.Bu CT φ k xs.toList=aa (x,obs)) (c:ag obs):OA X N all o φ σ x σ:=by
 unfold AM.Bu at b;split at b
 .cases b
 rename_i f cap hf
 split at b
 .cases b
 rename_i g h
 split at b
 .cases b
 rename_i j i
 split at b
 case h_2=>cases b
 rename_i res X0 QW
 split at b
 case h_2=>cases b
 rename_i e
 cases b;have:=OA.Py (σ:=σ) hC l n hf h i rfl QW rfl rfl rfl (bc _) c;simpa[mV,BL e,dZ] using this
structure IH (N:Nat)(σ:List aW)(s:St)(V:Nat->D)(a:Act):Prop where
 size:a.tmps.size=N
 defers:∃ ls,oE σ s a.defers ls
 slot:∀ t,c8 σ s (a.tmps.getD t aj) (V t)
def IH.Jk{N:Nat}{σ:List aW}{s:St}{V:Nat->D}{φ:Fr}{a:Act}(f:IH N σ s V a)(h:∀ t σ s v,c8 σ s v (V t)->c8 σ s v (look φ t)):cp N σ s φ a :=
 ⟨f.size,f.defers,λt=>h t _ _ _ (f.slot t)⟩
def cZ(e:Edge):Bool:=Region.binds .any e
structure vJ {P:aq}(X:Cx P)(N:Nat)(ops:Array aw)(φ:Fr)(S:Nat->List aW)(x:Nat->D)(q:Nat->Fr)(free c:Nat->Bool)(p:Nat->Nat->Prop)(idx:Nat->Option Nat)(m:Fr):Prop where
 en:P.follows Departure.mixedOrders=ab
 back:∀ i o,ops[i]?=aa o->∀ e∈o.after,cZ e=ab->e.on<i
 Jl:∀ i o d,ops[i]?=aa o->o.dst=aa d->idx d=aa i/\d<N
 xA:∀ d i,idx d=aa i->∃ o,ops[i]?=aa o/\o.dst=aa d
 quiet:∀ i,c i=ae->S (i+1)=S i
 one:∀ i o,ops[i]?=aa o->free i=ae->OA X N ops.toList o (q i) (S i) (x i) (S (i+1))
 all:∀ i o,ops[i]?=aa o->free i=ab->c i=ae/\∀ k,OA X N ops.toList o (q i) (S k) (x i) (S k)
 cl:∀ L:Nat->Prop,(∀ i o,ops[i]?=aa o->L i->∀ e∈o.after,cZ e=ab->L e.on)->∀ i j,p i j->(L i->L j)/\∃ o,ops[i]?=aa o/\((∀ e∈o.after,cZ e=ab->L e.on)->L j)
 comp:∀ i f,i<ops.size->f<ops.size->c f=ab->i≠f->free i=ae->(f<i/\p i f)∨(i<f/\p f i)
 SZ:∀ i o,ops[i]?=aa o->∀ t σ s v,c8 σ s v (match idx t with|some j=>(if ∃ e∈o.after,cZ e=ab/\e.on=j then x j else if ∃ oj,ops[j]?=aa oj/\∃ e∈oj.after,cZ e=ab/\e.on=i then look φ t else .any)|none=>look φ t)->c8 σ s v (look (q i) t)
 fin:∀ t σ s v,c8 σ s v (match idx t with|some j=>x j|none=>look φ t)->c8 σ s v (look m t)
open Classical in
noncomputable def fY(φ:Fr)(x:Nat->D)(idx:Nat->Option Nat)(L:Array Bool)(t:Nat):D :=
 match idx t with
 |some j=>if L.getD j ae=ab then x j else look φ t
 |none=>look φ t
def mem_ready{ops:Array aw}{L:Array Bool}{i:Nat}:i∈ba .any ops L↔∃ o,ops[i]?=aa o/\L.getD i ab=ae/\∀ e∈o.after,cZ e=ab->L.getD e.on ae=ab:=by
 unfold ba;simp only[md,rf,bO,jg]
 constructor
 .rintro⟨a,g,b⟩;rw[fQ a] at b;simp only[j4,fG,Array.all_eq_true',mP,jg] at b;refine⟨ops[i],fQ a,g,λe j d=>?_⟩
  rcases b e j with h|h
  .unfold cZ at d;rw[d] at h;cases h
  .exact h
 .rintro⟨o,a,g,b⟩;have f:i<ops.size:=(ig.1 a).1;refine⟨f,g,?_⟩;rw[a];simp only[j4,fG,Array.all_eq_true',mP,jg];intro e j;cases d:Region.binds .any e with
  |false=>exact .inl rfl
  |true=>exact .inr (b e j d)
section
variable {P:aq}{X:Cx P}{N:Nat}{ops:Array aw}{φ m:Fr}{S:Nat->List aW}{x:Nat->D}{q:Nat->Fr}{free c:Nat->Bool}{p:Nat->Nat->Prop}{idx:Nat->Option Nat}
def vJ.chain(h:vJ X N ops φ S x q free c p idx m){i:Nat}:∀ {k:Nat},i<=k->(∀ g,i<=g->g<k->c g=ae)->S k=S i
 |0,b,_=>by rw[show i=0 by omega]
 |k+1,b,a=>by
  rcases cx k i with hl|hl
  .rw[show i=k+1 by omega]
  .rw[h.quiet k (a k hl (by omega)),h.chain (k:=k) hl (λg h1 h2=>a g h1 (by omega))]
def vJ.last(h:vJ X N ops φ S x q free c p idx m){L:Array Bool}(l:∀ i,i<ops.size->L.getD i ae=ab){k:Nat}{s0 s:St}{a:Act}(n:k<=ops.size)
  (r:∀ f,f<ops.size->c f=ab->(L.getD f ae=ab↔f<k)) (b:IH N (S k) s (fY φ x idx L) a) (hh:aJ (S k) s) (st:cw (S 0) s0 (S k) s) :
  cp N (S ops.size) s m a/\aJ (S ops.size) s/\cw (S 0) s0 (S ops.size) s:=by
 have e:S ops.size=S k:=h.chain n (λg h1 h2=>by
  grind)
 rw[<-e] at b hh st;refine⟨b.Jk λt σ s v d=>h.fin t σ s v ?_,hh,st⟩
 unfold fY at d;cases hi:idx t with
 |none=>simpa[hi] using d
 |some j =>
  simp only[hi] at d ⊢;obtain⟨o,u,_⟩:=h.xA _ _ hi
  grind
def ew{L:Array Bool}{i j:Nat}(hi:i<L.size):(L.setIfInBounds i ab).getD j ae=ab↔j=i∨L.getD j ae=ab:=by
 simp only[dn]
 grind
def count_set:∀ {l:List Bool}{i:Nat},l[i]?=aa ae->((l.set i ab).filter (λb=>!b)).length+1=(l.filter (λb=>!b)).length
 |[],_,h=>by simp at h
 |b::r,0,h=>by simp at h;subst h;simp
 |b::r,i+1,h=>by
  simp at h;have:=count_set (l:=r) h;cases b <;> simp[List.set_cons_succ] <;> omega
def vK(t:Nat)(L:Array Bool):Region.linearise.go .any ops 0 t L []=[]:=by simp[Region.linearise.go]
def oX(n t:Nat)(L:Array Bool):Region.linearise.go .any ops (n+1) t L []=match (ba .any ops L)[t % (ba .any ops L).length]? with
  |some i=>i::Region.linearise.go .any ops n (t / (ba .any ops L).length) (L.setIfInBounds i ab) []
  |none=>[]:=by
 simp only[Region.linearise.go]
 change (match (ba .any ops L)[t % (ba .any ops L).length]? with
   |some i=>Region.linearise.go .any ops n (t / (ba .any ops L).length) (L.setIfInBounds i ab) [i]
   |none=>[].reverse)=_
 cases (ba .any ops L)[t % (ba .any ops L).length]? with
 |none=>rfl
 |some i=>simp only[];rw[linearise_go_acc,List.reverse_singleton,List.singleton_append]
def vJ.arr(h:vJ X N ops φ S x q free c p idx m){SS:au->St->Prop}{b:aO}{kk:List Item}{cs:List aO}(hb:b.kind≠.early){s0:St}
  (hQ:∀ s a,cp N (S ops.size) s m a->aJ (S ops.size) s->cw (S 0) s0 (S ops.size) s->eZ X SS (G (b.aT a kk) cs) s) :
  ∀ (l:Nat) (L:Array Bool),L.size=ops.size->(L.toList.filter (λb=>!b)).length<=l ->
   (∀ i o,ops[i]?=aa o->L.getD i ae=ab->∀ e∈o.after,cZ e=ab->L.getD e.on ae=ab) ->
   ∀ (k:Nat) (s:St) (a:Act),k<=ops.size->(∀ f,f<ops.size->c f=ab->(L.getD f ae=ab↔f<k))->IH N (S k) s (fY φ x idx L) a->aJ (S k) s->cw (S 0) s0 (S k) s ->
   ∀ t,eZ X SS (G (b.aT a (.inRegion ops (Region.linearise.go .any ops l t L [])::kk)) cs) s:=by
 have fin:∀ (s:St) (a:Act),cp N (S ops.size) s m a->aJ (S ops.size) s->cw (S 0) s0 (S ops.size) s->eZ X SS (G (b.aT a (.inRegion ops []::kk)) cs) s :=
  λs a a1 a2 a3=>.ctl a2 rfl (λ_=>iS) λs1 MI=>hQ s1 a (a1.rely MI a2) (a2.rely MI) (a3.trans MI.stepW)
 intro l
 induction l with
 |zero =>
  intro L hs hf Ds k s a hk F n hh st;have C:∀ i,i<ops.size->L.getD i ae=ab:=by
   intro i hi;have hm:L[i]'(by omega)∈L.toList:=by simp
   cases hb:L[i]'(by omega) with
   |true=>simp[dn,fQ (by omega:i<L.size),hb]
   |false =>
    have:L[i]'(by omega)∈L.toList.filter (λb=>!b):=md.2 ⟨hm,by simp[hb]⟩
    grind
  intro t;rw[vK];obtain⟨a1,a2,a3⟩:=h.last C hk F n hh st;exact fin s a a1 a2 a3
 |succ l ih =>
  intro L hs hf Ds k s a hk F n hh st;intro t;rw[oX];cases M:(ba .any ops L)[t % (ba .any ops L).length]? with
  |none =>
   have hr:ba .any ops L=[]:=by
    cases hr:ba .any ops L with
    |nil=>rfl
    |cons y ys =>
     rw[hr] at M;have I:t % (y::ys).length<(y::ys).length:=hJ _ (by simp)
     grind
   have C:∀ i,i<ops.size->L.getD i ae=ab:=by
    intro i
    induction i using Nat.strongRecOn with
    |_ i W2 =>
     intro hi;cases hb:L.getD i ae with
     |true=>rfl
     |false =>
      have hm:i∈ba .any ops L:=mem_ready.2 ⟨ops[i],fQ hi,by
       grind,λe R hbe=>by
       have:=h.back i _ (fQ hi) e R hbe;exact W2 _ this (by omega)⟩
      rw[hr] at hm;simp at hm
   obtain⟨a1,a2,a3⟩:=h.last C hk F n hh st;exact fin s a a1 a2 a3
  |some i =>
   have hi:=bM M;obtain⟨o,ho,ZR,TP⟩:=mem_ready.1 hi;have I:i<ops.size:=(ig.1 ho).1;have E:¬L.getD i ae=ab:=by
    grind
   have W3:=h.cl (λj=>L.getD j ae=ab) Ds
   have T:∀ g,p g i->¬L.getD g ae=ab:=λg hg hL=>E ((W3 g i hg).1 hL)
   have hup:∀ g,p i g->L.getD g ae=ab:=λg hg=>by
    grind
   have K:(L.setIfInBounds i ab).size=ops.size:=by simp[hs]
   have J:((L.setIfInBounds i ab).toList.filter (λb=>!b)).length<=l:=by
    have h1:L.toList[i]?=aa ae:=by
     rw[uM,fQ (by omega:i<L.size)]
     simpa[dn,fQ (by omega:i<L.size)] using E
    have:=count_set h1;rw[uH];omega
   have W4:∀ j o',ops[j]?=aa o'->(L.setIfInBounds i ab).getD j ae=ab->∀ e∈o'.after,cZ e=ab->(L.setIfInBounds i ab).getD e.on ae=ab:=by
    intro j o' Na hj e R hb;rw[ew (by omega)] at hj ⊢
    grind
   have hfi:cp N (S k) s (q i) a:=n.Jk λt σ s v W=>h.SZ i o ho t σ s v (by
    unfold fY at W;cases u:idx t with
    |none=>simpa[u] using W
    |some j =>
     simp only[u] at W ⊢;split
     .grind
     .split
      .grind
      .trivial)
   have Fv:∀ (σ':List aW) (s':St) (v:ak),cw (S k) s σ' s'->c8 σ' s' v (x i)->IH N σ' s' (fY φ x idx (L.setIfInBounds i ab)) (a.put o.dst v):=by
    intro σ' s' v z W;cases hd:o.dst with
    |none =>
     refine⟨n.size,n.defers.imp λ_ h1=>h1.mono z.ext,λt=>?_⟩
     have w:=(n.slot t).mono z.ext hh.len;simp only[Act.put];unfold fY at w ⊢;cases u:idx t with
     |none=>simpa[u] using w
     |some j =>
      simp only[u] at w ⊢;obtain⟨oj,V7,TQ⟩:=h.xA _ _ u;have V:j≠i:=by grind
      have:((L.setIfInBounds i ab).getD j ae=ab)↔L.getD j ae=ab:=by rw[ew (by omega)];simp[V]
      simp only[this];exact w
    |some d =>
     obtain⟨hid,hdN⟩:=h.Jl i o d ho hd;refine⟨by simp[Act.put,n.size],n.defers.imp λ_ h1=>h1.mono z.ext,λt=>?_⟩
     simp only[Act.put]
     by_cases e:d=t
     .subst e;have hs2:d<a.tmps.size:=by rw[n.size];exact hdN
      simp only[dn,sI hs2,fG];unfold fY;simp only[hid];rw[bg ((ew (by omega)).2 (.inl rfl))]
      exact W
     .have w:=(n.slot t).mono z.ext hh.len;simp only[dn] at w ⊢;rw[qo e];unfold fY at w ⊢;cases u:idx t with
      |none=>simpa[u] using w
      |some j =>
       simp only[u] at w ⊢;obtain⟨oj,V7,TQ⟩:=h.xA _ _ u;have V:j≠i:=by grind
       have:((L.setIfInBounds i ab).getD j ae=ab)↔L.getD j ae=ab:=by rw[ew (by omega)];simp[V]
       simp only[this];exact w
   have H:∀ (k':Nat),k'<=ops.size->OA X N ops.toList o (q i) (S k) (x i) (S k')->(∀ f,f<ops.size->c f=ab->((L.setIfInBounds i ab).getD f ae=ab↔f<k')) ->
     eZ X SS (G (b.aT a (.inRegion ops (i::Region.linearise.go .any ops l (t / (ba .any ops L).length) (L.setIfInBounds i ab) [])::kk)) cs) s:=by
    intro k' WY hoa W5;have:=hoa s a hfi hh b kk cs SS i (Region.linearise.go .any ops l (t / (ba .any ops L).length) (L.setIfInBounds i ab) []) hb (by simpa using ho)
    simp only[oM] at this;exact this λv s' W ld z=>ih _ K J W4 k' s' _ WY W5 (Fv _ _ _ z W) ld (st.trans z) _
   have same:c i=ae->∀ f,f<ops.size->c f=ab->((L.setIfInBounds i ab).getD f ae=ab↔f<k):=by
    intro hq f Y U;rw[ew (by omega),<-F f Y U]
    grind
   cases r:free i with
   |true =>
    obtain⟨hq,W6⟩:=h.all i o ho r;exact H k hk (W6 k) (same hq)
   |false =>
    have A:=h.one i o ho r;have O:S i=S k:=by
     rcases Nat.le_total k i with Z|Z
     .refine h.chain Z λg h1 h2=>?_
      cases R:c g with
      |false=>rfl
      |true =>
       exfalso;rcases h.comp i g I (by omega) R (by omega) r with⟨_,hc⟩|⟨hc,_⟩
       .grind
       .omega
     .refine(h.chain Z λg h1 h2=>?_).symm
      cases R:c g with
      |false=>rfl
      |true =>
       exfalso;have ZS:=(F g (by omega) R).2 h2
       by_cases Ph:g=i
       .subst Ph;exact E ZS
       .rcases h.comp i g I (by omega) R (λe=>Ph e.symm) r with⟨hc,_⟩|⟨_,hc⟩
        .omega
        .exact T g hc ZS
    rw[O] at A;cases Q:c i with
    |false =>
     rw[h.quiet i Q,O] at A;exact H k hk A (same Q)
    |true =>
     refine H (i+1) (by omega) A λf Y U=>?_
     rw[ew (by omega)]
     by_cases B:f=i
     .subst B;simp
     .simp only[B,false_or];rcases h.comp i f I Y U (λe=>B e.symm) r with⟨h1,hc⟩|⟨h1,hc⟩
      .grind
      grind
end
end
def Ka(P:aq):List TypeDesc->List Field->Nat->Prop
 |[],[],_=>True
 |d::ds,f::fs,i=>f.name≠ "_"/\f.offset=i/\P.underlying f.type=aa d/\(match d with|.int _|.string|.bool=>True|_=>False)/\Ka P ds fs (i+1)
 |_,_,_=>False
def Uq(d:Nat)(xs ys:Array ak)(f:Field)(_:Option Bool×Unit):Sem (ForInStep (Option Bool×Unit)) :=
 if f.name= "_" then pure (ForInStep.yield (af,()))
 else do
  let a<-part f.type xs f.offset
  let b<-part f.type ys f.offset
  let r<-Op.equalIn d f.type a b
  if r=ae then pure (ForInStep.done (aa ae,())) else pure (ForInStep.yield (af,()))
def r7{P:aq}(w:az)(d:Nat)(xs ys:Array ak):∀ {ds:List TypeDesc}{fs:List Field}{i:Nat}{vs ws:List ak}{b:Bool},Ka P ds fs i->jN ds vs ws=aa b->(∀ j v,vs[j]?=aa v->xs[i+j]?=aa v)->(∀ j v,ws[j]?=aa v->ys[i+j]?=aa v) ->
  (Op.eqFields (d+1) xs ys fs).run P w=.ok b w/\∀ es,(forIn fs (af,()) (Uq (d+1) xs ys)).events P w es=es
 |[],[],i,[],[],b,_,h,_,_=>by cases h;simp[Op.eqFields]
 |[],[],i,_::_,_,b,_,h,_,_=>by cases h
 |[],[],i,[],_::_,b,_,h,_,_=>by cases h
 |[],_::_,i,_,_,b,B,_,_,_=>B.elim
 |_::_,[],i,_,_,b,B,_,_,_=>B.elim
 |t::ds,f::fs,i,[],_,b,_,h,_,_=>by cases h
 |t::ds,f::fs,i,_::_,[],b,_,h,_,_=>by cases h
 |t::ds,f::fs,i,v::vs,u::us,b,⟨J,K,n,N,O⟩,h,G,I=>by
  simp only[jN] at h;cases c:qF t v u with
  |none=>simp[c] at h
  |some a =>
   cases A:jN ds vs us with
   |none=>simp[c,A] at h
   |some b' =>
    simp[c,A] at h;subst h;obtain⟨L,F⟩:=r7 w d xs ys O A (λj v E=>by have:=G (j+1) v (by simpa using E);grind) (λj v E=>by have:=I (j+1) v (by simpa using E);grind)
    have m:xs[i]?=aa v:=by simpa using G 0 v rfl
    have e:ys[i]?=aa u:=by simpa using I 0 u rfl
    have p:(isAgg f.type).run P w=.ok ae w:=by
     unfold isAgg underlying;cases t <;> simp at N <;> simp[n]
    have r:∀ (l:Array ak) (z:ak),l[i]?=aa z->(part f.type l f.offset).run P w=.ok z w:=by
     intro l z C;unfold part;simp[p,K,C]
    have q:∀ (l:Array ak) (z:ak),l[i]?=aa z->∀ es,(part f.type l f.offset).events P w es=es:=by
     intro l z C es;unfold part;simp[p,K,C]
    have s:∀ es,(Op.equalIn (d+1) f.type v u).events P w es=es:=by
     intro es;unfold qF at c;split at c <;> first
      |(cases c;done)
      |(unfold Op.equalIn;simp[underlying,n];done)
      |(unfold Op.equalIn;simp[underlying,n];split <;> rfl)
    have H:(Op.equalIn (d+1) f.type v u).run P w=.ok a w:=by
     unfold qF at c;split at c
     .rename_i k k1 x Q y
      split at c
      .rename_i M;subst M;cases c;exact run_equalIn_int w d f.type k1 k x y n
      .cases c
     .cases c;exact run_equalIn_string w d f.type _ _ n
     .cases c;exact run_equalIn_bool w d f.type _ _ n
     .cases c
    refine⟨?_,λes=>?_⟩
    .rw[Op.eqFields.eq_2,bg J];simp only[bS,r xs v m,r ys u e,H,b7];cases a
     .simp
     .simp[L]
    .rw[List.forIn_cons];simp only[Uq,J,b5,aP,bS,r xs v m,r ys u e,H,b7,aU,q xs v m,q ys u e,s];cases a
     .simp
     .simpa using F es
def jO{P:aq}{t:ar}{fs:List Field}{ds:List TypeDesc}(e:P.underlying t=aa (.struct fs.toArray))(d:P.stoodInHeld t=ae)(l:P.eqGuardType P.depth t=ae)(k:Ka P ds fs 0) :
  P.eqGuardType P.depth t=ae/\∀ (w:az) (vs ws:List ak) (b:Bool),jN ds vs ws=aa b->(Op.equal t (.agg vs.toArray) (.agg ws.toArray)).run P w=.ok b w/\∀ es,(Op.equal t (.agg vs.toArray) (.agg ws.toArray)).events P w es=es:=by
 refine⟨l,λw vs ws b h=>?_⟩
 have c:P.fieldsOf t=fs.toArray:=by unfold Program.fieldsOf;rw[e]
 have key:=r7 w 9998 vs.toArray ws.toArray k h (λj v f=>by simpa using f) (λj v f=>by simpa using f)
 refine⟨?_,λes=>?_⟩
 rotate_left
 .show (Op.equalIn (9999+1) t _ _).events P w es=es;have i:=key.2 es;unfold Op.equalIn;simp[underlying,e,d];show Result.evThen ((forIn fs (af,()) (Uq 9999 vs.toArray ws.toArray)).run P w) ((forIn fs (af,()) (Uq (9998+1) vs.toArray ws.toArray)).events P w es) _=es;rw[i];cases (forIn fs (af,()) (Uq 9999 vs.toArray ws.toArray)).run P w with
  |ok a w'=>obtain⟨o,_⟩:=a;cases o <;> rfl
  |halt x w'=>rfl
 show (Op.equalIn (9999+1) t _ _).run P w=_;rw[run_equalIn_agg w 9999 t _ _ (by rw[c];exact e) d,c]
 grind
def Pp:List TypeDesc->List A->List A->Option Bool
 |[],[],[]=>aa ab
 |.int _::ds,.c (.int k a)::cs,.c (.int k' b)::es=>match GY k k' with
  |true=>match Pp ds cs es with
   |some r=>aa ((a==b)&&r)
   |none=>af
  |false=>af
 |.string::ds,.c (.str a)::cs,.c (.str b)::es=>match Pp ds cs es with
  |some r=>aa ((a==b)&&r)
  |none=>af
 |.bool::ds,.c (.bool a)::cs,.c (.bool b)::es=>match Pp ds cs es with
  |some r=>aa ((a==b)&&r)
  |none=>af
 |_,_,_=>af
def D3{σ:List aW}{s:St}:∀ {ds:List TypeDesc}{cs es:List A}{b:Bool}{vs ws:List ak},Pp ds cs es=aa b->dG σ s vs cs->dG σ s ws es->jN ds vs ws=aa b:=by
 intro ds
 induction ds with
 |nil =>
  intro cs es b vs ws h c e;cases cs <;> cases es <;> simp only[Pp,reduceCtorEq] at h
  cases vs <;> cases ws <;> first|exact c.elim|exact e.elim|(simpa[jN] using h)
 |cons d ds ih =>
  intro cs es b vs ws h c e;unfold Pp at h;split at h
  .grind
  .rename_i n i k a f k' b' es' heq
   cases heq;split at h
   .rename_i m
    cases zS m;split at h
    .rename_i r l
     cases h;cases vs with
     |nil=>exact c.elim
     |cons v vs=>cases ws with
      |nil=>exact e.elim
      |cons w ws =>
       obtain⟨v1,j⟩:=c;obtain⟨w1,w2⟩:=e;cases (show Rd s.M v (.int k a) from v1)
       cases (show Rd s.M w (.int k b') from w1)
       simp[jN,qF,ih l j w2]
    .cases h
   .cases h
  .rename_i i a f b' es' heq
   cases heq;split at h
   .rename_i r l
    cases h;cases vs with
    |nil=>exact c.elim
    |cons v vs=>cases ws with
     |nil=>exact e.elim
     |cons w ws =>
      obtain⟨v1,j⟩:=c;obtain⟨w1,w2⟩:=e;cases (show Rd s.M v (.str a) from v1) with
      |str hx _ =>
      cases (show Rd s.M w (.str b') from w1) with
      |str hy _ =>
      simp only[jN,qF,ih l j w2];subst hx hy;simp[ByteArray.toList_eq]
   .cases h
  .rename_i i a f b' es' heq
   cases heq;split at h
   .rename_i r l
    cases h;cases vs with
    |nil=>exact c.elim
    |cons v vs=>cases ws with
     |nil=>exact e.elim
     |cons w ws =>
      obtain⟨v1,j⟩:=c;obtain⟨w1,w2⟩:=e;cases (show Rd s.M v (.bool a) from v1)
      cases (show Rd s.M w (.bool b') from w1)
      simp[jN,qF,ih l j w2]
   .cases h
  .cases h
section
variable {P:aq}{T:List (Nat×TI)}{o:aw}{g:an->D}{σ:List aW}
def lP:BinOp->Bool->Option Bool
 |.eql,b=>aa b
 |.neq,b=>aa (!b)
 |_,_=>af
def tP{op:BinOp}{t:ar}{x y:ak}{w:az}{b c:Bool}(a:match x,y with|.agg _,.agg _=>True|.bool _,.bool _=>True|_,_=>False)(d:(Op.equal t x y).run P w=.ok b w)(h:lP op b=aa c) :
  (binOp op t x y).run P w=.ok (.bool c) w:=by
 cases op <;> simp only[lP,reduceCtorEq,de] at h
 .subst h;cases x <;> cases y <;> simp only at a <;> simp[binOp,d]
 .subst h;cases x <;> cases y <;> simp only at a <;> simp[binOp,d]
def pd{op:BinOp}{t:ar}{x y:ak}{w:az}{b c:Bool}(d:match x,y with|.agg _,.agg _=>True|.bool _,.bool _=>True|_,_=>False)(e:(Op.equal t x y).run P w=.ok b w)(a:∀ es,(Op.equal t x y).events P w es=es)(h:lP op b=aa c)(es:Array Event) :
  (binOp op t x y).events P w es=es:=by
 cases op <;> simp only[lP,reduceCtorEq,de] at h <;> (cases x <;> cases y <;> simp only at d <;> simp[binOp,a])
def wq(op:BinOp)(t:ar)(x y:an)(xs ys:Array ak)(w:az)(a:P.eqGuardType P.depth t=ae)(es:Array Event):(eqGuard op t x y (.agg xs) (.agg ys)).events P w es=es:=by
 cases op <;> simp[eqGuard,a]
def bF.structEq(v:db P T){op:BinOp}{t ty:ar}{x y:an}(h:o.op=.binOp op t x y ty){i:TI}(hi:bA T t=aa i)(l:i.eq≠[]){cs es:List A}{b c:Bool}(u:g x=.e (.agg cs))(z:g y=.e (.agg es))
  (n:Pp i.eq cs es=aa b) (r:lP op b=aa c):bF P o g σ (.e (.one (.c (.bool c)))) σ:=by
 refine .quiet λs ρ hh hr=>?_
 have h1:=hr x;have h2:=hr y;rw[u] at h1;rw[z] at h2;obtain⟨vs,p,j⟩:=h1;obtain⟨k,q,d⟩:=h2;obtain⟨m,heq⟩:=(v t i hi).eqs l;have a:=tP (x:=.agg vs.toArray) (y:=.agg k.toArray) av (heq s.w vs k b (D3 n j d)).1 r;have f:=pd (x:=.agg vs.toArray) (y:=.agg k.toArray) av (heq s.w vs k b (D3 n j d)).1 (heq s.w vs k b (D3 n j d)).2 r;refine⟨.bool c,?_,Rd.bool,by simp only[ay,h,p,q,aP,run_eqGuard_agg s.w op t x y _ _ m,wq op t x y _ _ s.w m,aU,bS,b7,a,f,Sem.events_pure]⟩
 simp only[ay,h,p,q,bS,run_eqGuard_agg s.w op t x y _ _ m,b7,a,cW]
def bF.Qv(r:db P T){op:BinOp}{t ty:ar}{x y:an}(h:o.op=.binOp op t x y ty){i:TI}(hi:bA T t=aa i)(q:i.desc=.bool){a b c:Bool}(p:g x=.e (.one (.c (.bool a))))(u:g y=.e (.one (.c (.bool b))))
  (n:lP op (a==b)=aa c):bF P o g σ (.e (.one (.c (.bool c)))) σ:=by
 refine .quiet λs ρ hh hr=>?_
 have h1:=hr x;have h2:=hr y;rw[p] at h1;rw[u] at h2
 replace h1:=fC h1
 replace h2:=fC h2
 generalize k:ρ x=vx at h1;generalize j:ρ y=vy at h2;cases h1;cases h2;have l:P.underlying t=aa .bool:=by rw[(r t i hi).SY,q]
 have d:=tP (P:=P) (w:=s.w) (x:=.bool a) (y:=.bool b) av (run_equal_bool s.w t a b l) n;have m:∀ es,(Op.equal t (.bool a) (.bool b)).events P s.w es=es:=λes=>by
  show (Op.equalIn (9999+1) t _ _).events P s.w es=es;unfold Op.equalIn;simp[underlying,l]
 have f:=pd (P:=P) (w:=s.w) (x:=.bool a) (y:=.bool b) av (run_equal_bool s.w t a b l) m n;refine⟨.bool c,?_,Rd.bool,by simp only[ay,h,k,j,aP,eqGuard_at_bool,Sem.events_pure,cW,aU,bS,b7,d,f]⟩
 simp only[ay,h,k,j,bS,eqGuard_at_bool,cW,b7,d]
def bF.T4{t ty:ar}{x y:an}(h:o.op=.binOp .xor t x y ty){a b:Int}(n:g x=.e (.one (.c (.int .i64 a))))(p:g y=.e (.one (.c (.int .i64 b))))(q:0<=a)(h1:0<=b) :
  bF P o g σ (.e (.one (.c (.int .i64 ((a.toNat ^^^ b.toNat:Nat):Int))))) σ:=by
 refine .quiet λs ρ hh hr=>?_
 have e1:=hr x;have e2:=hr y;rw[n] at e1;rw[p] at e2
 replace e1:=fC e1
 replace e2:=fC e2
 generalize j:ρ x=vx at e1;generalize i:ρ y=vy at e2;cases e1 with|int ha =>
 cases e2 with|int hb =>
 have m:a.toNat ^^^ b.toNat<2 ^ 63:=by
  apply Nat.xor_lt_two_pow <;> simp only[bx] at ha hb <;> omega
 have k:bx .i64 ((a.toNat ^^^ b.toNat:Nat):Int):=by simp only[bx];omega
 refine⟨.int .i64 ((a.toNat ^^^ b.toNat:Nat):Int),?_,.int k,?_⟩
 rotate_left
 .simp only[ay,h,j,i,aP,gx,jI,aU,Go.binOp,cT,fi,b5,Op.intBits,bS,b7,cW,Sem.events_pure]
 have f:((BitVec.ofInt 64 a) ^^^ (BitVec.ofInt 64 b)).toNat=a.toNat ^^^ b.toNat:=by
  rw[BitVec.toNat_xor,BitVec.toNat_ofInt,BitVec.toNat_ofInt];simp only[bx] at ha hb
  congr 1 <;> omega
 have d:(BitVec.ofInt IntKind.i64.bits a ^^^ BitVec.ofInt IntKind.i64.bits b).toNat=a.toNat ^^^ b.toNat:=f;have l:(Go.binOp .xor t (.int .i64 a) (.int .i64 b)).run P s.w=.ok (.int .i64 ((a.toNat ^^^ b.toNat:Nat):Int)) s.w:=by
  simp only[Go.binOp,cT,fi,b5,Op.intBits,cW];rw[d,mo k]
 simp only[ay,h,j,i,bS,gx,b7,l,cW]
def bF.GJ(J:db P T){p dst:ar}{x:an}(h:o.op=.convert p dst x){i i2 ie:TI}{E:ar}(hi:bA T p=aa i)(G:bA T dst=aa i2)(S:i.desc=.slice E)(I:i2.desc=.string)(Q:bA T E=aa ie)(A:ie.desc=.int .u8)
  {tt:Bool} {n:Nat} {es:Nat->List C} {r:List UInt8} (O:∀ s v,c8 σ s v (g x)->Rd s.M v (.sl tt 1 n es)) (hb:vP es 0 n=aa r):bF P o g σ (.e (.one (.c (.str r)))) σ:=by
 refine .nR λs ρ hh hr=>?_
 have h1:=O s _ (hr x);obtain⟨vs,N,b⟩:=dH (P:=P) hh h1;obtain⟨a,cap,W,t,K,R,_⟩:=h1.flat;have L:n<=9223372036854775807:=by omega
 have B:vs.length=n:=by rw[N.len];omega
 obtain⟨xs,e1,e2⟩:=yp (M:=s.M) (vs:=vs) hb B (λj hj c V=>by
  obtain⟨v,U,p2⟩:=N.rd j hj 0 c (by simpa using V)
  exact⟨v,by simpa using U,p2⟩)
 have F:=(J p i hi).run_underlying (w:=s.w);have f:=(J dst i2 G).run_underlying (w:=s.w);have k:=(J E ie Q).run_underlying (w:=s.w);rw[S] at F;rw[I] at f;rw[A] at k;have z:r.length<=9223372036854775807:=by
  grind
 have l:∃ y:ByteArray,(Conv.bytesToString (.slice a n cap)).run P s.w=.ok (.string y) s.w/\y.data.toList=r:=by
  cases a with
  |none =>
   have q:r=[]:=by
    have:vs=[]:=by
     rw[t] at b;have h2:=b.1;simp[Builtin.firstCells] at h2;simpa using h2
    grind
   exact⟨ByteArray.empty,by simp[Conv.bytesToString],by rw[q];rfl⟩
  |some ad =>
   rw[t] at b;have h2:=b.1;simp only[Builtin.firstCells,Nat.mul_one] at h2;refine⟨⟨#[]++(xs.map λx=>UInt8.ofNat x.toNat).toArray⟩,?_,by rw[e2];simp⟩
   simp only[Conv.bytesToString,bS,h2,b7,e1];rw[List.forIn_toArray,ou (P:=P) s.w (λ_ _=>rfl) xs ByteArray.empty]
   rfl
 obtain⟨y,u,H⟩:=l;refine⟨.string y,?_,Rd.str H z,?_⟩
 rotate_left
 .intro e d;simp only[ay,h,t,aP,convert,F,f,aU,b7,k,u,bS,events_underlying,Sem.events_pure] at d;cases a with
  |none=>simp[Conv.bytesToString] at d
  |some ad =>
   have m:=gN (P:=P) hh (h1.Dn (λ_ _=>rfl)) (w:=s.w) rfl
   rw[t] at b m;have h2:=b.1;simp only[Builtin.firstCells,Nat.mul_one] at h2 m;unfold Conv.bytesToString at d;simp only at d;rw[aP,h2,aU,cK.bind (P:=P) ?_ λ_=>.pure] at d
   .exact sJ (m e d)
   .rw[List.forIn_toArray];refine cK.Ju (λx s=>?_) _ _
    split
    .exact .pure
    .exact .bind .stuck λ_=>.pure
 simp only[ay,h,t,bS,convert,F,f,b7,k,u,cW]
end
def vQ(g:an->D):List an->Option (List C)
 |[]=>aa []
 |x::r=>match g x with
  |.e (.one (.c c))=>match vQ g r with
   |some q=>aa (c::q)
   |none=>af
  |_=>af
def wu{σ:List aW}{s:St}{ρ:an->ak}{g:an->D}(b:∀ y,c8 σ s (ρ y) (g y)):∀ {xs:List an}{cs:List C},vQ g xs=aa cs->xs.length=cs.length/\∀ (j:Nat)(c:C),cs[j]?=aa c->∃ v,(xs.map ρ)[j]?=aa v/\Rd s.M v c
 |[],cs,h=>by cases h;exact⟨rfl,by simp⟩
 |x::r,cs,h=>by
  simp only[vQ] at h;split at h
  .rename_i c e
   split at h
   .rename_i q f
    cases h;obtain⟨d,i⟩:=wu b f;refine⟨by simp[d],λj k a=>?_⟩
    cases j with
    |zero =>
     simp at a;subst a;have:=b x;rw[e] at this;exact⟨ρ x,by simp,fC this⟩
    |succ j=>grind
   .cases h
  .cases h
section
variable {P:aq}{T:List (Nat×TI)}{o:aw}{g:an->D}{σ:List aW}
def bF.makeFunc{fn:Fn}{a b:Array an}(h:o.op=.makeFunc fn a b){d f:List C}(m:vQ g a.toList=aa d)(hb:vQ g b.toList=aa f):bF P o g σ (.e (.one (.c (.fn fn d f)))) σ:=by
 refine .quiet λs ρ hh hr=>?_
 obtain⟨a1,a2⟩:=wu hr m;obtain⟨l,n⟩:=wu hr hb;have k:a.map ρ=(a.toList.map ρ).toArray:=by apply hO;simp
 have i:b.map ρ=(b.toList.map ρ).toArray:=by apply hO;simp
 refine⟨.func fn (a.toList.map ρ).toArray (b.toList.map ρ).toArray,?_,?_,by simp only[ay,h,Instr.makeFunc];rfl⟩
 .simp only[ay,h,Instr.makeFunc,k,i];rfl
 .refine Rd.fn _ _ (by simpa using a1) (by simpa using l) (λj=>((a.toList.map ρ)[j]?).getD aj) (λj=>((b.toList.map ρ)[j]?).getD aj) ?_ ?_ ?_ ?_
  .grind
  .grind
  .grind
  grind
def rR:TypeDesc->Bool
 |.interface _=>ab
 |_=>ae
def va(t:ar):D->Option C
 |.e (.one (.c c))=>aa (.ifs t c)
 |.e (.agg cs)=>match gC cs with
  |some q=>aa (.Ji t q)
  |none=>af
 |_=>af
def D4{s:St}{v:ak}{t:ar}{d:D}{c:C}(h:va t d=aa c)(r:c8 σ s v d):Rd s.M (.iface t v) c:=by
 unfold va at h;split at h
 .cases h;exact Rd.ifs (fC r) (fC r).cell
 .split at h
  .rename_i q k
   cases h;obtain⟨vs,rfl,l⟩:=r;have b:=kg k l;refine Rd.Ji (by have:=b.length;simpa using this) (λj=>(vs[j]?).getD aj) (λj e=>by rw[bl e];rfl) λj c e=>?_
   obtain⟨v,f,i⟩:=b.get (j:=j) (a:=.c c) (by simp[e])
   rw[f];exact i
  .cases h
 .cases h
def bF.makeInterface(f:db P T){t:ar}{x:an}(h:o.op=.makeInterface t x){i:TI}(hi:bA T t=aa i)(b:rR i.desc=ae){c:C}(j:va t (g x)=aa c):bF P o g σ (.e (.one (.c c))) σ:=by
 refine .quiet λs ρ hh hr=>?_
 have d:=(f t i hi).run_underlying (w:=s.w);refine⟨.iface t (ρ x),?_,D4 j (hr x),?_⟩
 rotate_left
 .simp only[ay,h,Instr.makeInterface,aP,bS,d,aU,b7,events_underlying];cases a:i.desc <;> rw[a] at b <;> first|(cases b;done)|simp
 simp only[ay,h,Instr.makeInterface,bS,d,b7];cases a:i.desc <;> rw[a] at b <;> first|(cases b;done)|simp
def yq(i:TI):Option E1:=match i.agg with
 |true=>aa (.agg (i.zero.map A.c))
 |false=>af
def Kb{i:TI}{t:ar}(j:bH P t i){s:St}{e:E1}(a:yq i=aa e):∃ z,(zeroValue t).run P s.w=.ok z s.w/\ma σ s z e:=by
 obtain⟨z,d,b⟩:=j.BQ σ s;refine⟨z,d,?_⟩;obtain⟨n,k,m,p,u,l,r,⟨cs,c⟩,q⟩:=j.info;have f:k=z:=by
  have:(zeroValue t).run P s.w=.ok k s.w:=by simp[zeroValue,typeInfo,m,l]
  rw[this] at d;cases d;rfl
 subst f;unfold yq at a;cases h:i.agg with
 |true =>
  rw[h] at a c;simp only[cj] at c;cases a;rw[c] at b ⊢;exact⟨cs.toList,by simp,by simpa[Value.cells] using b⟩
 |false=>rw[h] at a;cases a
def pR(t:ar)(i:TI):C->Option (E1×Bool)
 |.ifs t' c=>match aA t' t with
  |true=>aa (.one (.c c),ab)
  |false=>match yq i with
   |some e=>aa (e,ae)
   |none=>af
 |.Ji t' cs=>match aA t' t with
  |true=>aa (.agg (cs.map A.c),ab)
  |false=>match yq i with
   |some e=>aa (e,ae)
   |none=>af
 |.nU=>match yq i with
  |some e=>aa (e,ae)
  |none=>af
 |_=>af
def bF.typeAssert(I:db P T){x:an}{r t:ar}(h:o.op=.typeAssert x r t ab){i:TI}(hi:bA T t=aa i)(G:rR i.desc=ae){c:C}(J:g x=.e (.one (.c c))){e:E1}{b:Bool}(d:pR t i c=aa (e,b)) :
  bF P o g σ (.eN [e,.one (.c (.bool b))]) σ:=by
 refine .quiet λs ρ hh hr=>?_
 have h1:=hr x;rw[J] at h1
 replace h1:=fC h1
 generalize y:ρ x=vx at h1;have p:=(I t i hi).run_underlying (w:=s.w);have key:∀ (v:ak) (b:Bool),(Instr.typeAssert vx r t ab).run P s.w=.ok (.tuple #[v,.bool b]) s.w->ma σ s v e->(Instr.typeAssert vx r t ab).events P s.w #[]=#[]->∃ v,(ay ρ o).run P s.w=.ok (.value v) s.w/\c8 σ s v (.eN [e,.one (.c (.bool b))])/\(ay ρ o).events P s.w #[]=#[]:=by
  intro v b h1 h2 h3;refine⟨.tuple #[v,.bool b],?_,⟨[v,.bool b],rfl,h2,Rd.bool,av⟩,by simp only[ay,h,y,aP,h1,h3,aU,Sem.events_pure]⟩
  simp only[ay,h,y,bS,h1,b7,cW]
 have fail:∀ q,yq i=aa q->(∀ z,(zeroValue t).run P s.w=.ok z s.w->(Instr.typeAssert vx r t ab).run P s.w=.ok (.tuple #[z,.bool ae]) s.w/\(Instr.typeAssert vx r t ab).events P s.w #[]=#[])->e=q->b=ae->∃ v,(ay ρ o).run P s.w=.ok (.value v) s.w/\c8 σ s v (.eN [e,.one (.c (.bool b))])/\(ay ρ o).events P s.w #[]=#[]:=by
  intro q l F B hb;subst B hb;obtain⟨z,h3,N⟩:=Kb (σ:=σ) (I t i hi) (s:=s) l
  grind
 have k:∀ m,i.desc≠.interface m:=by intro m e;rw[e] at G;cases G
 cases h1 with
 |@ifs t' v c h2 hc =>
  simp only[pR] at d;cases hb:aA t' t with
  |true =>
   rw[hb] at d;cases d;have E:=bT hb;subst E;refine key v ab ?_ h2 ?_ <;>
   .unfold Instr.typeAssert;simp only[bS,p,b7,aP,aU,events_underlying];cases a:i.desc <;> first|(exact absurd a (k _))|simp
  |false =>
   rw[hb] at d;have n:t'≠t:=λe=>by subst e;rw[iL] at hb;cases hb
   simp only at d;split at d
   .rename_i q l
    cases d;refine fail _ l (λz h3=>⟨?_,?_⟩) rfl rfl <;>
    .unfold Instr.typeAssert;simp only[bS,p,b7,aP,aU,events_underlying];cases a:i.desc <;> first|(exact absurd a (k _))|simp[n,h3]
   .cases d
 |@Ji t' vs cs hl f L K =>
  simp only[pR] at d;cases hb:aA t' t with
  |true =>
   rw[hb] at d;cases d;have E:=bT hb;subst E;refine key (.agg vs.toArray) ab ?_ ⟨vs,rfl,?_⟩ ?_
   rotate_left 2
   .unfold Instr.typeAssert;simp only[p,aP,aU,events_underlying];cases a:i.desc <;> first|(exact absurd a (k _))|simp
   .unfold Instr.typeAssert;simp only[bS,p,b7];cases a:i.desc <;> first|(exact absurd a (k _))|simp
   .have go:∀ (vs:List ak) (cs:List C),vs.length=cs.length->(∀ (j:Nat) (c:C),cs[j]?=aa c->∃ v,vs[j]?=aa v/\Rd s.M v c)->dG σ s vs (cs.map A.c):=by
     intro vs
     induction vs with
     |nil=>intro cs hl _;cases cs with|nil=>trivial|cons _ _=>simp at hl
     |cons v vs ih =>
      intro cs hl hg;cases cs with
      |nil=>simp at hl
      |cons c cs =>
       obtain⟨u,H,p2⟩:=hg 0 c rfl;simp at H;subst H;exact⟨p2,ih cs (by simpa using hl) (λj c hj=>by simpa using hg (j+1) c (by simpa using hj))⟩
    grind
  |false =>
   rw[hb] at d;have n:t'≠t:=λe=>by subst e;rw[iL] at hb;cases hb
   simp only at d;split at d
   .rename_i q l
    cases d;refine fail _ l (λz h3=>⟨?_,?_⟩) rfl rfl <;>
    .unfold Instr.typeAssert;simp only[bS,p,b7,aP,aU,events_underlying];cases a:i.desc <;> first|(exact absurd a (k _))|simp[n,h3]
   .cases d
 |nU =>
  simp only[pR] at d;split at d
  .rename_i q l
   cases d;refine fail _ l (λz h3=>⟨?_,?_⟩) rfl rfl <;>
   .unfold Instr.typeAssert;simp only[bS,p,b7,aP,aU,events_underlying];cases a:i.desc <;> first|(exact absurd a (k _))|simp[h3]
  .cases d
 |_=>simp[pR] at d
end
def Bd(op:BinOp)(k:IntKind) (a:Int)(k':IntKind) (b:Int):Option (Int×List Prop) :=
 match k with
 |.u64=>match op with
  |.shl=>aa (((a.toNat*2 ^ b.toNat % 18446744073709551616:Nat):Int),[0<=b,b<=64])
  |.shr=>aa (((a.toNat / 2 ^ b.toNat:Nat):Int),[0<=b,b<=64])
  |.and=>match k' with|.u64=>aa (((a.toNat &&& b.toNat:Nat):Int),[])|_=>af
  |.xor=>match k' with|.u64=>aa (((a.toNat ^^^ b.toNat:Nat):Int),[])|_=>af
  |_=>af
 |_=>af
section
variable {P:aq}{T:List (Nat×TI)}{o:aw}{d:an->D}{σ:List aW}
def bits_nat{a:Int}(h:bx .u64 a):(BitVec.ofInt IntKind.u64.bits a).toNat=a.toNat:=by
 rw[BitVec.toNat_ofInt];simp only[bx] at h;simp only[IntKind.bits];omega
def GC{op:BinOp}{k k':IntKind}{a b c:Int}{obs:List Prop}(t:ar)(f:Bd op k a k' b=aa (c,obs))(m:ag obs)(h:bx k a)(i:bx k' b)(w:az) :
  bx k c/\(Go.binOp op t (.int k a) (.int k' b)).run P w=.ok (.int k c) w/\(Go.binOp op t (.int k a) (.int k' b)).events P w #[]=#[]:=by
 unfold Bd at f;split at f
 .split at f
  .cases f;obtain⟨q,l⟩:0<=b/\b<=64:=m;have s:a.toNat*2 ^ b.toNat % 18446744073709551616<18446744073709551616:=hJ _ (by decide)
   simp only[bx] at h;refine⟨by simp only[bx];omega,?_⟩
   have j:IntKind.wrap .u64 (a*2 ^ (min b.toNat IntKind.u64.bits))=((a.toNat*2 ^ b.toNat % 18446744073709551616:Nat):Int):=by
    have n:min b.toNat IntKind.u64.bits=b.toNat:=by rw[show IntKind.u64.bits=64 from rfl];omega
    have p:a=(a.toNat:Int):=by omega
    rw[n,p];simp only[IntKind.wrap,IntKind.bits,IntKind.signed,bt]
    grind
   simp only[Go.binOp,Op.shift,aY (show ¬b<0 by omega),j]
   exact⟨rfl,rfl⟩
  .cases f;obtain⟨q,l⟩:0<=b/\b<=64:=m;simp only[bx] at h;have r:a.toNat / 2 ^ b.toNat<=a.toNat:=Nat.div_le_self _ _;refine⟨by simp only[bx];grind,?_⟩
   have j:a.fdiv (2 ^ (min b.toNat IntKind.u64.bits))=((a.toNat / 2 ^ b.toNat:Nat):Int):=by
    have n:min b.toNat IntKind.u64.bits=b.toNat:=by rw[show IntKind.u64.bits=64 from rfl];omega
    grind
   simp only[Go.binOp,Op.shift,aY (show ¬b<0 by omega),j]
   exact⟨rfl,rfl⟩
  .split at f
   .cases f;have l:a.toNat &&& b.toNat<=a.toNat:=Nat.and_le_left;have g:bx .u64 ((a.toNat &&& b.toNat:Nat):Int):=by simp only[bx] at h ⊢;omega
    refine⟨g,?_⟩;have e:(BitVec.ofInt IntKind.u64.bits a &&& BitVec.ofInt IntKind.u64.bits b).toNat=a.toNat &&& b.toNat:=by rw[BitVec.toNat_and,bits_nat h,bits_nat i]
    simp only[Go.binOp,cT,fi,b5,Op.intBits,e,mo g];exact⟨rfl,rfl⟩
   .cases f
  .split at f
   .cases f;have g:bx .u64 ((a.toNat ^^^ b.toNat:Nat):Int):=by
     simp only[bx] at h i ⊢;have:a.toNat ^^^ b.toNat<2 ^ 64:=Nat.xor_lt_two_pow (by omega) (by omega)
     omega
    refine⟨g,?_⟩;have e:(BitVec.ofInt IntKind.u64.bits a ^^^ BitVec.ofInt IntKind.u64.bits b).toNat=a.toNat ^^^ b.toNat:=by rw[BitVec.toNat_xor,bits_nat h,bits_nat i]
    simp only[Go.binOp,cT,fi,b5,Op.intBits,e,mo g];exact⟨rfl,rfl⟩
   .cases f
  .cases f
 .cases f
def bF.bits{op:BinOp}{t ty:ar}{x y:an}{k k':IntKind}{a b c:Int}{obs:List Prop}(h:o.op=.binOp op t x y ty)(j:d x=.e (.one (.c (.int k a))))(n:d y=.e (.one (.c (.int k' b))))(m:Bd op k a k' b=aa (c,obs))(l:ag obs) :
  bF P o d σ (.e (.one (.c (.int k c)))) σ:=by
 refine .quiet λs ρ hh hr=>?_
 have h1:=hr x;have h2:=hr y;rw[j] at h1;rw[n] at h2
 replace h1:=fC h1
 replace h2:=fC h2
 generalize g:ρ x=vx at h1;generalize f:ρ y=vy at h2;cases h1 with|int ha =>
 cases h2 with|int hb =>
 obtain⟨q,i,p⟩:=GC (P:=P) t m l ha hb s.w;exact⟨.int k c,by simp only[ay,h,bS,g,f,gx,b7,i,cW],.int q,by simp[ay,h,g,f,gx,jI,i,p]⟩
end
section
open Go.Conc (G)
def ni(i:Nat)(ci:List C)(es:Nat->List C):Nat->List C:=λj=>if j=i then ci else es j
def oV(lo hi:Nat)(z:List C)(es:Nat->List C):Nat->List C:=λj=>if lo<=j/\j<hi then z else es j
section
variable {P:aq}{T:List (Nat×TI)}{o:aw}{B:an->D}{σ:List aW}{s:St}{l g:Nat}{E:ar}{k n:Nat}{es:Nat->List C}
def Kg(p:aJ σ s)(e:σ[l]?=aa (.buf E k n es)){k' i f:Nat}{v:ak}(t:gu σ s v (.bp l (.el g k' i f)))(z:g=n) :
  ∃ b c vs zs,s.β[l]?=aa ⟨.slice (aa ⟨b,0,af⟩) 0 c,[b]⟩/\v=.pointer (aa ⟨b,i*k'+f,af⟩)/\s.w.heap[b]?=aa (.cells (vs++zs).toArray E (0,0))/\(vs++zs).length=c*k/\n<=c/\c<=9223372036854775807/\Flat s.M k n es vs/\∀ o,s.M b o=af:=by
 obtain⟨G,⟨b,c,d,r⟩,_,j⟩:=t;obtain⟨L,h,a⟩:=(j _ _ _ _ e).2 z;rw[d] at a;rcases p.box l _ L e h with⟨_,rfl⟩|⟨F,H,vs,zs,rfl,x,y,A,q,m,u⟩
 .cases a
 .cases a;exact⟨b,c,vs,zs,h,r,x,y,A,q,m,u⟩
def Kh{g:Nat->ak}:∀ {ds:List C}{m:Nat},(∀ j c,ds[j]?=aa c->Rd s.M (g (m+j)) c)->dG σ s ((bh ds.length).map λj=>g (m+j)) (ds.map A.c)
 |[],m,_=>trivial
 |d::ds,m,h=>by
  rw[eQ,zb];refine⟨h 0 d rfl,?_⟩;have:=Kh (ds:=ds) (m:=m+1) (λj c a=>by have:=h (j+1) c (by simpa using a);rwa [show m+1+j=m+(j+1) by omega])
  simpa[Function.comp_def,mf,ln 1] using this
def bF.Xn(I:db P T){t:ar}{x y:an}(h:o.op=.indexAddr t x y){i p:TI}{E:ar}(hi:bA T t=aa i)(Q:i.desc=.slice E)(K:bA T E=aa p)
  {q m:Nat} {j:Int} {kk:IntKind} (J:B x=.e (.one (.bp l (.sl g p.size q m)))) (M:B y=.e (.one (.c (.int kk j)))) (U:0<=j) (h1:j<m):bF P o B σ (.e (.one (.bp l (.el g p.size (q+j.toNat) 0)))) σ:=by
 refine .quiet λs ρ hh hr=>?_
 have f:=hr x;rw[J] at f;have h2:=hr y;rw[M] at h2
 replace h2:=fC h2
 generalize v:ρ y=vy at h2;cases h2;have d:=f
 change gu σ s (ρ x) (.bp l _) at d
 obtain⟨lv,⟨a,a0,cap,L,N,S,O,R,z,A⟩,u,G⟩:=d;obtain⟨b,rfl,rfl⟩:=A (by omega)
 have H:=(I t i hi).run_underlying (w:=s.w);rw[Q] at H;obtain⟨r,rfl⟩:∃ r:Nat,j=r:=⟨j.toNat,by omega⟩
 have F:r<m:=by omega
 refine⟨.pointer (aa ⟨b,(q+r)*p.size,af⟩),?_,⟨lv,⟨b,L,z,by simp⟩,u,G⟩,?_⟩ <;>
 simp[ay,h,N,v,Instr.indexAt,asIntOf,H,(I E p K).run_sizeOf,c9,F,gB]
def bF.Qx(v:db P T){t:ar}{x:an}{f:Nat}(h:o.op=.fieldAddr t x f){d i q off:Nat}{j:TI}(w:B x=.e (.one (.bp l (.el g d i q))))(u:jK T t f=aa (off,j)):bF P o B σ (.e (.one (.bp l (.el g d i (q+off))))) σ:=by
 refine .quiet λs ρ hh hr=>?_
 have h1:=hr x;rw[w] at h1;have a:=h1
 change gu σ s (ρ x) (.bp l _) at a
 obtain⟨lv,⟨b,y,p,r⟩,c,m⟩:=a;exact⟨.pointer (aa ⟨b,i*d+q+off,af⟩),by simp[ay,h,r,mF v u],⟨lv,⟨b,y,p,by rw[mf]⟩,c,m⟩,by simp[ay,h,r,n9 v u]⟩
def bF.Xo{x:an}(h:o.op=.nilCheck x){f i q:Nat}(m:B x=.e (.one (.bp l (.el g f i q)))):bF P o B σ (.e (.one (.bp l (.el g f i q)))) σ:=by
 refine .quiet λs ρ hh hr=>?_
 have h1:=hr x;rw[m] at h1;have c:=h1;have a:=h1
 change gu σ s (ρ x) (.bp l _) at a
 obtain⟨lv,⟨b,t,r,d⟩,j,p⟩:=a;exact⟨ρ x,by simp[ay,h,d],c,by simp[ay,h,d]⟩
def bF.Xp(z:db P T){x:an}{b:Array ar}{t:ar}(h:o.op=.call { callee:=.builtin .len,args:=#[x],argTypes:=b })(u:b[0]?=aa t){i:TI}{E:ar}(hi:bA T t=aa i)(y:i.desc=.slice E)
  {G q m:Nat} (p:B x=.e (.one (.bp l (.sl g G q m)))):bF P o B σ (.e (.one (.c (.int .i64 m)))) σ:=by
 refine .quiet λs ρ hh hr=>?_
 have h1:=hr x;rw[p] at h1;have d:=h1
 change gu σ s (ρ x) (.bp l _) at d
 obtain⟨lv,⟨a,a0,cap,K,r,I,v,A,J,F⟩,j,H⟩:=d;have f:=(z t i hi).run_underlying (w:=s.w);rw[y] at f;refine⟨.int .i64 m,?_,Rd.int (by simp only[bx];omega),?_⟩ <;>
 simp[ay,h,resolve,invoke,builtin,Builtin.len_,r,f,goInt,u]
def bF.sliceB(K:db P T){t:ar}{x:an}{lo hi:Option an}(h:o.op=.slice t x lo hi af){i f:TI}{E:ar}(v:bA T t=aa i)(S:i.desc=.slice E)(M:bA T E=aa f){q m:Nat}{d u:Option Int}
  (L:B x=.e (.one (.bp l (.sl g f.size q m)))) (hl:uA B lo=aa d) (I:uA B hi=aa u) (H:ag (iN m d u)):bF P o B σ (.e (.one (.bp l (.sl g f.size (q+cn 0 d) (cn m u-cn 0 d))))) σ:=by
 refine .quiet λst ρ hh hr=>?_
 have h1:=hr x;rw[L] at h1;have j:=h1
 change gu σ st (ρ x) (.bp l _) at j
 obtain⟨lv,⟨a,a0,cap,N,J,p,R,A,y,z⟩,r,F⟩:=j;obtain⟨hb,Q,O⟩:=nS (P:=P) (isS:=ab) p (jd hr hl) (jd hr I) H st.w;have c:=(K t i v).run_underlying (w:=st.w);rw[S] at c;refine⟨.slice (if cap=cn 0 d then a else a.map (·.add (cn 0 d*f.size))) (cn m u-cn 0 d) (cap-cn 0 d),?_,⟨lv,⟨_,a0,_,N,rfl,by omega,by omega,A,y,λG=>?_⟩,r,F⟩,by simp[ay,h,J,Instr.sliceAt,c,Instr.slice,hb,pM (P:=P) (isS:=ab) p (jd hr hl) (jd hr I) H st.w]⟩
 .simp[ay,h,J,Instr.sliceAt,c,Instr.slice,hb,(K E f M).run_sizeOf]
 .obtain⟨b,rfl,rfl⟩:=z (by omega)
  refine⟨b,rfl,?_⟩;rw[aY (by omega)]
  simp[c9,gB]
def bF.Bx(N:db P T){t:ar}{x:an}(h:o.op=.load t x){i f:Nat}{z:TI}{e:E1}(Q:B x=.e (.one (.bp l (.el g k i f))))(F:g=n)(hl:σ[l]?=aa (.buf E k n es))(hi:bA T t=aa z)(I:m9 z ((hX f (es i)).map A.c)=aa e)(r:i<n):bF P o B σ (.e e) σ:=by
 refine .nR λs ρ hh hr=>?_
 have h1:=hr x;rw[Q] at h1;obtain⟨b,V,vs,Y,U,L,p,O,R,S,J,Z⟩:=Kg hh hl h1 F;have X:=J.width i r
 let g:Nat->ak:=λj=>vs.getD (i*k+j) aj
 have F:∀ j c,(hX f (es i))[j]?=aa c->vs[i*k+(f+j)]?=aa (g (f+j))/\Rd s.M (g (f+j)) c:=by
  intro j c hj;rw[nn,oO] at hj;obtain⟨v,v1,W⟩:=J.rd i r (f+j) c hj
  grind
 have H:=Kh (σ:=σ) (s:=s) (g:=g) (ds:=hX f (es i)) (m:=f) (λj c hj=>(F j c hj).2)
 have a:∀ (j:Nat) (v:ak),((bh (hX f (es i)).length).map λj=>g (f+j))[j]?=aa v->s.w.cell? ⟨b,i*k+f+j,af⟩=aa v:=by
  intro j v hj;simp only[nF] at hj
  by_cases d:j<(hX f (es i)).length
  .simp[d] at hj;subst hj;have h2:=(F j _ (bl d)).1;simp only[aZ,p]
   grind
  .simp[d] at hj
 obtain⟨v,q,G⟩:=pb (s:=s) (σ:=σ) (P:=P) (N t z hi) (b:=b) (off:=i*k+f) (e:=e) a H I;refine⟨v,by simp[ay,h,L,Instr.loadAt,Instr.sureAddr,q],G,λK y=>?_⟩
 have u:K∈(loadVar t ⟨b,i*k+f,af⟩).events P s.w #[]:=by
  have e:ay ρ o=(do pure (.value (<-loadVar t ⟨b,i*k+f,af⟩))):=by simp[ay,h,L,Instr.loadAt,Instr.sureAddr]
  rw[e] at y;simpa[q] using y
 obtain⟨j,hj,rfl⟩:=jl (N t z hi) (n:=(hX f (es i)).length) (λj hj=>⟨_,a j (g (f+j)) (by simp[hj])⟩) (by have:=rI I;simpa using this) K u
 exact rA (bM U) (by simp)
def Flat.put{M:Mem}{vs oA:List ak}{i f:Nat}{cc ci:List C}(h:Flat M k n es vs)(hi:i<n)(u:eR f cc (es i)=aa ci)(hl:oA.length=cc.length)(t:∀ (j:Nat)(c:C),cc[j]?=aa c->∃ v,oA[j]?=aa v/\Rd M v c) :
  i*k+f+oA.length<=vs.length/\Flat M k n (ni i ci es) (vs.take (i*k+f)++oA++vs.drop (i*k+f+oA.length)):=by
 obtain⟨h1,h2⟩:=pV u;have A:=h.width i hi;have hb:i*k+k<=n*k:=by
  have:=ei k (show i+1<=n by omega)
  rwa [gB,ri] at this
 have x:=h.len;have q:i*k+f+oA.length<=vs.length:=by omega
 have d:∀ p,(vs.take (i*k+f)++oA++vs.drop (i*k+f+oA.length))[p]?=if p<i*k+f then vs[p]? else if p<i*k+f+oA.length then oA[p-(i*k+f)]? else vs[p]?:=by
  intro p;have z:(vs.take (i*k+f)).length=i*k+f:=by simp;omega
  by_cases c1:p<i*k+f
  .grind
  .rw[aY c1]
   by_cases c2:p<i*k+f+oA.length
   .grind
   .rw[aY c2,gg (by simp;omega),oO]
    congr 1
    simp;omega
 refine⟨q,⟨by simp;omega,λb a=>?_,λb a j c hj=>?_⟩⟩
 .simp only[ni];split
  .rw[h2];simp;omega
  .exact h.width b a
 .simp only[ni] at hj;rw[d];split at hj
  .rename_i e
   subst e;rw[h2] at hj
   by_cases c1:j<f
   .rw[ij,jf (by simp;omega),gQ,bg c1] at hj
    rw[bg (by omega)]
    exact h.rd b hi j c hj
   .by_cases c2:j<f+cc.length
    .rw[ij,gg (by simp;omega),jf (by simp;omega)] at hj
     obtain⟨v,v1,w⟩:=t _ c hj;refine⟨v,?_,w⟩;rw[aY (by omega),bg (by omega),<-v1]
     congr 1
     simp;omega
    .rw[gg (by simp;omega),oO] at hj
     rw[aY (by omega),aY (by omega)]
     refine h.rd b hi j c ?_
     grind
  .rename_i e
   have r:j<k:=by have:=(cg.1 hj).1;have:=h.width b a;omega
   rcases cx b i with m|y
   .have:(b+1)*k<=i*k:=ei k m;rw[gB,ri] at this;rw[bg (by omega)]
    exact h.rd b a j c hj
   .have:(i+1)*k<=b*k:=ei k (by omega)
    rw[gB,ri] at this;rw[aY (by omega),aY (by omega)]
    exact h.rd b a j c hj
def aJ.dZ(hh:aJ σ s)(hl:σ[l]?=aa (.buf E k n es)){b:Nat}{vs zs vD:List ak}{e:Nat}(G:s.β[l]?=aa ⟨.slice (aa ⟨b,0,af⟩) 0 e,[b]⟩)(y:(vs++zs).length=e*k)(m:n<=e)(r:e<=9223372036854775807){es':Nat->List C}(f:s.w.heap[b]?=aa (.cells (vs++zs).toArray E (0,0)))(F:Flat s.M k n es' vD)(A:vD.length=vs.length)(u:∀ o,s.M b o=af) :
  aJ (σ.set l (.buf E k n es')) { s with w:=s.w.setRow b (vD++zs).toArray }/\Step σ s (σ.set l (.buf E k n es')) { s with w:=s.w.setRow b (vD++zs).toArray }:=by
 have j:(s.w.setRow b (vD++zs).toArray).heap[b]?=aa (.cells (vD++zs).toArray E (0,0)):=setRow_heap s.w b _ _ E _ f;have d:∀ a,a≠b->(s.w.setRow b (vD++zs).toArray).heap[a]?=s.w.heap[a]?:=λa c=>setRow_other s.w b a _ c
 have i:s.β.set l ⟨.slice (aa ⟨b,0,af⟩) 0 e,[b]⟩=s.β:=by
  apply iK
  grind
 obtain⟨x,t⟩:=hh.im (M':=s.M) (w':=s.w.setRow b (vD++zs).toArray) (B':=.buf E k n es') (L':=⟨.slice (aa ⟨b,0,af⟩) 0 e,[b]⟩) hl G ⟨λ_=>rfl,bc _⟩ (by simp[World.setRow])
  (λa c hn=>d a (by rintro rfl;exact hn (by simp))) (λ_ _ _ _=>rfl) (λ_ _ _ h=>h) (λa z v q=>by
   have p:a≠b:=by rintro rfl;rw[u] at q;cases q
   have:=hh.mem a z v q;rw[<-this];simp only[aZ];rw[d a p]) (λa c=>⟨.inl c,by grind⟩) rfl rfl rfl
  (.inr ⟨b,e,vD,zs,rfl,j,by grind,m,r,F,u⟩)
 rw[i] at x t;exact⟨x,t⟩
def rT{α:Type}:∀ {new l:List α},new.length=l.length->eR 0 new l=aa new
 |[],[],_=>rfl
 |[],_::_,h=>by simp at h
 |_::_,[],h=>by simp at h
 |n::ns,c::cs,h=>by simp only[eR,rT (new:=ns) (l:=cs) (by simpa using h)]
def bF.JB(W:db P T){t:ar}{x y:an}(h:o.op=.store t x y){i f:Nat}{G:TI}{new:List A}{cc ci:List C}(Y:B x=.e (.one (.bp l (.el g k i f))))(hg:g=n)(hl:σ[l]?=aa (.buf E k n es))(hi:bA T t=aa G)(Z:mU (B y)=aa new)(hn:new.length=G.size)(O:gC new=aa cc)(Q:(es i).length=k->eR f cc (es i)=aa ci)(q:i<n) :
  bF P o B σ .any (σ.set l (.buf E k n (ni i ci es))):=by
 intro s ρ hh hr;have h1:=hr x;rw[Y] at h1;obtain⟨b,c0,vs,z,X,U,a,J,K,N,R,V⟩:=Kg hh hl h1 hg;have d:=m7 Z (hr y);have p:=kg O d;have M:=dG.closed p;have u:(ρ y).cells.toList.length=cc.length:=by have:=p.length;simpa using this
 replace Q:=Q (R.width i q)
 obtain⟨q1,q2⟩:=R.put q Q u M;have m:(ρ y).cells.size=G.size:=by rw[<-hn,<-d.length,iJ]
 obtain⟨t1,t2⟩:=hh.dZ hl X J K N a q2 (by grind) V
 have H:=run_storeCells_at P b (i*k+f) E (ρ y).cells.toList 0 (vs++z).toArray s.w a (by grind) d.cell
 have I:((vs++z).toArray.toList.take (i*k+f+0)++(ρ y).cells.toList++(vs++z).toArray.toList.drop (i*k+f+0+(ρ y).cells.toList.length))=vs.take (i*k+f)++(ρ y).cells.toList++vs.drop (i*k+f+(ρ y).cells.toList.length)++z:=by
  grind
 rw[I] at H;refine⟨.skip,_,?_,rfl,t1,t2,?_⟩
 .simp[ay,h,U,Instr.storeAt,Instr.sureAddr,storeVar,(W t G hi).run_sizeOf,m,H]
 .intro S c;have e:ay ρ o=(do storeVar t ⟨b,i*k+f,af⟩ (ρ y);pure .skip):=by simp[ay,h,U,Instr.storeAt,Instr.sureAddr]
  rw[e] at c;have F:S∈(storeCells ⟨b,i*k+f,af⟩ (ρ y).cells.toList).events P s.w #[]:=by
   simp only[storeVar,aP,(W t G hi).run_sizeOf,m,aU,events_sizeOf,cT,fi,b5,bS,b7,Sem.events_pure] at c;generalize (storeCells ⟨b,i*k+f,af⟩ (ρ y).cells.toList).run P s.w=r at c;cases r with
   |ok v w'=>simpa using c
   |halt x w'=>simpa using c
  rcases eD (ρ y).cells.toList 0 (vs++z).toArray s.w #[] a (by grind) d.cell S F with L|⟨j,_,_,rfl⟩
  .simp at L
  .exact mn (bM X) (by simp) (V _)
end
section
variable {σ:List aW}
def aJ.zj{s:St}(hh:aJ σ s){b:Nat}{vs:List ak}(h:∀ o,s.M b o=af)(j:∀ o v,vs[o]?=aa v->s.w.cell? ⟨b,o,af⟩=aa v) :
  aJ (σ.map λ_=>.dead) { s with M:=λa o=>if a=b then vs[o]? else s.M a o }/\∀ a o v,s.M a o=aa v->(if a=b then vs[o]? else s.M a o)=aa v:=by
 have c:=hh.kz;refine⟨⟨λa o v f=>?_,c.len,λl B L g i=>?_,c.fT,c.lt,c.own⟩,λa o v f=>?_⟩
 .by_cases e:a=b
  .grind
  .simp only[e,b5] at f;exact c.mem a o v f
 .have:=bM g;simp at this;rw[<-this.2];trivial
 grind
def eU.vn{s:St}{M':Mem}{b:Nat}{es:Array Event}(h:eU { s with M:=M' } es){L:Loc}(k:L∈s.β)(hb:b∈L.bs)(j:∀ c o v,s.M c o=aa v->M' c o=aa v)(f:∀ c o v,M' c o=aa v->c=b∨s.M c o=aa v):eU s es:=by
 intro e g;have h1:=h e g;unfold oB at h1 ⊢;split at h1
 .obtain⟨a1,a2,a3⟩:=h1;refine⟨a1,a2,?_⟩;rcases a3 with a3|⟨a3,a4⟩|⟨a3,v,a4⟩
  .exact .inl a3
  .refine .inr (.inl ⟨a3,λi=>?_⟩)
   have:=a4 i
   rename_i a _
   cases l:s.M a.block a.off with
   |none=>rfl
   |some v=>grind
  grind
 all_goals exact h1
end
def IE(k:Nat)(f:Nat->Nat->ak):Nat->List C:=λi=>(bh k).map λj=>.val (f i j)
def pJ{k:Nat}{f:Nat->Nat->ak}{i j:Nat}{c:C}(h:(IE k f i)[j]?=aa c):j<k/\c=.val (f i j):=by
 have a:j<k:=by
  have:=(cg.1 h).1;simpa[IE] using this
 simp[IE,a] at h;exact⟨a,h.symm⟩
def Dq{k:Nat}{f:Nat->Nat->ak}{i j:Nat}(h:j<k):(IE k f i)[j]?=aa (.val (f i j)):=by simp[IE,h]
def Rd.exact{M:Mem}{v:ak}{t:Bool}{k n:Nat}{es:Nat->List C}(h:Rd M v (.sl t k n es)) :
  ∃ f:Nat->Nat->ak,Rd M v (.sl t k n (IE k f))/\(∀ i,i<n->(es i).length=k)/\∀ i,i<n->∀ j c,(es i)[j]?=aa c->Rd M (f i j) c:=by
 cases h with
 |sl b off f a hb ht hk ha hm hr =>
  have e:∀ i,i<n->∀ j,j<k->∃ c,(es i)[j]?=aa c:=λi hi j hj=>⟨_,bl (by rw[hk i hi];exact hj)⟩
  refine⟨f,.sl b off f a hb ht (λi _=>by simp[IE]) ha (λi hi j c hj=>?_) (λi hi j c hj=>?_),hk,hr⟩
  .obtain⟨h1,_⟩:=pJ hj
   grind
  .obtain⟨h1,rfl⟩:=pJ hj;obtain⟨g,h2⟩:=e i hi j h1;exact .val (hr i hi j g h2).cell
def z0{σ:List aW}{s:St}{l:Nat}{E:ar}{k n:Nat}{es:Nat->List C}{L:Loc}{a c:Option Addr}{cap:Nat}(e:σ[l]?=aa (.buf E k n es))(g:s.β[l]?=aa L)(f:L.v=.slice c 0 cap)(i:n<=cap)(j:cap<=9223372036854775807)
  (p:0<cap->∃ b,c=aa ⟨b,0,af⟩/\a=aa ⟨b,0,af⟩):gu σ s (.slice a n cap) (.bp l (.sl n k 0 n)) :=
 ⟨L.v,⟨a,c,cap,cap,rfl,i,by omega,j,f,λh=>by grind⟩,(cg.1 e).1,λm k' n' es' he=>by
  rw[e] at he;cases he;exact⟨bc _,λ_=>⟨L,g,rfl⟩⟩⟩
def rj{P:aq}{o:aw}{σ:List aW}{x y:an}{E:ar}{g:TI}(h:mj P o x y E g){l n q:Nat}{tx:Bool}{es es':Nat->List C}{s:St}{ρ:an->ak}(r:aJ σ s)
  (h1:gu σ s (ρ x) (.bp l (.sl n g.size 0 n))) (hl:σ[l]?=aa (.buf E g.size n es)) (h2:Rd s.M (ρ y) (.sl tx g.size q es')) (K:(n+q)*g.bytes<=140737488355328) :
  ∃ nx s',(ay ρ o).run P s.w=.ok nx s'.w/\QU (σ.set l (.buf E g.size (n+q) (cJ n es es'))) s' nx (.e (.one (.bp l (.sl (n+q) g.size 0 (n+q)))))/\aJ (σ.set l (.buf E g.size (n+q) (cJ n es es'))) s'/\Step σ s (σ.set l (.buf E g.size (n+q) (cJ n es es'))) s'/\eU s ((ay ρ o).events P s.w #[]):=by
 obtain⟨t,t2,i,i2,ho,hi,hd,F,z⟩:=h.op;have J:l<σ.length:=(cg.1 hl).1;obtain⟨lv,⟨a,a0,cap,u,hv,O,SP,N,GA,WC⟩,_,V0⟩:=h1;obtain⟨L,hL,X⟩:=(V0 _ _ _ _ hl).2 rfl;rw[GA] at X;have O9:u=cap:=by omega
 subst O9;have S:0<u->∃ b,a0=aa ⟨b,0,af⟩/\a=aa ⟨b,0,af⟩:=λh=>by grind
 have R:l<s.β.length:=(cg.1 hL).1;have SR:=bM hL;have W:=r.box l _ L hl hL;rw[cY ho,hv];have row:0<u->∃ b vs zs,a=aa ⟨b,0,af⟩/\L=⟨.slice (aa ⟨b,0,af⟩) 0 u,[b]⟩/\s.w.heap[b]?=aa (.cells (vs++zs).toArray E (0,0))/\(vs++zs).length=u*g.size/\Flat s.M g.size n es vs/\∀ o,s.M b o=af:=by
  intro G;obtain⟨b,e1,e2⟩:=S G;rcases W with⟨_,rfl⟩|⟨p,c1,vs,zs,rfl,h3,h4,h5,h6,h7,h8⟩
  .cases X;omega
  grind
 by_cases h0:q=0
 .subst h0;have k:=jb (P:=P) (ty:=o.type) hi hd F z h.elem r (a:=a) O h2;simp only[iM];have ha:aR n es (cJ n es es'):=λi hi=>by simp[cJ,hi]
  have V2:eJ (σ.set l (.buf E g.size n (cJ n es es'))) ⟨s.β.set l L,s.M,s.w,s.own⟩ (.buf E g.size n (cJ n es es')) L:=by
   rcases W with h3|⟨p,c1,vs,zs,h2,h3,h4,h5,h6,h7,h8⟩
   .exact .inl h3
   .exact .inr ⟨p,c1,vs,zs,h2,h3,h4,h5,h6,h7.Dn ha,h8⟩
  have DS:=r.im (M':=s.M) (w':=s.w) (B':=.buf E g.size n (cJ n es es')) (L':=L) hl hL ⟨λ_=>rfl,bc _⟩ (bc _) (λ_ _ _=>rfl) (λ_ _ _ _=>rfl) (λ_ _ _ h=>h) r.mem
   (λb K=>⟨.inl K,r.lt L SR b K⟩) rfl rfl rfl V2
  refine⟨.value (.slice a n u),_,?_,?_,DS.1,DS.2,eu (jF hi hd F z h.elem r O h2)⟩
  .simp[k]
  .exact z0 (E:=E) (by rw[eX J]) (by grind) X O N S
 .by_cases m:n+q<=u
  .obtain⟨b,vs,zs,rfl,rfl,hw,H,hF,hM⟩:=row (by omega)
   obtain⟨f,MH,k⟩:=j9 (P:=P) (ty:=o.type) hi hd F z h.elem r hw H h2 m;have SU:vs.length=n*g.size:=hF.len;have SV:f.length=q*g.size:=MH.len;have WL:n*g.size+q*g.size<=u*g.size:=by rw[<-gB];exact ei _ m
   have UC:((vs++zs).take (n*g.size)++f++(vs++zs).drop (n*g.size+f.length))=(vs++f)++zs.drop f.length:=by
    rw[<-SU];simp[uT]
   rw[UC] at k;have I4:=setRow_heap s.w b _ ((vs++f)++zs.drop f.length).toArray E _ hw;have U:∀ p,p≠b->(s.w.setRow b ((vs++f)++zs.drop f.length).toArray).heap[p]?=s.w.heap[p]?:=λp Q=>setRow_other s.w b p _ Q
   obtain⟨t1,Tm⟩:=r.im (M':=s.M) (w':=s.w.setRow b ((vs++f)++zs.drop f.length).toArray) (B':=.buf E g.size (n+q) (cJ n es es')) (L':=⟨.slice (aa ⟨b,0,af⟩) 0 u,[b]⟩) hl hL ⟨λ_=>rfl,by omega⟩ (by simp[World.setRow])
    (λp Q hn=>U p (by rintro rfl;exact hn (by simp))) (λ_ _ _ _=>rfl) (λ_ _ _ h=>h) (λp o' v Z=>by
     have Dg:p≠b:=by intro e;rw[e,hM] at Z;cases Z
     have:=r.mem p o' v Z;rw[<-this];simp only[aZ];rw[U p Dg]) (λp Q=>⟨.inl Q,by grind⟩) rfl rfl rfl
    (.inr ⟨b,u,vs++f,zs.drop f.length,rfl,I4,by grind,m,N,hF.append MH,hM⟩)
   refine⟨.value (.slice (aa ⟨b,0,af⟩) (n+q) u),_,?_,?_,t1,Tm,eu (lJ hi hd F z h.elem r hw H h2 m SR (by simp) (λo _=>hM o))⟩
   .simp[k]
   .exact z0 (E:=E) (by rw[eX J]) (by simp only;rw[eX R]) rfl m N λ_=>⟨b,rfl,rfl⟩
  .have hg:u<n+q:=by omega
   obtain⟨f2,h2x,We,n6⟩:=h2.exact;have fZ:∃ (M':Mem) (f0:Nat->Nat->ak),aJ (σ.map λ_=>.dead) { s with M:=M' }/\(∀ p o v,s.M p o=aa v->M' p o=aa v)/\Rd M' (.slice a n u) (.sl ae g.size n (IE g.size f0))/\(∀ {es},eU { s with M:=M' } es->eU s es) /\
     (∀ i,i<n->(es i).length=g.size)/\∀ i,i<n->∀ j c,(es i)[j]?=aa c->Rd s.M (f0 i j) c:=by
    by_cases G:0<u
    .obtain⟨b,vs,zs,rfl,rfl,hw,H,hF,hM⟩:=row G;obtain⟨c1,c2⟩:=r.zj (b:=b) (vs:=vs) hM (λo v ho=>by
      simp only[aZ,hw]
      grind)
     have V:∀ i,i<n->∀ j c,(es i)[j]?=aa c->vs[i*g.size+j]?=aa (vs.getD (i*g.size+j) aj)/\Rd s.M (vs.getD (i*g.size+j) aj) c:=by
      intro i hi j c B;obtain⟨v,v1,v2⟩:=hF.rd i hi j c B
      grind
     have SX:∀ i,i<n->∀ j,j<g.size->∃ c,(es i)[j]?=aa c:=λi hi j B=>⟨_,bl (by rw[hF.width i hi];exact B)⟩
     refine⟨_,λi j=>vs.getD (i*g.size+j) aj,c1,c2,.sl b 0 (λi j=>vs.getD (i*g.size+j) aj) O N (by simp) (λi _=>by simp[IE]) (λ_=>rfl) (λi hi j c B=>?_) (λi hi j c B=>?_),λhe=>?_,hF.width,λi hi j c B=>(V i hi j c B).2⟩
     .obtain⟨e1,_⟩:=pJ B
      grind
     .obtain⟨e1,rfl⟩:=pJ B;obtain⟨c',e2⟩:=SX i hi j e1;exact .val (V i hi j c' e2).2.cell
     .exact he.vn (b:=b) SR (by simp) c2 λp o v hv=>by
       grind
    .have e1:u=0:=by omega
     have e2:n=0:=by omega
     subst e1 e2;have A:=r.kz;exact⟨s.M,λ_ _=>aj,⟨A.mem,A.len,A.box,A.fT,A.lt,A.own⟩,λ_ _ _ h=>h,Rd.jG,λh=>h,λi hi=>by omega,λi hi=>by omega⟩
   obtain⟨M',f0,c1,c2,hR,TG,ZO,hr0⟩:=fZ;have W0:Rd ({ s with M:=M' }:St).M (ρ y) (.sl tx g.size q (IE g.size f2)):=h2x.mono c2;obtain⟨vD,zs,I,Y,V3,V4,hlen,k⟩:=iu (P:=P) (s:={ s with M:=M' }) (ty:=o.type) hi hd F z h.elem c1 hR W0 hg K h.bytes;have IX:=iR (P:=P) (s:={ s with M:=M' }) (ty:=o.type) hi hd F z h.elem c1 hR W0 hg K h.bytes;have hFs:Flat s.M g.size (n+q) (cJ n es es') vD:=by
    refine⟨Y.len,λi hi=>?_,λi hi j c B=>?_⟩
    .by_cases e:i<n
     .simp only[cJ,e,cj];exact ZO i e
     .simp only[cJ,e,b5];exact We _ (by omega)
    .by_cases e:i<n
     .simp only[cJ,e,cj] at B;have Tk:j<g.size:=by grind
      obtain⟨v,v1,v2⟩:=Y.rd i hi j (.val (f0 i j)) (by simp only[cJ,e,cj];exact Dq Tk)
      rw[Rd.fX v2] at v1;exact⟨_,v1,hr0 i e j c B⟩
     .simp only[cJ,e,b5] at B;have Tk:j<g.size:=by grind
      obtain⟨v,v1,v2⟩:=Y.rd i hi j (.val (f2 (i-n) j)) (by simp only[cJ,e,b5];exact Dq Tk)
      rw[Rd.fX v2] at v1
      grind
   have nM:∀ o,s.M s.w.heap.size o=af:=λo=>by
    cases hm:s.M s.w.heap.size o with
    |none=>rfl
    |some v=>have:=r.block hm;omega
   obtain⟨t1,Tm⟩:=r.im (M':=s.M) (w':=s.w.drew.alloc (.cells (vD++zs).toArray E)) (B':=.buf E g.size (n+q) (cJ n es es')) (L':=⟨.slice (aa ⟨s.w.heap.size,0,af⟩) 0 I,[s.w.heap.size]⟩) hl hL
    ⟨λe=>absurd e (by omega),by omega⟩ (by simp) (λb K _=>cE s.w.drew _ K) (λ_ _ _ _=>rfl) (λ_ _ _ h=>h) (λb o v hm=>by
     have ur:=r.block hm;rw[<-r.mem b o v hm];simp only[aZ];rw[cE s.w.drew _ ur];rfl) (λb K=>by
     simp at K;subst K;exact⟨.inr (bc _),by simp⟩) rfl rfl rfl (.inr ⟨s.w.heap.size,I,vD,zs,rfl,dt s.w.drew _,hlen,V3,V4,hFs,nM⟩)
   refine⟨.value (.slice (aa ⟨s.w.heap.size,0,af⟩) (n+q) I),_,?_,?_,t1,Tm,eu (TG IX)⟩
   .simp only at k;simp[k]
   .exact z0 (E:=E) (by rw[eX J]) (by simp only;rw[eX R]) rfl V3 V4 λ_=>⟨_,rfl,rfl⟩
def bF.Nk{P:aq}{o:aw}{d:an->D}{σ:List aW}{x y:an}{E:ar}{a:TI}(h:mj P o x y E a){l n b:Nat}{tx:Bool}{es es':Nat->List C}
  (c:d x=.e (.one (.bp l (.sl n a.size 0 n)))) (hl:σ[l]?=aa (.buf E a.size n es)) (f:∀ s v,c8 σ s v (d y)->Rd s.M v (.sl tx a.size b es')) (hb:(n+b)*a.bytes<=140737488355328) :
  bF P o d σ (.e (.one (.bp l (.sl (n+b) a.size 0 (n+b))))) (σ.set l (.buf E a.size (n+b) (cJ n es es'))) :=
 λs ρ hh hr=>rj h hh (by have:=hr x;rw[c] at this;exact this) hl (f s _ (hr y)) hb
section
variable {P:aq}{T:List (Nat×TI)}{o:aw}{d:an->D}{σ:List aW}
def bF.Xq(m:db P T){x:an}{b:Array ar}{t:ar}(h:o.op=.call { callee:=.builtin .len,args:=#[x],argTypes:=b })(k:b[0]?=aa t){i:TI}{E:ar}(hi:bA T t=aa i)(l:i.desc=.slice E)
  {a:Option Addr} {n cap:Nat} (g:d x=.e (.one (.c (.val (.slice a n cap))))) (hn:n<=9223372036854775807):bF P o d σ (.e (.one (.c (.int .i64 n)))) σ:=by
 refine .quiet λs ρ hh hr=>?_
 have h1:=hr x;rw[g] at h1;have j:=Rd.fX (fC h1);have f:=(m t i hi).run_underlying (w:=s.w);rw[l] at f;refine⟨.int .i64 n,?_,Rd.int (by simp only[bx];omega),?_⟩ <;>
 simp[ay,h,resolve,invoke,builtin,Builtin.len_,j,f,goInt,k]
def bF.Bw(p:db P T){t:ar}{x y:an}(h:o.op=.indexAddr t x y){i g:TI}{E:ar}(hi:bA T t=aa i)(u:i.desc=.slice E)(v:bA T E=aa g)
  {b off n cap:Nat} {j:Int} {kk:IntKind} (q:d x=.e (.one (.c (.val (.slice (aa ⟨b,off,af⟩) n cap))))) (z:d y=.e (.one (.c (.int kk j)))) (A:0<=j) (h1:j<n):bF P o d σ (.e (.one (.c (.val (.pointer (aa ⟨b,off+j.toNat*g.size,af⟩)))))) σ:=by
 refine .quiet λs ρ hh hr=>?_
 have a:=hr x;rw[q] at a;have r:=Rd.fX (fC a);have h2:=hr y;rw[z] at h2
 replace h2:=fC h2
 generalize k:ρ y=vy at h2;cases h2;have m:=(p t i hi).run_underlying (w:=s.w);rw[u] at m;obtain⟨f,rfl⟩:∃ f:Nat,j=f:=⟨j.toNat,by omega⟩
 have l:f<n:=by omega
 refine⟨.pointer (aa ⟨b,off+f*g.size,af⟩),?_,Rd.val rfl,?_⟩ <;>
 simp[ay,h,r,k,Instr.indexAt,asIntOf,m,(p E g v).run_sizeOf,c9,l]
def bF.Qy(a:db P T){t:ar}{x:an}{f:Nat}(h:o.op=.fieldAddr t x f){b off k:Nat}{j:TI}(l:d x=.e (.one (.c (.val (.pointer (aa ⟨b,off,af⟩))))))(i:jK T t f=aa (k,j)):bF P o d σ (.e (.one (.c (.val (.pointer (aa ⟨b,off+k,af⟩)))))) σ:=by
 refine .quiet λs ρ hh hr=>?_
 have h1:=hr x;rw[l] at h1;have g:=Rd.fX (fC h1);exact⟨.pointer (aa ⟨b,off+k,af⟩),by simp[ay,h,g,mF a i],Rd.val rfl,by simp[ay,h,g,n9 a i]⟩
def bF.slice3(L:db P T){t:ar}{x y z:an}(h:o.op=.slice t x af (aa y) (aa z)){i K:TI}{E:ar}(F:bA T t=aa i)(X:i.desc=.slice E)(O:bA T E=aa K){tt:Bool}{k n:Nat}{es:Nat->List C}{u r:IntKind}{j m:Int}
  (N:∀ s v,c8 σ s v (d x)->Rd s.M v (.sl tt k n es)) (U:d y=.e (.one (.c (.int u j)))) (W:d z=.e (.one (.c (.int r m)))) (G:0<=j) (h1:j<=m) (h2:m<=n):bF P o d σ (.e (.one (.c (.sl ae k j.toNat es)))) σ:=by
 refine .quiet λst ρ hh hr=>?_
 have q:=N st _ (hr x);have l:=hr y;rw[U] at l
 replace l:=fC l
 generalize A:ρ y=vy at l;cases l;have g:=hr z;rw[W] at g
 replace g:=fC g
 generalize B:ρ z=vz at g;cases g;obtain⟨a,cap,vs,H,J,R,Z,hF,Y⟩:=q.flat;rw[H] at q;have p:=(L t i F).run_underlying (w:=st.w);rw[X] at p;have em:((m.toNat:Nat):Int)=m:=uQ (by omega)
 have hb:(Instr.sliceBounds ab n cap af (aa (.int u j)) (aa (.int r m))).run P st.w=.ok (0,j.toNat,m.toNat) st.w:=by
  simp[Instr.sliceBounds,run_sliceBound (P:=P) st.w r m cap _ (by omega) (by omega),run_sliceBound (P:=P) st.w u j m.toNat _ G (by omega)]
 have Q:(Instr.sliceBounds ab n cap af (aa (.int u j)) (aa (.int r m))).events P st.w #[]=#[]:=by
  simp[Instr.sliceBounds,run_sliceBound (P:=P) st.w r m cap _ (by omega) (by omega),run_sliceBound (P:=P) st.w u j m.toNat _ G (by omega),eF (P:=P) st.w r m cap _ (by omega) (by omega),eF (P:=P) st.w u j m.toNat _ G (by omega)]
 refine⟨.slice a j.toNat m.toNat,?_,?_,by simp[ay,h,H,A,B,Instr.sliceAt,p,Instr.slice,hb,Q]⟩
 .simp[ay,h,H,A,B,Instr.sliceAt,p,Instr.slice,hb,(L E K O).run_sizeOf];intro _;rcases a with _|⟨b,off,sp⟩ <;> simp[Addr.add]
 .cases q with
  |sl b off f _ _ _ S V hm' QG =>
   exact Rd.sl b off f (by omega) (by omega) (by simp) (λi hi=>S i (by omega)) (λI=>V (by omega)) (λi hi j c hj=>hm' i (by omega) j c hj) (λi hi j c hj=>QG i (by omega) j c hj)
end
def Flat.Ti{M:Mem}{k n q m:Nat}{es P4:Nat->List C}{vs oA:List ak}(h:Flat M k n es vs)(b:Flat M k m P4 oA)(g:q+m<=n) :
  Flat M k n (λi=>if q<=i/\i<q+m then P4 (i-q) else es i) (vs.take (q*k)++oA++vs.drop (q*k+oA.length)):=by
 have hl:=h.len;have r:=b.len;have hb:q*k+m*k<=n*k:=by rw[<-gB];exact ei k g
 have s:(vs.take (q*k)).length=q*k:=by simp;omega
 have a:∀ p,(vs.take (q*k)++oA++vs.drop (q*k+oA.length))[p]?=if p<q*k then vs[p]? else if p<q*k+m*k then oA[p-q*k]? else vs[p]?:=by
  intro p
  by_cases c1:p<q*k
  .grind
  .rw[aY c1]
   by_cases c2:p<q*k+m*k
   .grind
   .rw[aY c2,gg (by simp;omega),oO]
    congr 1
    simp;omega
 refine⟨by simp;omega,λi hi=>?_,λi hi j c hj=>?_⟩
 .by_cases e:q<=i/\i<q+m
  .rw[bg e];exact b.width _ (by omega)
  .rw[aY e];exact h.width i hi
 .rw[a]
  by_cases e:q<=i/\i<q+m
  .rw[bg e] at hj;have f:j<k:=by have:=(cg.1 hj).1;rw[b.width _ (by omega)] at this;exact this
   have e1:q*k<=i*k:=ei k e.1;have e2:i*k+k<=q*k+m*k:=by rw[<-gB,<-j6];exact ei k e.2
   rw[aY (by omega),bg (by omega)]
   obtain⟨v,v1,l⟩:=b.rd (i-q) (by omega) j c hj
   refine⟨v,?_,l⟩;rw[<-v1,Nat.sub_mul]
   congr 1
   omega
  .rw[aY e] at hj;have f:j<k:=by have:=(cg.1 hj).1;rw[h.width i hi] at this;exact this
   have:i*k+j<q*k∨q*k+m*k<=i*k+j:=by
    by_cases c1:i<q
    .left
     have:i*k+k<=q*k:=by rw[<-j6];exact ei k c1
     omega
    .right
     have:(q+m)*k<=i*k:=ei k (by omega)
     grind
   rcases this with c1|c1
   .rw[bg c1];exact h.rd i hi j _ hj
   .rw[aY (by omega),aY (by omega)];exact h.rd i hi j _ hj
def uX{s:St}{E k k':Nat}{es VZ:Nat->List C}{v:ak}{σ':List aW}{β:List Loc}{l:Nat}(i:Rd s.M v (.sl ab k' 0 VZ))(e:σ'[l]?=aa (.buf E k 0 es))(c:β[l]?=aa ⟨.slice af 0 0,[]⟩):gu σ' { s with β:=β } v (.bp l (.sl 0 k 0 0)):=by
 obtain⟨a,cap,vs,g,_,_,b,_,_⟩:=i.flat;have:=b rfl;subst this;refine⟨.slice af 0 0,⟨a,af,0,0,g,by omega,rfl,by omega,rfl,λh=>absurd h (by omega)⟩,(cg.1 e).1,λn m j f h=>?_⟩
 rw[e] at h;cases h;exact⟨bc _,λ_=>⟨_,c,rfl⟩⟩
def eU.Tj{s:St}{β:List Loc}{v:ak}{es:Array Event}(h:eU { s with β:=β++[⟨v,[]⟩] } es)(c:s.β=β):eU s es:=by
 intro e a;have h1:=h e a;have key:∀ b,(∃ L∈β++[(⟨v,[]⟩:Loc)],b∈L.bs)->∃ L∈s.β,b∈L.bs:=λb ⟨L,f,hb⟩=>by
  grind
 unfold oB at h1 ⊢
 grind
def bF.Gy{P:aq}{o:aw}{d:an->D}{σ:List aW}{x y:an}{E:ar}{a:TI}(h:mj P o x y E a){k m:Nat}{tx:Bool}{es es':Nat->List C}
  (n:d x=.e (.one (.c (.sl ab k 0 es)))) (q:∀ s v,c8 σ s v (d y)->Rd s.M v (.sl tx a.size m es')) (hb:(0+m)*a.bytes<=140737488355328) :
  bF P o d σ (.e (.one (.bp σ.length (.sl (0+m) a.size 0 (0+m))))) (σ++[.buf E a.size (0+m) (cJ 0 es es')]):=by
 intro s ρ hh hr;have h1:=hr x;rw[n] at h1;have h2:=q s _ (hr y);obtain⟨p,g2⟩:=hh.gT (B:=.buf E a.size 0 es) (L:=⟨.slice af 0 0,[]⟩) (.refl _ _) rfl hh (.inl ⟨rfl,rfl⟩) (by simp)
 have f:gu (σ++[.buf E a.size 0 es]) { s with β:=s.β++[⟨.slice af 0 0,[]⟩] } (ρ x) (.bp σ.length (.sl 0 a.size 0 0)):=uX (E:=E) (es:=es) (fC h1) (by simp) (by simp[<-hh.len])
 obtain⟨u,s',t,g,j,i,r⟩:=rj (P:=P) (σ:=σ++[.buf E a.size 0 es]) (s:={ s with β:=s.β++[⟨.slice af 0 0,[]⟩] }) (l:=σ.length) (es:=es) h p f (by simp) h2 hb
 have b:(σ++[aW.buf E a.size 0 es]).set σ.length (.buf E a.size (0+m) (cJ 0 es es'))=σ++[.buf E a.size (0+m) (cJ 0 es es')]:=by simp
 rw[b] at g j i;exact⟨u,s',t,g,j,g2.trans i,r.Tj rfl⟩
def Gz(i j m:Nat)(es:Nat->List C):Nat->List C:=λq=>if i<=q/\q<i+m then es (j+(q-i)) else es q
def bF.IW{P:aq}{o:aw}{d:an->D}{σ:List aW}{x y:an}{E:ar}{f:TI}(h:mj P o x y E f){l n i j m:Nat}{es:Nat->List C}
  (hx:d x=.e (.one (.bp l (.sl n f.size 0 i)))) (hy:d y=.e (.one (.bp l (.sl n f.size j m)))) (hl:σ[l]?=aa (.buf E f.size n es)) (ZB:i+m<=n) (hjm:j+m<=n) :
  bF P o d σ (.e (.one (.bp l (.sl n f.size 0 (i+m))))) (σ.set l (.buf E f.size n (Gz i j m es))):=by
 intro s ρ hh hr;obtain⟨t,t2,ti,ti2,ho,hi,hd,Dp,V⟩:=h.op;have h1:=hr x;rw[hx] at h1
 change gu σ s (ρ x) (.bp l _) at h1
 have h2:=hr y;rw[hy] at h2
 change gu σ s (ρ y) (.bp l _) at h2
 obtain⟨lv,⟨a,a0,cap,J,hv,R,SP,WB,GA,WC⟩,_,V0⟩:=h1;obtain⟨L,hL,S⟩:=(V0 _ _ _ _ hl).2 rfl;rw[GA] at S;obtain⟨lv',⟨a',a0',k,c0',SQ,WE,aaV,aaW,WG,aaX⟩,_,WH⟩:=h2;obtain⟨L',ga,N⟩:=(WH _ _ _ _ hl).2 rfl;rw[hL] at ga;cases ga;rw[WG,S] at N;cases N;have SR:=bM hL;have hu:=hi.run_underlying (w:=s.w);have W:=Dp.run_underlying (w:=s.w);rw[hd] at hu;rw[V] at W;rw[cY ho,hv,SQ]
 by_cases V1:n=0
 .have e1:i=0:=by omega
  have e2:m=0:=by omega
  subst V1 e1 e2;have P5:σ.set l (.buf E f.size 0 (Gz 0 j 0 es))=σ:=by
   have:Gz 0 j 0 es=es:=by funext q;simp only[Gz];rw[aY (by omega)]
   rw[this]
   apply iK
   grind
  have hz:Rd s.M (.slice a' 0 k) (.sl ae f.size 0 λ_=>[]):=.sl 0 0 (λ_ _=>aj) (by omega) (by omega) (by simp) (λi hi=>by omega) (λh=>by omega) (λi hi=>by omega) (λi hi=>by omega)
  have B:=jb (P:=P) (ty:=o.type) hi hd Dp V h.elem hh (a:=a) R hz;rw[P5];refine⟨.value (.slice a 0 cap),s,?_,?_,hh,.refl _ _,eu (jF hi hd Dp V h.elem hh R hz)⟩
  .simp[B]
  .exact⟨lv,⟨a,a0,cap,J,rfl,R,SP,WB,GA,WC⟩,(cg.1 hl).1,V0⟩
 rcases hh.box l _ L hl hL with⟨e,_⟩|⟨b,c1,vs,Y,rfl,r,hz1,hz2,hz3,hF,hM⟩
 .exact absurd e V1
 cases S;have U:0<cap:=by omega
 obtain⟨b1,e1,rfl⟩:=WC U;cases e1;have O9:J=cap:=by omega
 subst O9;rw[show b=b from rfl]
 have SU:vs.length=n*f.size:=hF.len;have u:i+m<=J:=by omega
 have hik:i*f.size+m*f.size<=n*f.size:=by rw[<-gB];exact ei _ ZB
 have Tk:j*f.size+m*f.size<=n*f.size:=by rw[<-gB];exact ei _ hjm
 obtain⟨c1,c2⟩:=hh.zj (b:=b) (vs:=vs) hM (λq v Q=>by
  simp only[aZ,r]
  grind)
 let g:=(vs.drop (j*f.size)).take (m*f.size)
 have SV:g.length=m*f.size:=by grind
 have hng:∀ p,p<m*f.size->g[p]?=vs[j*f.size+p]?:=λp H=>by grind
 have MH:Flat s.M f.size m (λq=>es (j+q)) g:=by
  refine⟨SV,λq Q=>hF.width _ (by omega),λq Q p c H=>?_⟩
  have hpk:p<f.size:=by have:=(cg.1 H).1;rw[hF.width _ (by omega)] at this;exact this
  obtain⟨v,v1,v2⟩:=hF.rd (j+q) (by omega) p c H
  refine⟨v,?_,v2⟩;have hq2:q*f.size+f.size<=m*f.size:=by rw[<-j6];exact ei _ Q
  grind
 have z:∀ v∈g,v.oneCell'=ab:=MH.cell;have ZC:Rd (λA q=>if A=b then vs[q]? else s.M A q) (.slice a' m k) (.sl ae f.size m (IE f.size λq p=>vs.getD ((j+q)*f.size+p) aj)):=by
  refine .sl b (j*f.size) (λq p=>vs.getD ((j+q)*f.size+p) aj) WE (by omega) (by simp) (λq _=>by simp[IE]) (λH=>?_) (λq Q p c H=>?_) (λq Q p c H=>?_)
  .grind
  .obtain⟨p1,_⟩:=pJ H;have hq2:q*f.size+f.size<=m*f.size:=by rw[<-j6];exact ei _ Q
   grind
  .obtain⟨p1,rfl⟩:=pJ H;obtain⟨c',WJ⟩:∃ c',(es (j+q))[p]?=aa c':=⟨_,bl (by rw[hF.width _ (by omega)];exact p1)⟩
   obtain⟨v,v1,v2⟩:=hF.rd (j+q) (by omega) p c' WJ
   have e:vs.getD ((j+q)*f.size+p) aj=v:=by simp[ai,v1]
   rw[e];exact .val v2.cell
 obtain⟨G,Tl,hf,O⟩:=dH (P:=P) (s:={ s with M:=λA q=>if A=b then vs[q]? else s.M A q }) c1 ZC
 have hnn:G=g:=by
  apply iK
  intro p;have A8:G.length=m*f.size:=Tl.len
  by_cases H:p<m*f.size
  .have hk:0<f.size:=by
    grind
   have Q:p / f.size<m:=pz (by rw[jD];exact H)
   have Pa:p / f.size*f.size+p % f.size=p:=pA p f.size;obtain⟨v,v1,v2⟩:=Tl.rd _ Q (p % f.size) _ (Dq (hJ _ hk));rw[Pa] at v1;rw[v1,hng p H,Rd.fX v2];rw[gB,mf,Pa,ai,bl (by omega)]
   rfl
  grind
 subst hnn;have IX:=gN (P:=P) (s:={ s with M:=λA q=>if A=b then vs[q]? else s.M A q }) c1 ZC (w:=s.w) rfl
 replace hf:(Builtin.firstCells f.size m (.slice a' m k)).run P s.w=.ok g.toArray s.w:=hf
 have K:i*f.size+g.length<=(vs++Y).length:=by rw[SV,bG];omega
 have I:=run_storeCells_at P b (i*f.size) E g 0 (vs++Y).toArray s.w r (by simpa using K) z
 simp only[iM] at I;have P6:((vs++Y).toArray.toList.take (i*f.size)++g++(vs++Y).toArray.toList.drop (i*f.size+g.length))=vs.take (i*f.size)++g++vs.drop (i*f.size+g.length)++Y:=by
  grind
 rw[P6] at I;have q2:=hF.Ti MH ZB;have he:(λq=>if i<=q/\q<i+m then (λq=>es (j+q)) (q-i) else es q)=Gz i j m es:=rfl
 rw[he] at q2;obtain⟨t1,Tm⟩:=hh.dZ hl hL hz1 hz2 hz3 r q2 (by grind) hM
 have F:(Builtin.lenOf (.slice a' m k)).run P s.w=.ok m s.w:=by rw[O];rfl
 have Z:(Builtin.lenOf (.slice a' m k)).events P s.w #[]=#[]:=by rw[O];rfl
 refine⟨.value (.slice (aa ⟨b,0*f.size,af⟩) (i+m) J),_,?_,?_,t1,Tm,eu ?_⟩
 .have B:(Builtin.append_ #[t,t2] o.type #[.slice (aa ⟨b,0*f.size,af⟩) i J,.slice a' m k]).run P s.w=.ok (.slice (aa ⟨b,0*f.size,af⟩) (i+m) J) (s.w.setRow b (vs.take (i*f.size)++g++vs.drop (i*f.size+g.length)++Y).toArray):=by
   unfold Builtin.append_;simp only[iH,kV,mN,bS,hu,W,b7,h.elem.run_sizeOf,cW,jB,b5,F,u,cj,j5,hf,c9,Nat.zero_mul,br,I]
  simp only[bS,B,b7,cW]
 .exact⟨.slice (aa ⟨b,0,af⟩) 0 J,⟨_,_,J,J,rfl,u,by omega,WB,rfl,λ_=>⟨b,rfl,rfl⟩⟩,by grind,λE2 k2 n2 P4 Tn=>by
   rw[eX (cg.1 hl).1] at Tn;cases Tn;exact⟨bc _,λ_=>⟨_,hL,rfl⟩⟩⟩
 .intro e X;unfold Builtin.append_ at X;simp only[iH,kV,mN,aP,bS,hu,W,aU,h.elem.run_sizeOf,cW,jB,b5,F,Z,u,cj,j5,hf,c9,Nat.zero_mul,br,I,
   pH,Sem.events_ite,events_underlying,events_sizeOf,Sem.events_pure] at X
  rcases eD g 0 (vs++Y).toArray s.w _ r (by simpa using K) z e X with h3|⟨p,_,_,rfl⟩
  .have h4:eU { s with M:=λA q=>if A=b then vs[q]? else s.M A q } #[e]:=eU.one (sJ (IX e h3))
   exact h4.vn (b:=b) SR (by simp) c2 (λA q v hv=>by
    grind) e (by simp)
  .exact mn SR (by simp) (hM _)
section
variable {P:aq}{T:List (Nat×TI)}{o:aw}{d:an->D}{σ:List aW}
def bF.slice3B(K:db P T){t:ar}{x w y z:an}(h:o.op=.slice t x (aa w) (aa y) (aa z)){I H:TI}{E:ar}(G:bA T t=aa I)(V:I.desc=.slice E)(M:bA T E=aa H){l g k q n:Nat}{A v u:IntKind}{i j m:Int}
  (L:d x=.e (.one (.bp l (.sl g k q n)))) (W:d w=.e (.one (.c (.int A i)))) (Q:d y=.e (.one (.c (.int v j)))) (S:d z=.e (.one (.c (.int u m)))) (Z:0<=i) (h1:i<=j) (h2:j<=m) (h3:m<=n):bF P o d σ (.e (.one .any)) σ:=by
 refine .quiet λst ρ hh hr=>?_
 have s:=hr x;rw[L] at s
 change gu σ st (ρ x) (.bp l _) at s
 obtain⟨lv,⟨a,a0,cap,c0,J,Y,U,X,O,R⟩,_,_⟩:=s;have r:=hr w;rw[W] at r
 replace r:=fC r
 generalize F:ρ w=vw at r;cases r;have f:=hr y;rw[Q] at f
 replace f:=fC f
 generalize B:ρ y=vy at f;cases f;have b:=hr z;rw[S] at b
 replace b:=fC b
 generalize C:ρ z=vz at b;cases b;have p:=(K t I G).run_underlying (w:=st.w);rw[V] at p;have hb:(Instr.sliceBounds ab n cap (aa (.int A i)) (aa (.int v j)) (aa (.int u m))).run P st.w=.ok (i.toNat,j.toNat,m.toNat) st.w:=by
  simp[Instr.sliceBounds,run_sliceBound (P:=P) st.w u m cap _ (by omega) (by omega),run_sliceBound (P:=P) st.w v j m.toNat _ (by omega) (by omega),run_sliceBound (P:=P) st.w A i j.toNat _ (by omega) (by omega)]
 have N:(Instr.sliceBounds ab n cap (aa (.int A i)) (aa (.int v j)) (aa (.int u m))).events P st.w #[]=#[]:=by
  simp[Instr.sliceBounds,run_sliceBound (P:=P) st.w u m cap _ (by omega) (by omega),run_sliceBound (P:=P) st.w v j m.toNat _ (by omega) (by omega),run_sliceBound (P:=P) st.w A i j.toNat _ (by omega) (by omega),
   eF (P:=P) st.w u m cap _ (by omega) (by omega),eF (P:=P) st.w v j m.toNat _ (by omega) (by omega),eF (P:=P) st.w A i j.toNat _ (by omega) (by omega)]
 refine⟨.slice (if m.toNat=i.toNat then a else a.map (·.add (i.toNat*H.size))) (j.toNat-i.toNat) (m.toNat-i.toNat),?_,rfl,by simp[ay,h,J,F,B,C,Instr.sliceAt,p,Instr.slice,hb,N]⟩
 simp[ay,h,J,F,B,C,Instr.sliceAt,p,Instr.slice,hb,(K E H M).run_sizeOf]
end
end
end Go.AM
