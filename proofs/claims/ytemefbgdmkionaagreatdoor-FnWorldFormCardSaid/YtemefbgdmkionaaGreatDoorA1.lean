/-
  Part 1: a machine of values without memory, sound over the model, and contracts of functions. No condition.
-/
import Derived.Tactics2
import Derived.Conc.Own
import Derived.Conc.Events
import Derived.Conc.Listed
import Derived.Laws.CopyRow
import Derived.Laws.AppendOwn
import Derived.Laws.Rows
import Derived.Laws.Strings
import Derived.Laws.Cells
import Derived.Lib.Strings
import Derived.Laws.Slices
import Derived.Orders
import Derived.Laws.StructEq
set_option linter.unusedVariables false
set_option linter.unusedSimpArgs false
set_option linter.defProp false
set_option linter.deprecated false
open Go renaming Value → ak
open Option renaming some → aa
open Go renaming Program → an
open Go renaming TypeId → ar
open Bool renaming true → ab
open Option renaming none → af
open Go renaming Oper → av
open Go renaming Operand → aq
open Bool renaming false → ae
open Go renaming undef → aj
open Go.World renaming cell? → aY
open List renaming length_take → bn
open Go.Sem renaming events_bind → aP
open Go.Result renaming evThen_ok → aV
open Go renaming execOp → aw
open Go renaming World → az
open Go renaming Goroutine → au
open Go renaming stepG → aK
open Go renaming Frame → aQ
open List renaming range → bc
open Go.Region renaming wanted → bk
open Go renaming FuncId → aX
open Nat renaming beq → aA
open Nat renaming ble → bw
open Go.Region renaming ready → aZ
open Go.Op renaming bytesLess → bj
namespace Go
set_option linter.defProp false
set_option linter.deprecated false
def aR:=@_root_.List.getElem?_eq_getElem
def bt:=@_root_.List.getElem?_eq_some_iff
def ay:=@_root_.trivial
def bh:=@_root_.decide_eq_true_eq
def aF:=@_root_.and_true
def bz:=@_root_.List.mem_of_getElem?
def aG:=@_root_.true_and
def bu:=@_root_.Int.toNat_natCast
def bY:=@_root_.decide_eq_false_iff_not
def bF:=@_root_.List.length_append
def bE:=@_root_.Nat.eq_of_beq_eq_true
def b7:=@_root_.List.getElem?_append_left
def ba:=@_root_.Nat.le_refl
def bG:=@_root_.Bool.and_eq_true
def bm:=@_root_.Nat.zero_add
def cf:=@_root_.List.getElem?_set_self
def cT:=@_root_.Array.getD_eq_getD_getElem?
def dg:=@_root_.List.getElem?_append_right
def cg:=@_root_.Go.Result.andThen_ok
def dm:=@_root_.Array.getElem?_eq_getElem
def aO:=@_root_.if_neg
def cz:=@_root_.Nat.lt_of_lt_of_le
def cQ:=@_root_.List.getElem?_set_ne
def cq:=@_root_.List.take_length
def b9:=@_root_.decide_eq_true
def aU:=@_root_.if_pos
def dn:=@_root_.Nat.le_of_ble_eq_true
def bZ:=@_root_.Go.Sem.run_bind
def dw:=@_root_.List.length_singleton
def cV:=@_root_.Option.some.injEq
def cJ:=@_root_.decide_eq_false
def dx:=@_root_.beq_eq_false_iff_ne
def db:=@_root_.List.length_cons
def cr:=@_root_.Nat.lt_or_ge
def gh:=@_root_.List.eq_nil_of_length_eq_zero
def dq:=@_root_.List.append_assoc
def dN:=@_root_.List.getElem_of_mem
def bH:=@_root_.if_false
def dy:=@_root_.List.getElem_mem
def er:=@_root_.Nat.mul_le_mul_right
def eU:=@_root_.List.getElem?_eq_none
def dr:=@_root_.List.mem_append
def fU:=@_root_.Nat.lt_succ_iff_lt_or_eq
def dG:=@_root_.Option.getD_some
def et:=@_root_.List.getElem?_take
def gE:=@_root_.Array.getElem?_eq_some_iff
def bO:=@_root_.if_true
def c7:=@_root_.Go.Sem.run_pure
def dH:=@_root_.Bool.true_and
def eu:=@_root_.List.length_nil
def fV:=@_root_.List.mem_singleton
def mO:=@_root_.Array.getElem?_setIfInBounds_self_of_lt
def fH:=@_root_.not_true_eq_false
def fp:=@_root_.beq_self_eq_true
def gi:=@_root_.Bool.false_eq_true
def kX:=@_root_.Array.getElem?_setIfInBounds_ne
def gY:=@_root_.List.mem_of_mem_take
def ew:=@_root_.List.mem_cons
def gZ:=@_root_.Array.length_toList
def iR:=@_root_.List.getElem?_toArray
def eG:=@_root_.Nat.le_trans
def kY:=@_root_.List.pairwise_iff_getElem
def gF:=@_root_.List.length_drop
def ey:=@_root_.Nat.add_mul
def dc:=@_root_.congrArg
def kZ:=@_root_.List.getElem?_cons_zero
def j8:=@_root_.List.take_append_drop
def iS:=@_root_.Bool.not_eq_true'
def g7:=@_root_.List.foldl_cons
def hJ:=@_root_.List.append_nil
def j9:=@_root_.List.mem_cons_of_mem
def lK:=@_root_.List.getElem?_cons_succ
def jk:=@_root_.List.ext_getElem?
def jF:=@_root_.Nat.eq_zero_or_pos
def iw:=@_root_.List.length_map
def mP:=@_root_.Array.getElem?_replicate
def jG:=@_root_.List.foldl_append
def hO:=@_root_.Bool.not_true
def nO:=@_root_.List.mem_or_eq_of_mem_set
def jl:=@_root_.Option.map_some
def jm:=@_root_.Nat.not_lt_zero
def gG:=@_root_.Nat.add_zero
def lL:=@_root_.List.mem_iff_getElem
def fJ:=@_root_.beq_iff_eq
def mQ:=@_root_.List.length_filter_le
def nP:=@_root_.Nat.add_sub_cancel_left
def mR:=@_root_.List.getElem?_drop
def kg:=@_root_.Bool.not_false
def jo:=@_root_.Nat.succ_mul
def qD:=@_root_.List.findIdx?_eq_none_iff
def qE:=@_root_.Array.mapM_eq_mapM_toList
def mS:=@_root_.List.take_add_one
def mT:=@_root_.List.getElem?_map
def lM:=@_root_.Option.some.inj
def jH:=@_root_.Nat.mul_comm
def jI:=@_root_.Nat.beq_refl
def lN:=@_root_.Bool.or_eq_true
def cW:=@_root_.ne_eq
def nQ:=@_root_.of_decide_eq_true
def nR:=@_root_.bne_self_eq_false
def nS:=@_root_.Option.map_eq_some_iff
def md:=@_root_.Nat.add_sub_cancel
def me:=@_root_.List.mem_cons_self
def ln:=@_root_.Bool.not_eq_true
def jJ:=@_root_.List.map_cons
def iJ:=@_root_.decide_true
def iK:=@_root_.Nat.zero_le
def kA:=@_root_.List.mapM_cons
def nT:=@_root_.Array.toArray_toList
def mf:=@_root_.Int.emod_eq_of_lt
def ik:=@_root_.Nat.mod_lt
def lq:=@_root_.List.mem_filter
def il:=@_root_.Array.ext'
def nU:=@_root_.List.flatMap_append
def pz:=@_root_.List.take_of_length_le
def jK:=@_root_.List.mem_map
def kB:=@_root_.Prod.mk.injEq
def mg:=@_root_.Option.bind_some
def pA:=@_root_.Array.mem_of_getElem?
def uJ:=@_root_.List.findIdx?_eq_some_iff_getElem
def mh:=@_root_.List.map_append
def mi:=@_root_.List.length_set
def mj:=@_root_.Bool.eq_iff_iff
def nV:=@_root_.not_false_eq_true
def pB:=@_root_.Nat.div_lt_of_lt_mul
def kC:=@_root_.Nat.add_comm
def nW:=@_root_.List.size_toArray
def lr:=@_root_.Nat.add_assoc
def qZ:=@_root_.Nat.le_mul_of_pos_right
def mn:=@_root_.Bool.and_false
def lu:=@_root_.Nat.sub_zero
def pC:=@_root_.Bool.not_eq_false'
def q8:=@_root_.Array.getElem?_push_lt
def ra:=@_root_.Nat.ble_eq_true_of_le
def rb:=@_root_.Classical.choose_spec
def rf:=@_root_.Bool.and_eq_false_iff
def rh:=@_root_.Array.getElem?_toList
def gq:=@_root_.true_or
def pD:=@_root_.List.flatMap_cons
def nY:=@_root_.Bool.false_and
def uK:=@_root_.Array.toList_setIfInBounds
def uL:=@_root_.Array.getElem?_append_left
def mo:=@_root_.decide_false
def pE:=@_root_.Nat.div_add_mod'
def pF:=@_root_.List.ext_getElem
def uM:=@_root_.List.getElem?_eq_none_iff
def pG:=@_root_.UInt8.toNat_inj
def lx:=@_root_.bne_iff_ne
def ri:=@_root_.Option.toList_some
def rj:=@_root_.Int.emod_lt_of_pos
def iL:=@_root_.Ne.symm
def pH:=@_root_.List.mem_range
def uN:=@_root_.List.length_pos_of_mem
def uO:=@_root_.Array.getElem?_eq_none
def mq:=@_root_.Nat.not_lt
def rl:=@_root_.List.not_mem_nil
def rm:=@_root_.List.filter_cons
def y4:=@_root_.List.take_append_of_le_length
def uP:=@_root_.List.mem_of_mem_drop
def y5:=@_root_.List.drop_append_of_le_length
def rn:=@_root_.List.nil_append
def rq:=@_root_.Int.emod_nonneg
def uQ:=@_root_.Nat.mul_le_mul_left
def uR:=@_root_.List.toList_toArray
def uS:=@_root_.Int.toNat_of_nonneg
def pI:=@_root_.getElem!_pos
def pJ:=@_root_.Nat.sub_self
def uT:=@_root_.List.find?_eq_none
def rr:=@_root_.Array.mem_push
def y6:=@_root_.List.drop_eq_getElem_cons
def pK:=@_root_.Nat.one_mul
def pL:=@_root_.Nat.mul_one
def uU:=@_root_.Nat.lt_trichotomy
def uV:=@_root_.List.any_eq_false
def ru:=@_root_.Bool.false_or
def pM:=@_root_.Go.Sem.run_ite
def uW:=@_root_.List.drop_length
def uX:=@_root_.List.drop_append
def y7:=@_root_.List.range_succ_eq_map
def y8:=@_root_.List.drop_eq_nil_of_le
def uY:=@_root_.List.all_append
def y9:=@_root_.List.singleton_append
def za:=@_root_.List.mem_iff_getElem?
def zb:=@_root_.List.contains_iff_mem
def zc:=@_root_.Array.getElem?_modify
def nZ:=@_root_.and_self
def zd:=@_root_.UInt8.lt_or_lt_of_ne
def ze:=@_root_.Nat.pow_le_pow_right
def rv:=@_root_.Nat.mul_add
def uZ:=@_root_.List.foldl_nil
def ry:=@_root_.Int.le_refl
def zf:=@_root_.Nat.add_sub_cancel'
def zg:=@_root_.List.flatten_append
def zh:=@_root_.List.findSome?_cons
def u4:=@_root_.Nat.mul_assoc
def u5:=@_root_.List.all_cons
end Go
namespace Go.AM
inductive C where
  | int (k:IntKind) (n:Int)
  | bool (b:Bool)
  | str (s:List UInt8)
  | sl (tight:Bool) (k n:Nat) (es:Nat->List C)
  | rp (cs:List C)
  | mb
  | ifs (t:ar) (c:C)
  | Iz (t:ar) (cs:List C)
  | n8
  | fn (f:Fn) (first cap:List C)
  | zr
  | val (x:ak)
inductive BP where
  | sl (g k o n:Nat)
  | el (g k i f:Nat)
def BP.g:BP->Nat
  | .sl g _ _ _=>g
  | .el g _ _ _=>g
def BP.K:BP->ak->ak->Prop
  | .sl _ k o n,lv,v=>∃ a a0 cap c0,v=.slice a n cap/\n<=cap/\o+cap=c0/\c0<=9223372036854775807/\lv=.slice a0 0 c0/\(0<cap->∃ b,a0=aa ⟨b,0,af⟩/\a=aa ⟨b,o*k,af⟩)
  | .el _ k i f,lv,v=>∃ b c0,lv=.slice (aa ⟨b,0,af⟩) 0 c0/\v=.pointer (aa ⟨b,i*k+f,af⟩)
inductive A where
  | c (x:C)
  | ptr (l off:Nat)
  | vec (l k n:Nat) (es:Nat->List C)
  | ref (l:Nat)
  | bp (l:Nat) (w:BP)
  | any
abbrev A.v (x:ak):A:=.c (.val x)
inductive E1 where
  | one (a:A)
  | agg (cs:List A)
inductive D where
  | e (x:E1)
  | fW (xs:List E1)
  | any
abbrev Fr:=List (Nat×D)
def look:Fr->Nat->D
  | [],_=>.any
  | (i,d)::r,t=>cond (aA i t) d (look r t)
inductive aW where
  | cells (E:ar) (cs:List A)
  | vec (E:ar) (k n:Nat) (es:Nat->List C)
  | dM (H:ak->(Nat->Option Obj)->Prop)
  | dead
  | loop (N:Nat) (φ:Fr) (r:Loop)
  | rC
  | buf (E:ar) (k n:Nat) (es:Nat->List C)
@[simp] def aW.gr:aW->Bool
  | .vec _ _ _ _=>ab
  | .buf _ _ _ _=>ab
  | _=>ae
structure Loc where
  v:ak
  bs:List Nat
abbrev Mem:=Nat->Nat->Option ak
structure St where
  β:List Loc
  M:Mem
  w:az
  own:Nat->Prop
def bD:IntKind->Int->Prop
  | .i8,n=>-128<=n/\n<=127
  | .i16,n=>-32768<=n/\n<=32767
  | .i32,n=>-2147483648<=n/\n<=2147483647
  | .i64,n=>-9223372036854775808<=n/\n<=9223372036854775807
  | .u8,n=>0<=n/\n<=255
  | .u16,n=>0<=n/\n<=65535
  | .u32,n=>0<=n/\n<=4294967295
  | .u64,n=>0<=n/\n<=18446744073709551615
def c8:ak->Bool
  | .agg _|.tuple _=>ae
  | _=>ab
theorem BP.K.cell {w:BP} {lv v:ak} (h:w.K lv v):c8 v=ab:=by
  cases w with
  | sl=>obtain⟨_,_,_,_,rfl,_⟩:=h;rfl
  | el=>obtain⟨_,_,_,rfl⟩:=h;rfl
inductive Rd (M:Mem):ak->C->Prop
  | int {k:IntKind} {n:Int} (h:bD k n):Rd M (.int k n) (.int k n)
  | bool {b:Bool}:Rd M (.bool b) (.bool b)
  | str {s:ByteArray} {l:List UInt8} (h:s.data.toList=l) (hl:l.length<=9223372036854775807):Rd M (.string s) (.str l)
  | sl {a:Option Addr} {n cap:Nat} {tight:Bool} {k:Nat} {es:Nat->List C} (b off:Nat) (f:Nat->Nat->ak)
      (Df:n<=cap) (hb:cap<=9223372036854775807) (ht:tight=ab->cap=n) (hk:∀ i,i<n->(es i).length=k)
      (ha:0<n->a=aa ⟨b,off,af⟩)
      (hm:∀ i,i<n->∀ j c,(es i)[j]?=aa c->M b (off+i*k+j)=aa (f i j))
      (hr:∀ i,i<n->∀ j c,(es i)[j]?=aa c->Rd M (f i j) c):Rd M (.slice a n cap) (.sl tight k n es)
  | rp {cs:List C} (b off:Nat) (f:Nat->ak)
      (hm:∀ j c,cs[j]?=aa c->M b (off+j)=aa (f j))
      (hr:∀ j c,cs[j]?=aa c->Rd M (f j) c):Rd M (.pointer (aa ⟨b,off,af⟩)) (.rp cs)
  | mb:Rd M (.pointer af) .mb
  | ifs {t:ar} {v:ak} {c:C} (h:Rd M v c) (hc:c8 v=ab):Rd M (.iface t v) (.ifs t c)
  | Iz {t:ar} {vs:List ak} {cs:List C} (hl:vs.length=cs.length)
      (f:Nat->ak) (hf:∀ j,j<vs.length->vs[j]?=aa (f j)) (hr:∀ j c,cs[j]?=aa c->Rd M (f j) c):Rd M (.iface t (.agg vs.toArray)) (.Iz t cs)
  | n8:Rd M .nilIface .n8
  | fn {g:Fn} {first cap:List C} (fs cs:List ak) (hl:fs.length=first.length) (zk:cs.length=cap.length) (f1 f2:Nat->ak)
      (h1:∀ j,j<fs.length->fs[j]?=aa (f1 j)) (h2:∀ j,j<cs.length->cs[j]?=aa (f2 j))
      (r1:∀ j c,first[j]?=aa c->Rd M (f1 j) c) (r2:∀ j c,cap[j]?=aa c->Rd M (f2 j) c):Rd M (.func g fs.toArray cs.toArray) (.fn g first cap)
  | zr:Rd M .nilFunc .zr
  | val {x:ak} (h:c8 x=ab):Rd M x (.val x)
theorem Rd.gm {M:Mem} {v x:ak} (h:Rd M v (.val x)):v=x:=by cases h;rfl
theorem Rd.cell {M:Mem} {v:ak} {c:C} (h:Rd M v c):c8 v=ab:=by cases h <;> first|rfl|assumption
theorem Rd.mono {M M':Mem} (d:∀ b o v,M b o=aa v->M' b o=aa v) {v:ak} {c:C} (h:Rd M v c):Rd M' v c:=by
  induction h with
  | int h=>exact .int h
  | bool=>exact .bool
  | str h hl=>exact .str h hl
  | sl b off f a hb ht hk ha hm hr ih =>
    exact .sl b off f a hb ht hk ha (λi hi j c hj=>d _ _ _ (hm i hi j c hj)) (λi hi j c hj=>ih i hi j c hj)
  | rp b off f hm hr ih=>exact .rp b off f (λj c hj=>d _ _ _ (hm j c hj)) (λj c hj=>ih j c hj)
  | mb=>exact .mb
  | ifs h g ih=>exact .ifs ih g
  | Iz hl f e hr ih=>exact .Iz hl f e (λj c hj=>ih j c hj)
  | n8=>exact .n8
  | fn fs cs hl zk f1 f2 h1 h2 r1 r2 ih1 ih2=>exact .fn fs cs hl zk f1 f2 h1 h2 (λj c hj=>ih1 j c hj) (λj c hj=>ih2 j c hj)
  | zr=>exact .zr
  | val h=>exact .val h
def gB (σ:List aW) (s:St) (v:ak):A->Prop
  | .c x=>Rd s.M v x
  | .ptr l off=>(∀ B,σ[l]?=aa B->B.gr=ae)/\∃ L b,s.β[l]?=aa L/\L.v=.pointer (aa ⟨b,0,af⟩)/\v=.pointer (aa ⟨b,off,af⟩)
  | .vec l k n es=>Rd s.M v (.sl ae k n es)/\l<σ.length/\∀ E k' n' es',σ[l]?=aa (aW.vec E k' n' es')->n<=n'/\(n'=n->∃ L,s.β[l]?=aa L/\v=L.v)
  | .ref l=>(∀ B,σ[l]?=aa B->B.gr=ae)/\∃ L,s.β[l]?=aa L/\v=L.v/\c8 v=ab
  | .bp l w=>∃ a,w.K a v/\l<σ.length/\∀ E k n es,σ[l]?=aa (aW.buf E k n es)->w.g<=n/\(w.g=n->∃ L,s.β[l]?=aa L/\L.v=a)
  | .any=>c8 v=ab
def dX (σ:List aW) (s:St):List ak->List A->Prop
  | [],[]=>True
  | v::vs,a::al=>gB σ s v a/\dX σ s vs al
  | _,_=>False
def mc (σ:List aW) (s:St) (v:ak):E1->Prop
  | .one a=>gB σ s v a
  | .agg cs=>∃ vs:List ak,v=.agg vs.toArray/\dX σ s vs cs
def gI (σ:List aW) (s:St):List ak->List E1->Prop
  | [],[]=>True
  | v::vs,a::al=>mc σ s v a/\gI σ s vs al
  | _,_=>False
def dh (σ:List aW) (s:St) (v:ak):D->Prop
  | .e x=>mc σ s v x
  | .fW xs=>∃ vs:List ak,v=.tuple vs.toArray/\gI σ s vs xs
  | .any=>True
def cG (σ:List aW) (s:St):List ak->List D->Prop
  | [],[]=>True
  | v::vs,a::al=>dh σ s v a/\cG σ s vs al
  | _,_=>False
structure Flat (M:Mem) (k n:Nat) (es:Nat->List C) (vs:List ak):Prop where
  len:vs.length=n*k
  width:∀ i,i<n->(es i).length=k
  rd:∀ i,i<n->∀ (j:Nat) (c:C),(es i)[j]?=aa c->∃ v,vs[i*k+j]?=aa v/\Rd M v c
theorem Flat.mono {M M':Mem} (a:∀ b o v,M b o=aa v->M' b o=aa v) {k n:Nat} {es:Nat->List C} {vs:List ak} (h:Flat M k n es vs):Flat M' k n es vs :=
  ⟨h.len,h.width,λi hi j c hj=>let ⟨v,h1,h2⟩:=h.rd i hi j c hj;⟨v,h1,h2.mono a⟩⟩
def eZ (σ:List aW) (s:St):aW->Loc->Prop
  | .cells E cs,L=>∃ b vs,L=⟨.pointer (aa ⟨b,0,af⟩),[b]⟩/\s.w.heap[b]?=aa (.cells (List.toArray vs) E (0,0))/\dX σ s vs cs/\∀ o,s.M b o=af
  | .vec E k n es,L=>Rd s.M L.v (.sl ae k n es) /\
      (((L.bs=[]/\n=0)/\Rd s.M L.v (.sl ab k n es)) ∨
       ∃ b cap vs,L=⟨.slice (aa ⟨b,0,af⟩) n cap,[b]⟩/\s.w.heap[b]?=aa (.cells (List.toArray vs) E (0,0))/\vs.length=cap*k/\∀ o,n*k<=o->s.M b o=af)
  | .dM H,L=>∃ c,H L.v c/\(∀ (b:Nat) (o:Obj),c b=aa o->s.w.heap[b]?=aa o)/\(∀ b,b∈L.bs↔(c b).isSome=ab)/\∀ b∈L.bs,∀ o,s.M b o=af
  | .dead,_=>True
  | .loop N φ r,L=>∃ l tmps fn df,L=⟨.func (.yield l) #[] #[],[l]⟩/\s.w.heap[l]?=aa (.loop { r with tmps:=tmps,fn:=fn,defers:=df })/\tmps.size=N/\(∀ t,dh σ s (tmps.getD t aj) (look φ t))/\∀ o,s.M l o=af
  | .rC,L=>∃ r:Nat,L=⟨.int .i64 r,[r]⟩/\s.w.heap[r]?=aa (.deferred (aa []))/\∀ o,s.M r o=af
  | .buf E k n es,L=>(n=0/\L=⟨.slice af 0 0,[]⟩)∨∃ b a vs zs,L=⟨.slice (aa ⟨b,0,af⟩) 0 a,[b]⟩/\s.w.heap[b]?=aa (.cells (List.toArray (vs++zs)) E (0,0))/\(vs++zs).length=a*k/\n<=a/\a<=9223372036854775807/\Flat s.M k n es vs/\∀ o,s.M b o=af
structure aJ (σ:List aW) (s:St):Prop where
  mem:∀ b o v,s.M b o=aa v->s.w.cell? ⟨b,o,af⟩=aa v
  len:s.β.length=σ.length
  box:∀ (l:Nat) (B:aW) (L:Loc),σ[l]?=aa B->s.β[l]?=aa L->eZ σ s B L
  gb:∀ (l l':Nat) (L L':Loc),s.β[l]?=aa L->s.β[l']?=aa L'->∀ b∈L.bs,b∈L'.bs->l=l'
  lt:∀ L∈s.β,∀ b∈L.bs,b<s.w.heap.size
  own:∀ b,s.own b->b<s.w.heap.size/\∀ L∈s.β,b∉L.bs
def iN:aW->Loc->aW->Loc->Prop
  | .vec _ _ n _,L,.vec _ _ a _,L'=>(a=n->L'.v=L.v)/\n<=a
  | .vec _ _ _ _,_,.dead,_=>True
  | .vec _ _ _ _,_,_,_=>False
  | .buf _ _ n _,L,.buf _ _ a _,L'=>(a=n->L'.v=L.v)/\n<=a
  | .buf _ _ _ _,_,.dead,_=>True
  | .buf _ _ _ _,_,_,_=>False
  | _,_,.vec _ _ _ _,_=>False
  | _,_,.buf _ _ _ _,_=>False
  | .dead,L,.dead,L'=>L'.v=L.v
  | .dead,_,_,_=>False
  | .rC,L,.rC,L'=>L'.v=L.v
  | .rC,_,_,_=>False
  | _,_,.rC,_=>False
  | _,L,_,L'=>L'.v=L.v
structure Ext (σ:List aW) (s:St) (σ':List aW) (s':St):Prop where
  mem:∀ b o v,s.M b o=aa v->s'.M b o=aa v
  box:∀ (l:Nat) (B:aW) (L:Loc),σ[l]?=aa B->s.β[l]?=aa L->∃ B' L',σ'[l]?=aa B'/\s'.β[l]?=aa L'/\iN B L B' L'
structure Step (σ:List aW) (s:St) (σ':List aW) (s':St):Prop where
  size:s.w.heap.size<=s'.w.heap.size
  eH:∀ b,b<s.w.heap.size->(∀ L∈s.β,b∉L.bs)->s'.w.heap[b]?=s.w.heap[b]?
  mem:∀ b o v,s.M b o=aa v->s'.M b o=aa v
  jq:∀ b,b<s.w.heap.size->(∀ L∈s.β,b∉L.bs)->∀ o,s'.M b o=s.M b o
  tK:∀ L'∈s'.β,∀ b∈L'.bs,s.w.heap.size<=b∨∃ L∈s.β,b∈L.bs
  box:∀ (l:Nat) (B:aW) (L:Loc),σ[l]?=aa B->s.β[l]?=aa L->∃ B' L',σ'[l]?=aa B'/\s'.β[l]?=aa L'/\iN B L B' L'
  os:s'.w.os=s.w.os
  tape:s'.w.tape=s.w.tape
  output:s'.w.output=s.w.output
  own:s'.own=s.own
structure cC (σ:List aW) (s:St) (σ':List aW) (s':St):Prop where
  size:s.w.heap.size<=s'.w.heap.size
  eH:∀ b,s.own b->s'.w.heap[b]?=s.w.heap[b]?
  mem:∀ b o v,s.M b o=aa v->s'.M b o=aa v
  jq:∀ b,b<s.w.heap.size->(∀ L∈s.β,b∉L.bs)->∀ o,s'.M b o=s.M b o
  tK:∀ L'∈s'.β,∀ b∈L'.bs,s.w.heap.size<=b∨∃ L∈s.β,b∈L.bs
  box:∀ (l:Nat) (B:aW) (L:Loc),σ[l]?=aa B->s.β[l]?=aa L->∃ B' L',σ'[l]?=aa B'/\s'.β[l]?=aa L'/\iN B L B' L'
  os:s'.w.os=s.w.os
  tape:s'.w.tape=s.w.tape
  output:s'.w.output=s.w.output
  own:s'.own=s.own
structure cm (s s':St):Prop where
  β:s'.β=s.β
  M:s'.M=s.M
  own:s'.own=s.own
  size:s.w.heap.size<=s'.w.heap.size
  eH:∀ b,(s.own b∨∃ L∈s.β,b∈L.bs)->s'.w.heap[b]?=s.w.heap[b]?
  mem:∀ b o v,s.M b o=aa v->s'.w.cell? ⟨b,o,af⟩=aa v
  os:s'.w.os=s.w.os
  tape:s'.w.tape=s.w.tape
  output:s'.w.output=s.w.output
def oG (s:St) (e:Event):Prop :=
  match e.loc with
  | .cell a=>e.sync=ae/\a.spot=af/\(False∨((∃ L∈s.β,a.block∈L.bs)/\(e.write=ab->s.M a.block a.off=af))∨(e.write=ae/\∃ v,s.M a.block a.off=aa v))
  | .obj r=>e.sync=ae/\(False∨∃ L∈s.β,r∈L.bs)
  | .mark m=>m=.noRoom∨∃ f,m=.extern f
  | _=>False
def ft (s:St) (es:Array Event):Prop:=∀ e∈es,oG s e
theorem ft.nil {s:St}:ft s #[]:=by intro e h;simp at h
theorem iN.refl (B:aW) (L:Loc):iN B L B L:=by cases B <;> simp[iN]
theorem iN.trans {B B' Wq:aW} {L L' Zk:Loc} (h:iN B L B' L') (a:iN B' L' Wq Zk):iN B L Wq Zk:=by
  cases B <;> cases B' <;> cases Wq <;> simp_all [iN]
  all_goals
    obtain⟨h1,h2⟩:=h;obtain⟨b,c⟩:=a;refine⟨λe=>?_,by omega⟩
    rw[b (by omega),h1 (by omega)]
theorem Step.refl (σ:List aW) (s:St):Step σ s σ s :=
  ⟨ba _,λ_ _ _=>rfl,λ_ _ _ h=>h,λ_ _ _ _=>rfl,λL h b hb=>.inr ⟨L,h,hb⟩,λ_ B L h a=>⟨B,L,h,a,.refl _ _⟩,rfl,rfl,rfl,rfl⟩
theorem Step.trans {σ σ1 σ2:List aW} {s g s2:St} (h:Step σ s σ1 g) (k:Step σ1 g σ2 s2):Step σ s σ2 s2:=by
  have out:∀ b,b<s.w.heap.size->(∀ L∈s.β,b∉L.bs)->∀ L∈g.β,b∉L.bs:=by
    intro b hb hn L a c;rcases h.tK L a b c with h1|⟨q,d,e⟩
    · omega
    · exact hn q d e
  refine⟨eG h.size k.size,?_,λb o v u=>k.mem _ _ _ (h.mem _ _ _ u),?_,?_,?_,k.os.trans h.os,k.tape.trans h.tape,k.output.trans h.output,k.own.trans h.own⟩
  · intro b hb hn
    rw[k.eH b (cz hb h.size) (out b hb hn),h.eH b hb hn]
  · intro b hb hn o
    rw[k.jq b (cz hb h.size) (out b hb hn),h.jq b hb hn]
  · intro L a b hb
    rcases k.tK L a b hb with h1|⟨L1,i,f⟩
    · exact .inl (eG h.size h1)
    · exact h.tK L1 i b f
  · intro l B L m a
    obtain⟨B1,L1,h1,h2,n⟩:=h.box l B L m a;obtain⟨t,r,k1,p,j⟩:=k.box l B1 L1 h1 h2;exact⟨t,r,k1,p,n.trans j⟩
theorem cC.refl (σ:List aW) (s:St):cC σ s σ s :=
  ⟨ba _,λ_ _=>rfl,λ_ _ _ h=>h,λ_ _ _ _=>rfl,λL h b hb=>.inr ⟨L,h,hb⟩,λ_ B L h a=>⟨B,L,h,a,.refl _ _⟩,rfl,rfl,rfl,rfl⟩
theorem cC.trans {σ σ1 σ2:List aW} {s g s2:St} (h:cC σ s σ1 g) (k:cC σ1 g σ2 s2):cC σ s σ2 s2:=by
  have out:∀ b,b<s.w.heap.size->(∀ L∈s.β,b∉L.bs)->∀ L∈g.β,b∉L.bs:=by
    intro b hb hn L a c;rcases h.tK L a b c with h1|⟨q,d,e⟩
    · omega
    · exact hn q d e
  refine⟨eG h.size k.size,?_,λb o v u=>k.mem _ _ _ (h.mem _ _ _ u),?_,?_,?_,k.os.trans h.os,k.tape.trans h.tape,k.output.trans h.output,k.own.trans h.own⟩
  · intro b hb
    rw[k.eH b (by rw[h.own];exact hb),h.eH b hb]
  · intro b hb hn o
    rw[k.jq b (cz hb h.size) (out b hb hn),h.jq b hb hn]
  · intro L a b hb
    rcases k.tK L a b hb with h1|⟨L1,i,f⟩
    · exact .inl (eG h.size h1)
    · exact h.tK L1 i b f
  · intro l B L m a
    obtain⟨B1,L1,h1,h2,n⟩:=h.box l B L m a;obtain⟨t,r,k1,p,j⟩:=k.box l B1 L1 h1 h2;exact⟨t,r,k1,p,n.trans j⟩
theorem Step.oA {σ σ':List aW} {s s':St} (hh:aJ σ s) (h:Step σ s σ' s'):cC σ s σ' s' :=
  ⟨h.size,λb hb=>h.eH b (hh.own b hb).1 (hh.own b hb).2,h.mem,h.jq,h.tK,h.box,h.os,h.tape,h.output,h.own⟩
theorem cC.ext {σ σ':List aW} {s s':St} (h:cC σ s σ' s'):Ext σ s σ' s':=⟨h.mem,h.box⟩
theorem cm.refl {σ:List aW} {s:St} (hh:aJ σ s):cm s s:=⟨rfl,rfl,rfl,ba _,λ_ _=>rfl,hh.mem,rfl,rfl,rfl⟩
theorem cm.stepW {σ:List aW} {s s':St} (h:cm s s'):cC σ s σ s' :=
  ⟨h.size,λb hb=>h.eH b (.inl hb),λb o v d=>by rw[h.M];exact d,λ_ _ _ _=>by rw[h.M],λL a b hb=>.inr ⟨L,by rw[<-h.β];exact a,hb⟩,
    λl B L c a=>⟨B,L,c,by rw[h.β];exact a,.refl _ _⟩,h.os,h.tape,h.output,h.own⟩
theorem Step.ext {σ σ':List aW} {s s':St} (h:Step σ s σ' s'):Ext σ s σ' s':=⟨h.mem,h.box⟩
section mono
variable {σ σ':List aW} {s s':St}
theorem Ext.Mo (h:Ext σ s σ' s') {l:Nat} {L:Loc} (b:s.β[l]?=aa L) (hl:s.β.length=σ.length) (hn:∀ B,σ[l]?=aa B->B.gr=ae) :
    (∀ B,σ'[l]?=aa B->B.gr=ae)/\∃ L',s'.β[l]?=aa L'/\L'.v=L.v:=by
  have a:l<σ.length:=by rw[<-hl];exact(bt.1 b).1
  obtain⟨B',L',k1,e,d⟩:=h.box l (σ[l]) L (aR a) b;have c:=hn _ (aR a);generalize σ[l]=B at *;rw[k1];cases B <;> cases B' <;> simp_all [iN,aW.gr]
theorem gB.mono (h:Ext σ s σ' s') (hl:s.β.length=σ.length) {v:ak} {a:A} (r:gB σ s v a):gB σ' s' v a:=by
  cases a with
  | c x=>exact Rd.mono h.mem r
  | any=>exact r
  | ptr l off =>
    obtain⟨hn,L,b,h1,h2,o⟩:=r;obtain⟨i,L',k1,g⟩:=h.Mo h1 hl hn;exact⟨i,L',b,k1,by rw[g,h2],o⟩
  | vec l k n es =>
    obtain⟨t,d,p⟩:=r;obtain⟨B',L',k1,g,j⟩:=h.box l (σ[l]) (s.β[l]'(by omega)) (aR d) (aR (by omega))
    have f:l<σ'.length:=(bt.1 k1).1;refine⟨Rd.mono h.mem t,f,λE k' i es' he=>?_⟩
    rw[he] at k1;cases k1;have q:=aR d;generalize σ[l]=B at *;cases B with
    | vec E0 k0 n0 Vo =>
      obtain⟨u,C⟩:=j;obtain⟨z,p2⟩:=p _ _ _ _ q;refine⟨by omega,λe=>?_⟩
      obtain⟨L,m,y⟩:=p2 (by omega)
      rw[aR (by omega)] at m
      cases m;exact⟨L',g,by rw[u (by omega),y]⟩
    | _=>simp[iN] at j
  | ref l =>
    obtain⟨hn,L,h1,h2,o⟩:=r;obtain⟨i,L',k1,g⟩:=h.Mo h1 hl hn;exact⟨i,L',k1,by rw[g,h2],o⟩
  | bp l w =>
    obtain⟨lv,t,d,p⟩:=r;obtain⟨B',L',k1,g,j⟩:=h.box l (σ[l]) (s.β[l]'(by omega)) (aR d) (aR (by omega))
    have f:l<σ'.length:=(bt.1 k1).1;refine⟨lv,t,f,λE k' i es' he=>?_⟩
    rw[he] at k1;cases k1;have q:=aR d;generalize σ[l]=B at *;cases B with
    | buf E0 k0 n0 Vo =>
      obtain⟨u,C⟩:=j;obtain⟨z,p2⟩:=p _ _ _ _ q;refine⟨by omega,λe=>?_⟩
      obtain⟨L,m,y⟩:=p2 (by omega)
      rw[aR (by omega)] at m
      cases m;exact⟨L',g,by rw[u (by omega),y]⟩
    | _=>simp[iN] at j
theorem dX.mono (h:Ext σ s σ' s') (hl:s.β.length=σ.length) {vs:List ak} {cs:List A} (r:dX σ s vs cs):dX σ' s' vs cs:=by
  induction vs generalizing cs with
  | nil=>cases cs <;> simp_all [dX]
  | cons v vs ih =>
    cases cs with
    | nil=>simp[dX] at r
    | cons a cs=>exact⟨r.1.mono h hl,ih r.2⟩
theorem mc.mono (h:Ext σ s σ' s') (hl:s.β.length=σ.length) {v:ak} {x:E1} (r:mc σ s v x):mc σ' s' v x:=by
  cases x with
  | one a=>exact gB.mono h hl r
  | agg cs=>obtain⟨vs,h1,h2⟩:=r;exact⟨vs,h1,h2.mono h hl⟩
theorem gI.mono (h:Ext σ s σ' s') (hl:s.β.length=σ.length) {vs:List ak} {xs:List E1} (r:gI σ s vs xs):gI σ' s' vs xs:=by
  induction vs generalizing xs with
  | nil=>cases xs <;> simp_all [gI]
  | cons v vs ih =>
    cases xs with
    | nil=>simp[gI] at r
    | cons a cs=>exact⟨r.1.mono h hl,ih r.2⟩
theorem dh.mono (h:Ext σ s σ' s') (hl:s.β.length=σ.length) {v:ak} {d:D} (r:dh σ s v d):dh σ' s' v d:=by
  cases d with
  | e x=>exact mc.mono h hl r
  | fW xs=>obtain⟨vs,h1,h2⟩:=r;exact⟨vs,h1,h2.mono h hl⟩
  | any=>trivial
theorem cG.mono (h:Ext σ s σ' s') (hl:s.β.length=σ.length) {vs:List ak} {xs:List D} (r:cG σ s vs xs):cG σ' s' vs xs:=by
  induction vs generalizing xs with
  | nil=>cases xs <;> simp_all [cG]
  | cons v vs ih =>
    cases xs with
    | nil=>simp[cG] at r
    | cons a cs=>exact⟨r.1.mono h hl,ih r.2⟩
end mono
def oJ (σ:List aW) (s:St):List Deferred->List Nat->Prop
  | [],[]=>True
  | d::ds,l::ls=>(σ[l]?=aa .rC/\∃ (L:Loc) (r:Nat),s.β[l]?=aa L/\L.v=.int .i64 r/\d={ target:=.collected r,args:=#[] })/\l∉ls/\oJ σ s ds ls
  | _,_=>False
theorem oJ.mono {σ σ':List aW} {s s':St} (h:Ext σ s σ' s'):∀ {ds:List Deferred} {ls:List Nat},oJ σ s ds ls->oJ σ' s' ds ls
  | [],[],_=>trivial
  | [],_::_,r=>r.elim
  | _::_,[],r=>r.elim
  | d::ds,l::ls,⟨⟨h1,L,r,h2,e,b⟩,f,g⟩=>by
    obtain⟨B',L',k1,c,a⟩:=h.box l _ L h1 h2;cases B' <;> simp[iN] at a
    exact⟨⟨k1,L',r,c,by rw[a,e],b⟩,f,oJ.mono h g⟩
def nj:List aW->Bool
  | []=>ab
  | .rC::_=>ae
  | _::r=>nj r
theorem lH:∀ {l:List aW},nj l=ab->∀ B∈l,B≠.rC
  | [],_,B,a=>by simp at a
  | b::r,h,B,a=>by
    have c:b≠.rC/\nj r=ab:=by cases b <;> simp_all [nj]
    rcases ew.1 a with rfl|a
    · exact c.1
    · exact lH c.2 B a
theorem lT {s:St} {r:Nat} {wr:Bool} {L:Loc} (b:L∈s.β) (a:r∈L.bs):oG s ⟨.obj r,wr,ae⟩:=⟨rfl,.inr ⟨L,b,a⟩⟩
theorem ft.one {s:St} {e:Event} (h:oG s e):ft s #[e]:=by intro x a;simp at a;subst a;exact h
theorem ft.two {s:St} {e b:Event} (h:oG s e) (c:oG s b):ft s #[e,b]:=by
  intro x a;simp at a;rcases a with rfl|rfl <;> assumption
end Go.AM
namespace Go.AM
open Go.Conc (G listed)
def qG(s s':St)(es:Array Event):Prop:=(∃ σ σ',aJ σ s/\aJ σ' s'/\Step σ s σ' s')/\ft s es
structure Cx (P:an) where
 main:Bool
 rely:St->St->Prop
 xq:au->St->(au->St->Prop)->Prop
 iO:∀ {s s'},rely s s'->cm s s'
 A4:Prop
class Cx.jN {P:an} (X:Cx P):Prop where
 ok:X.A4
structure eW (s s':St):Prop where
 w:s'.w=s.w
 mem:∀ b o v,s.M b o=aa v->s'.M b o=aa v
 jq:∀ b,(∀ L∈s.β,b∉L.bs)->∀ o,s'.M b o=s.M b o
 cell:∀ b o v,s'.M b o=aa v->s.w.cell? ⟨b,o,af⟩=aa v
 blk:∀ b,(s'.own b∨∃ L∈s'.β,b∈L.bs)->s.own b∨∃ L∈s.β,b∈L.bs
structure mU (s s':St):Prop where
 w:s'.w=s.w
 β:s'.β=s.β
 own:s'.own=s.own
 less:∀ b o v,s'.M b o=aa v->s.M b o=aa v
 mem:∀ b o v,s.M b o=aa v->s'.M b o=aa v∨s.own b
inductive fG {P:an} (X:Cx P) (S:au->St->Prop):au->St->Prop
 |stop {g:au} {s:St}:S g s->fG X S g s
 |step {g:au} {s:St} (ng:St->au) (ns:St->St) (ne:St->Array Event):g.status=.running ->
   (∀ s1,X.rely s s1->aK P X.main g s1.w=.go (ng s1) (ns s1).w (ne s1))->(∀ s1,X.rely s s1->qG s1 (ns s1) (ne s1))->(∀ s1,X.rely s s1->fG X S (ng s1) (ns s1))->fG X S g s
 |ghost {g:au} {s s':St}:eW s s'->fG X S g s'->fG X S g s
 |forget {g:au} {s s':St}:X.A4->mU s s'->fG X S g s'->fG X S g s
 |xq {g:au} {s:St} {T:au->St->Prop}:X.xq g s T->(∀ g' s',T g' s'->fG X S g' s')->fG X S g s
section
variable {P:an}{X:Cx P}{S:au->St->Prop}
theorem fG.next{g:au}{s:St}(f:g.status=.running)(h:∀ c,X.rely s c->∃ g' s' es,aK P X.main g c.w=.go g' s'.w es/\qG c s' es/\fG X S g' s'):fG X S g s:=by
 classical
 have hh:∀ c,∃ r:au×St×Array Event,X.rely s c->aK P X.main g c.w=.go r.1 r.2.1.w r.2.2/\qG c r.2.1 r.2.2/\fG X S r.1 r.2.1:=by
  intro c
  by_cases d:X.rely s c
  .obtain⟨g',s',es,h1⟩:=h c d;exact⟨(g',s',es),λ_=>h1⟩
  .exact⟨(g,c,#[]),λe=>absurd e d⟩
 refine .step (λc=>(Classical.choose (hh c)).1) (λc=>(Classical.choose (hh c)).2.1) (λc=>(Classical.choose (hh c)).2.2) f ?_ ?_ ?_
 .exactλc d=>(rb (hh c) d).1
 .exactλc d=>(rb (hh c) d).2.1
 .exactλc d=>(rb (hh c) d).2.2
theorem eW.of{σ σ':List aW}{s s':St}(hh:aJ σ s)(d:aJ σ' s')(e:s'.w=s.w)(st:cC σ s σ' s'):eW s s':=by
 have g:∀ b o v,s'.M b o=aa v->s.w.cell? ⟨b,o,af⟩=aa v:=λb o v h=>by rw[<-e];exact d.mem b o v h
 have c:∀ b o v,s.w.cell? ⟨b,o,af⟩=aa v->b<s.w.heap.size:=by
  intro b o v h;rcases cr b s.w.heap.size with h1|h1
  .exact h1
  .simp[aY,uO h1] at h
 refine⟨e,st.mem,λb hb o=>?_,g,λb hb=>?_⟩
 .rcases cr b s.w.heap.size with h1|h1
  .exact st.jq b h1 hb o
  .cases h2:s'.M b o with
   |some v=>have:=c _ _ _ (g _ _ _ h2);omega
   |none=>cases i:s.M b o with
    |none=>rfl
    |some v=>have:=c _ _ _ (hh.mem _ _ _ i);omega
 .rcases hb with hb|⟨L,f,hb⟩
  .exact .inl (by rw[<-st.own];exact hb)
  .rcases st.tK L f b hb with h1|h1
   .have:=d.lt L f b hb;rw[e] at this;omega
   .exact .inr h1
theorem aJ.rely{σ:List aW}{s s':St}(hh:aJ σ s)(h:cm s s'):aJ σ s':=by
 have ex:Ext σ s σ s':=h.stepW.ext;have C:∀ v a,gB σ s v a->gB σ s' v a:=λv a r=>r.mono ex hh.len
 refine⟨λb o v q=>h.mem b o v (by rw[<-h.M];exact q),by rw[h.β];exact hh.len,?_,by rw[h.β];exact hh.gb,?_,?_⟩
 .intro l B L p e;rw[h.β] at e;have hb:=hh.box l B L p e;have f:∀ b∈L.bs,s'.w.heap[b]?=s.w.heap[b]?:=λb hb=>h.eH b (.inr ⟨L,bz e,hb⟩)
  cases B with
  |cells E cs =>
   obtain⟨b,vs,h1,h2,c,d⟩:=hb;subst h1;exact⟨b,vs,rfl,by rw[f b (by simp),h2],c.mono ex hh.len,λo=>by rw[h.M,d]⟩
  |vec E k n es =>
   obtain⟨h1,h2⟩:=hb;refine⟨by rw[h.M];exact h1,?_⟩
   rcases h2 with⟨h2,c⟩|⟨b,cap,vs,h2,c,d,i⟩
   .exact .inl ⟨h2,by rw[h.M];exact c⟩
   .subst h2;exact .inr ⟨b,cap,vs,rfl,by rw[f b (by simp),c],d,λo A=>by rw[h.M,i o A]⟩
  |dM H =>
   obtain⟨ch,h1,h2,c,d⟩:=hb;refine⟨ch,h1,λb o g=>?_,c,λb j o=>by rw[h.M,d b j]⟩
   rw[f b ((c b).2 (by simp[g])),h2 b o g]
  |dead=>trivial
  |loop N φ r =>
   obtain⟨l,tmps,fn,u,h1,h2,c,d,i⟩:=hb;subst h1;exact⟨l,tmps,fn,u,rfl,by rw[f l (by simp),h2],c,λt=>(d t).mono ex hh.len,λo=>by rw[h.M,i]⟩
  |rC =>
   obtain⟨r,h1,h2,c⟩:=hb;subst h1;exact⟨r,rfl,by rw[f r (by simp),h2],λo=>by rw[h.M,c]⟩
  |buf E k n es =>
   rcases hb with hb|⟨b,m,vs,z,h1,h2,c,d,i,y,x⟩
   .exact .inl hb
   .subst h1;exact .inr ⟨b,m,vs,z,rfl,by rw[f b (by simp),h2],c,d,i,by rw[h.M];exact y,λo=>by rw[h.M,x]⟩
 .intro L e b hb;rw[h.β] at e;exact cz (hh.lt L e b hb) h.size
 .intro b hb;rw[h.own] at hb;rw[h.β];exact⟨cz (hh.own b hb).1 h.size,(hh.own b hb).2⟩
theorem qG.quiet{σ:List aW}{s:St}(hh:aJ σ s):qG s s #[]:=⟨⟨σ,σ,hh,hh,.refl _ _⟩,.nil⟩
def _root_.Go.Frame.aT(b:aQ)(a:Act)(todo:List Item):aQ:={ b with tmps:=a.tmps,todo:=todo,defers:=a.defers++b.defers,mode:=.run }
variable {b:aQ}{a:Act}{k:List Item}{cs:List aQ}{w:az}{main:Bool}
theorem EK(b:aQ)(a:Act)(c:List Item):(b.aT a c).eval=a.eval:=by funext x;cases x <;> rfl
theorem EL:aK P main (G (b.aT a (.code .skip::k)) cs) w=.go (G (b.aT a k) cs) w:=by simp[G,aK,stepG.exec,Frame.aT]
theorem qH{id:Nat}:aK P main (G (b.aT a (.inBlock id::k)) cs) w=.go (G (b.aT a k) cs) w:=by simp[G,aK,stepG.exec,Frame.aT]
theorem n3{x y:Code}:aK P main (G (b.aT a (.code (.seq x y)::k)) cs) w=.go (G (b.aT a (.code x::.code y::k)) cs) w:=by simp[G,aK,stepG.exec,Frame.aT]
theorem u7{c:aq}{x y:Code}{t:Bool}(h:a.eval c=.bool t) :
  aK P main (G (b.aT a (.code (.cond c x y)::k)) cs) w=.go (G (b.aT a (.code (if t then x else y)::k)) cs) w:=by
 have d:(b.aT a (.code (.cond c x y)::k)).eval c=.bool t:=by rw[EK];exact h
 simp only[Frame.aT] at d;simp[G,aK,stepG.exec,Frame.aT,d]
theorem rD{id:Nat}{c:Code}:aK P main (G (b.aT a (.code (.block id c)::k)) cs) w=.go (G (b.aT a (.code c::.inBlock id::k)) cs) w:=by simp[G,aK,stepG.exec,Frame.aT]
theorem EM{c:Code}:aK P main (G (b.aT a (.code (.loop c)::k)) cs) w=.go (G (b.aT a (.code c::.inLoop c::k)) cs) w:=by simp[G,aK,stepG.exec,Frame.aT]
theorem x3{c:Code}:aK P main (G (b.aT a (.inLoop c::k)) cs) w=.go (G (b.aT a (.code c::.inLoop c::k)) cs) w:=by simp[G,aK,stepG.exec,Frame.aT]
theorem zm{id:Nat}{k':List Item}(h:exitTo id k=aa k'):aK P main (G (b.aT a (.code (.exit id)::k)) cs) w=.go (G (b.aT a k') cs) w:=by simp[G,aK,stepG.exec,Frame.aT,h]
theorem pQ{id:Nat}{ops:Array av}:aK P main (G (b.aT a (.code (.region id ops ae)::k)) cs) w=.go (G (b.aT a (.inRegion ops (bc ops.size)::k)) cs) w:=by simp[G,aK,stepG.exec,Frame.aT]
theorem lP{id:Nat}{ops:Array av}:aK P main (G (b.aT a (.code (.region id ops ab)::k)) cs) w =
  .go (G (b.aT a (.inRegion ops (Region.schedule (P.follows .mixedOrders) ops (w.tape w.drawn (.order b.fn id)))::k)) cs) { w with drawn:=w.drawn+1 }:=by
 simp[G,aK,stepG.exec,Frame.aT,choose,Sem.run,Question.forced,Question.cut]
theorem iX{ops:Array av}:aK P main (G (b.aT a (.inRegion ops []::k)) cs) w=.go (G (b.aT a k) cs) w:=by simp[G,aK,stepG.exec,Frame.aT]
theorem zn(h:b.roundOf=af):aK P main (G (b.aT a (.code .ret::k)) cs) w=.go (G { b.aT a (.code .ret::k) with mode:=.returning } cs) w:=by simp[G,aK,stepG.exec,Frame.aT,h]
theorem zo(h:b.roundOf=af):aK P main (G (b.aT a []) cs) w=.go (G { b.aT a [] with mode:=.returning } cs) w:=by simp[G,aK,stepG.exec,Frame.aT,h]
theorem lF(ops:Array av)(i:Nat)(rest:List Nat)(v:ak) :
  (b.aT a (.inRegion ops (i::rest)::k)).finish v=b.aT (a.put ((ops[i]?).bind (·.dst)) v) (.inRegion ops rest::k):=by
 cases h:(ops[i]?).bind (·.dst) <;> simp[Frame.finish,Frame.aT,Act.put,h]
theorem Mm{ops:Array av}{i:Nat}{rest:List Nat}{o:av}(d:ops[i]?=aa o)(e:bk o (yielded ops a.tmps)=ae) :
  aK P main (G (b.aT a (.inRegion ops (i::rest)::k)) cs) w=.go (G (b.aT (a.put o.dst aj) (.inRegion ops rest::k)) cs) w:=by
 have c:=lF (b:=b) (a:=a) (k:=k) ops i rest aj;rw[d] at c;simp only[mg] at c;rw[<-c];simp[G,aK,stepG.exec,Frame.aT,d,e]
theorem rE{ρ:aq->ak}{o:av}{c:Call}(h:o.op=.defer c){g:Next}{w':az}(e:(aw ρ o).run P w=.ok g w'):∃ d,g=.defer d:=by
 simp only[aw,h,bZ] at e;cases f:(resolve ρ c o.type).run P w with
 |ok d w2=>rw[f] at e;simp at e;exact⟨_,e.1.symm⟩
 |halt x w2=>rw[f] at e;simp at e
theorem u9{ops:Array av}{i:Nat}{rest:List Nat}{o:av}(h:ops[i]?=aa o)(f:bk o (yielded ops a.tmps)=ab)(g:∀ c,o.op≠.defer c) :
  aK P main (G (b.aT a (.inRegion ops (i::rest)::k)) cs) w=stepG.apply P ab (b.aT a (.inRegion ops (i::rest)::k)) cs af (aw a.eval o) w:=by
 have e:=EK b a (.inRegion ops (i::rest)::k);simp only[Frame.aT] at e;simp[G,aK,stepG.exec,stepG.oper,Frame.oper?,Frame.aT,h,f,e];cases j:b.roundOf with
 |none=>rfl
 |some l=>cases d:o.op <;> first|rfl|exact absurd d (g _)
theorem Ia{ops:Array av}{i:Nat}{rest:List Nat}{o:av}{v:ak}{w':az}(h:ops[i]?=aa o)(j:bk o (yielded ops a.tmps)=ab)
  (m:b.kind≠.early) (g:(aw a.eval o).run P w=.ok (.value v) w') :
  aK P main (G (b.aT a (.inRegion ops (i::rest)::k)) cs) w=.go (G (b.aT (a.put o.dst v) (.inRegion ops rest::k)) cs) w' (listed P b.fn a o w):=by
 have e:=lF (b:=b) (a:=a) (k:=k) ops i rest v;rw[h] at e;simp only[mg] at e;have f:(b.kind==CallKind.early)=ae:=by simpa using m
 rw[u9 h j (λc n=>by obtain⟨d,l⟩:=rE n g;cases l),<-e]
 simp[stepG.apply,g,G,Frame.aT,f,GStep.after,listed]
theorem EN{ops:Array av}{i:Nat}{rest:List Nat}{o:av}{w':az}(h:ops[i]?=aa o)(j:bk o (yielded ops a.tmps)=ab)
  (m:b.kind≠.early) (g:(aw a.eval o).run P w=.ok .skip w') :
  aK P main (G (b.aT a (.inRegion ops (i::rest)::k)) cs) w=.go (G (b.aT (a.put o.dst aj) (.inRegion ops rest::k)) cs) w' (listed P b.fn a o w):=by
 have e:=lF (b:=b) (a:=a) (k:=k) ops i rest aj;rw[h] at e;simp only[mg] at e;have f:(b.kind==CallKind.early)=ae:=by simpa using m
 rw[u9 h j (λc n=>by obtain⟨d,l⟩:=rE n g;cases l),<-e]
 simp[stepG.apply,g,G,Frame.aT,f,GStep.after,listed]
theorem rF{ops:Array av}{i:Nat}{rest:List Nat}{o:av}{f:aX}{args:Array ak}{w':az}(m:ops[i]?=aa o)(h:bk o (yielded ops a.tmps)=ab)
  (l:b.kind≠.early) (g:(aw a.eval o).run P w=.ok (.enter f args) w') :
  aK P main (G (b.aT a (.inRegion ops (i::rest)::k)) cs) w=.go (G (Frame.enter P f args .normal) (b.aT a (.inRegion ops (i::rest)::k)::cs)) w' (listed P b.fn a o w):=by
 have e:(b.kind==CallKind.early)=ae:=by simpa using l
 rw[u9 m h (λc n=>by obtain⟨d,j⟩:=rE n g;cases j)]
 simp[stepG.apply,g,G,Frame.aT,e,GStep.after,listed]
structure uv (P:an)(f:aX)(fr:aQ)(v:ak)(s:St):Prop where
 isF:fr.fn=f
 mode:fr.mode=.returning
 defers:fr.defers=[]
 kind:fr.kind=.normal
 fn:∃ fn,P.funcs[fr.fn]?=aa fn/\∀ w,(∀ b o u,s.M b o=aa u->w.cell? ⟨b,o,af⟩=aa u)->(results fn fr.tmps).run P w=.ok v w/\∀ e∈(results fn fr.tmps).events P w #[],∃ b o u,e=⟨.cell ⟨b,o,af⟩,ae,ae⟩/\s.M b o=aa u
theorem uv.mono{f:aX}{fr:aQ}{v:ak}{s s':St}(h:uv P f fr v s)(c:∀ b o u,s.M b o=aa u->s'.M b o=aa u):uv P f fr v s':=by
 obtain⟨h1,h2,j,d,fn,m,p⟩:=h;refine⟨h1,h2,j,d,fn,m,λw g=>?_⟩
 obtain⟨k1,i⟩:=p w λb o u r=>g b o u (c b o u r)
 refine⟨k1,λe n=>?_⟩
 obtain⟨b,o,u,q,l⟩:=i e n;exact⟨b,o,u,q,c b o u l⟩
theorem ft.seen{s:St}{es:Array Event}{fn:aX}(h:ft s es):ft s (seen P fn es):=λe c=>h e (Go.Conc.mem_seen c)
theorem Ib{f:aX}{g c:aQ}{v:ak}{s:St}(h:uv P f g v s)(w:az)(l:∀ b o u,s.M b o=aa u->w.cell? ⟨b,o,af⟩=aa u):∃ es,aK P main (G g (c::cs)) w=.go (G (c.finish v) cs) w es/\∀ e∈es,∃ b o u,e=⟨.cell ⟨b,o,af⟩,ae,ae⟩/\s.M b o=aa u:=by
 obtain⟨fn,j,d⟩:=h.fn;obtain⟨n,i⟩:=d w l;refine⟨seen P g.fn ((results fn g.tmps).events P w #[]),?_,λe m=>i e (Go.Conc.mem_seen m)⟩
 simp[G,aK,unwind,doReturn,h.mode,h.defers,h.kind,j,n,GStep.after]
end
end Go.AM
namespace Go.AM
open Go.Conc (G)
structure cw (N:Nat)(σ:List aW)(s:St)(φ:Fr)(a:Act):Prop where
 size:a.tmps.size=N
 defers:∃ ls,oJ σ s a.defers ls
 slot:∀ t,dh σ s (a.tmps.getD t aj) (look φ t)
theorem cw.mono{N:Nat}{σ σ':List aW}{s s':St}{φ:Fr}{a:Act}(h:cC σ s σ' s')(hl:s.β.length=σ.length)(f:cw N σ s φ a):cw N σ' s' φ a :=
 ⟨f.size,f.defers.imp λ_ h1=>h1.mono h.ext,λt=>(f.slot t).mono h.ext hl⟩
theorem cw.rely{N:Nat}{σ:List aW}{s s':St}{φ:Fr}{a:Act}(h:cm s s')(hh:aJ σ s)(f:cw N σ s φ a):cw N σ s' φ a:=f.mono h.stepW hh.len
theorem cw.put{N:Nat}{σ:List aW}{s:St}{φ:Fr}{a:Act}(f:cw N σ s φ a){d:Nat}(g:d<N){v:ak}{x:D}(r:dh σ s v x):cw N σ s ((d,x)::φ) (a.put (aa d) v):=by
 refine⟨by simp[Act.put,f.size],f.defers,λt=>?_⟩
 simp only[Act.put,look]
 by_cases e:d=t
 .subst e;rw[show aA d d=ab from jI d]
  have c:d<a.tmps.size:=by rw[f.size];exact g
  simp only[cT,mO c,dG,cond];exact r
 .have:aA d t=ae:=by
   cases h:aA d t
   .rfl
   .exact absurd (bE h) e
  rw[this];have h:=f.slot t;simp only[cT] at h ⊢;rw[kX e];exact h
def r7(φ c:Fr):Prop:=∀ σ s v t,dh σ s v (look φ t)->dh σ s v (look c t)
theorem cw.le{N:Nat}{σ:List aW}{s:St}{φ c:Fr}{a:Act}(h:r7 φ c)(f:cw N σ s φ a):cw N σ s c a :=
 ⟨f.size,f.defers,λt=>h _ _ _ _ (f.slot t)⟩
abbrev Post:=Exit->Fr->List aW->Prop
def ends{P:an}(X:Cx P)(S:au->St->Prop)(b:aQ)(k:List Item)(cs:List aQ):Exit->Act->St->Prop
 |.normal,a,s=>fG X S (G (b.aT a k) cs) s
 |.exit id,a,s=>∀ pre,(∀ k',exitTo id (pre++k')=exitTo id k')->fG X S (G (b.aT a (.code (.exit id)::(pre++k))) cs) s
 |.ret,a,s=>∀ pre,fG X S (G (b.aT a (.code .ret::pre)) cs) s
 |.panic ch,a,s=>∀ c,fG X S (G { b.aT a c with mode:=.panicking ch } cs) s
 |_,_,_=>False
section
variable {P:an}{X:Cx P}{S:au->St->Prop}{b:aQ}{k:List Item}{cs:List aQ}{a:Act}{s:St}
theorem ends.cons{x:Item}(c:∀ id k',exitTo id (x::k')=exitTo id k'){e:Exit}(d:e≠.normal)(h:ends X S b k cs e a s):ends X S b (x::k) cs e a s:=by
 cases e with
 |normal=>exact absurd rfl d
 |exit id =>
  intro pre hp;have:=h (pre++[x]) (λk'=>by rw[dq,hp];exact c id k')
  simpa using this
 |ret=>exact h
 |panic ch=>exact h
 |goto l=>exact h
 |outgrown=>exact h
theorem fG.ctl{σ:List aW}{g g':au}(hh:aJ σ s)(d:g.status=.running)(e:∀ w,aK P X.main g w=.go g' w #[])(h:∀ c,cm s c->fG X S g' c):fG X S g s :=
 .next d λc h1=>⟨g',c,#[],e c.w,.quiet (hh.rely (X.iO h1)),h c (X.iO h1)⟩
theorem sI{σ:List aW}{f:aX}{j c:aQ}{cs:List aQ}{v:ak}{s:St}(q:aJ σ s)(h:uv P f j v s)(k:∀ d,cm s d->fG X S (G (c.finish v) cs) d):fG X S (G j (c::cs)) s:=by
 refine .next rfl λd r=>?_
 have i:=X.iO r;have g:=q.rely i;obtain⟨es,l,m⟩:=Ib (main:=X.main) (c:=c) (cs:=cs) h d.w i.mem;refine⟨_,d,es,l,⟨⟨σ,σ,g,g,.refl _ _⟩,λe n=>?_⟩,k d i⟩
 obtain⟨b,o,u,rfl,p⟩:=m e n;exact⟨rfl,rfl,.inr (.inr ⟨rfl,u,by rw[i.M];exact p⟩)⟩
theorem wh{c:Code}(I:Nat->Act->St->Prop)(i:∀ n a s,I n a s->∃ σ,aJ σ s/\∀ d,cm s d->I n a d)
  (round:∀ n a s,I n a s->(∀ a' s' m,m<n->I m a' s'->fG X S (G (b.aT a' (.inLoop c::k)) cs) s')->fG X S (G (b.aT a (.code c::.inLoop c::k)) cs) s) {n:Nat} (l:I n a s) :
  fG X S (G (b.aT a (.code (.loop c)::k)) cs) s:=by
 have key:∀ n a s,I n a s->fG X S (G (b.aT a (.inLoop c::k)) cs) s:=by
  intro n
  induction n using Nat.strongRecOn with
  |_ n o =>
   intro a s hi;obtain⟨σ,g,f⟩:=i n a s hi;exact .ctl g rfl (λw=>x3) λd h=>round n a d (f d h) λa' s' m j e=>o m j a' s' e
 obtain⟨σ,g,f⟩:=i n a s l;exact .ctl g rfl (λw=>EM) λd h=>round n a d (f d h) λa' s' m _ e=>key m a' s' e
end
def AW{P:an}(X:Cx P)(N:Nat)(c:Code)(Q:Post)(φ:Fr)(σ:List aW):Prop :=
 ∀ s a,cw N σ s φ a->aJ σ s->∀ (b:aQ) (k:List Item) (cs:List aQ) (S:au->St->Prop),b.kind≠.early ->
  (∀ e d σ' s' a',Q e d σ'->cw N σ' s' d a'->aJ σ' s'->cC σ s σ' s'->ends X S b k cs e a' s')->fG X S (G (b.aT a (.code c::k)) cs) s
def Names(all:List av):List Nat->List av->Prop
 |[],[]=>True
 |i::idx,o::rest=>all.toArray[i]?=aa o/\Names all idx rest
 |_,_=>False
def jE{P:an}(X:Cx P)(N:Nat)(all rest:List av)(Q:Fr->List aW->Prop)(φ:Fr)(σ:List aW):Prop :=
 ∀ s a,cw N σ s φ a->aJ σ s->∀ (b:aQ) (k:List Item) (cs:List aQ) (S:au->St->Prop) (idx:List Nat),b.kind≠.early->Names all idx rest ->
  (∀ c σ' s' a',Q c σ'->cw N σ' s' c a'->aJ σ' s'->cC σ s σ' s'->fG X S (G (b.aT a' k) cs) s')->fG X S (G (b.aT a (.inRegion all.toArray idx::k)) cs) s
section rules
variable {P:an}{X:Cx P}{N:Nat}{Q:Post}{φ:Fr}{σ:List aW}
theorem AW.mono{c:Code}{f:Post}(h:AW X N c Q φ σ)(l:∀ e φ σ,Q e φ σ->f e φ σ):AW X N c f φ σ :=
 λs a g hh b k cs S hb hQ=>h s a g hh b k cs S hb λe d σ' s' a' q j i st=>hQ e d σ' s' a' (l _ _ _ q) j i st
theorem AW.le{c:Code}{d:Fr}(h:AW X N c Q d σ)(hl:r7 φ d):AW X N c Q φ σ :=
 λs a e hh b k cs S hb hQ=>h s a (e.le hl) hh b k cs S hb hQ
theorem AW.skip(h:Q .normal φ σ):AW X N .skip Q φ σ:=λs a d hh b k cs S _ e =>
 .ctl hh rfl (λ_=>EL) λc h1=>e .normal φ σ c a h (d.rely h1 hh) (hh.rely h1) h1.stepW
theorem AW.ret(h:Q .ret φ σ):AW X N .ret Q φ σ:=λs a c hh b k cs S _ d=>d .ret φ σ s a h c hh (.refl _ _) k
theorem AW.exit{id:Nat}(h:Q (.exit id) φ σ):AW X N (.exit id) Q φ σ:=λs a c hh b k cs S _ d=>by
 have:=d (.exit id) φ σ s a h c hh (.refl _ _) [] (λ_=>rfl)
 simpa using this
def Fi(next:Fr->List aW->Prop)(Q:Post):Post
 |.normal,φ,σ=>next φ σ
 |e,φ,σ=>Q e φ σ
theorem AW.seq{x y:Code}(h:AW X N x (Fi (AW X N y Q) Q) φ σ):AW X N (.seq x y) Q φ σ:=by
 intro s a i hh b k cs S hb hQ;refine .ctl hh rfl (λ_=>n3) λj h1=>?_
 refine h j a (i.rely h1 hh) (hh.rely h1) b (.code y::k) cs S hb ?_;intro e l σ' s' a' q g f st;have c:=h1.stepW.trans st;cases e with
 |normal=>exact q s' a' g f b k cs S hb λe d σ2 s2 a2 q2 f2 h2 oT=>hQ e d σ2 s2 a2 q2 f2 h2 (c.trans oT)
 |_=>exact ends.cons (λ_ _=>rfl) (by simp) (hQ _ _ _ _ _ q g f c)
theorem AW.cond{c:aq}{x y:Code}{t:Bool}{u:Nat}(p:c=.tmp u)(hl:look φ u=.e (.one (.c (.bool t))))
  (m:t=ab->AW X N x Q φ σ) (l:t=ae->AW X N y Q φ σ):AW X N (.cond c x y) Q φ σ:=by
 intro s a f hh b k cs S hb hQ;have h:=f.slot u;rw[hl] at h;have j:a.eval c=.bool t:=by
  subst p;generalize j:a.tmps.getD u aj=v at h;simp only[dh,mc,gB] at h;cases h;exact j
 refine .ctl hh rfl (λ_=>u7 j) λi h1=>?_
 have g:∀ e d σ' s' a',Q e d σ'->cw N σ' s' d a'->aJ σ' s'->cC σ i σ' s'->ends X S b k cs e a' s':=λe d σ' s' a' q o n st=>hQ e d σ' s' a' q o n (h1.stepW.trans st)
 cases t
 .exact l rfl i a (f.rely h1 hh) (hh.rely h1) b k cs S hb g
 .exact m rfl i a (f.rely h1 hh) (hh.rely h1) b k cs S hb g
def zT(id:Nat)(Q:Post):Post
 |.exit HY,φ,σ=>if HY=id then Q .normal φ σ else Q (.exit HY) φ σ
 |e,φ,σ=>Q e φ σ
theorem AW.block{id:Nat}{c:Code}(h:AW X N c (zT id Q) φ σ):AW X N (.block id c) Q φ σ:=by
 intro s a m hh b k cs S hb hQ;refine .ctl hh rfl (λ_=>rD) λn h1=>?_
 refine h n a (m.rely h1 hh) (hh.rely h1) b (.inBlock id::k) cs S hb ?_;intro e g σ' s' a' q i f st;have d:=h1.stepW.trans st;cases e with
 |normal =>
  exact .ctl f rfl (λ_=>qH) λs2 h2=>hQ .normal g σ' s2 a' q (i.rely h2 f) (f.rely h2) (d.trans h2.stepW)
 |exit HY =>
  simp only[zT] at q;split at q
  .rename_i e
   subst e;intro pre hp;refine .ctl f rfl (λ_=>zm (k':=k) (by rw[hp];simp[exitTo])) λs2 h2=>?_
   exact hQ .normal g σ' s2 a' q (i.rely h2 f) (f.rely h2) (d.trans h2.stepW)
  .rename_i j
   intro pre hp;have:=hQ (.exit HY) g σ' s' a' q i f d (pre++[.inBlock id]) (λk'=>by
    rw[dq,hp];have:(id==HY)=ae:=by simp;exactλh=>j h.symm
    simp[exitTo,this])
   simpa using this
 |ret=>exact hQ _ _ _ _ _ q i f d
 |panic ch=>exact hQ _ _ _ _ _ q i f d
 |goto l=>exact hQ _ _ _ _ _ q i f d
 |outgrown=>exact hQ _ _ _ _ _ q i f d
theorem AW.loop{S:Type}{c:Code}(I:S->Prop)(fr:S->Fr)(st:S->List aW)(h:S->Nat)(x:S)(w:I x)(m:r7 φ (fr x))(i:st x=σ)
  (round:∀ x,I x->AW X N c (Fi (λo σ'=>∃ y,I y/\h y<h x/\r7 o (fr y)/\σ'=st y) Q) (fr x) (st x)):AW X N (.loop c) Q φ σ:=by
 intro s a t hh b k cs S hb hQ;subst i;refine wh (λn a' s'=>∃ y,I y/\cw N (st y) s' (fr y) a'/\aJ (st y) s'/\cC (st x) s (st y) s'/\h y=n) ?_ ?_ ⟨x,w,t.le m,hh,.refl _ _,rfl⟩
 .rintro n a' s' ⟨y,l,p,f,d,e⟩;exact⟨st y,f,λB h1=>⟨y,l,p.rely h1 f,f.rely h1,d.trans h1.stepW,e⟩⟩
 rintro n a' s' ⟨y,l,p,f,d,rfl⟩ A;refine round y l s' a' p f b (.inLoop c::k) cs S hb ?_;intro e u σ2 s2 a2 q r h2 oT;cases e with
 |normal =>
  obtain⟨z,v,j,g,rfl⟩:=q;exact A a2 s2 (h z) j ⟨z,v,r.le g,h2,d.trans oT,rfl⟩
 |_=>exact ends.cons (λ_ _=>rfl) (by simp) (hQ _ _ _ _ _ q r h2 (d.trans oT))
end rules
end Go.AM
namespace Go.AM
theorem dX.length{σ:List aW}{s:St}{vs:List ak}{cs:List A}(r:dX σ s vs cs):vs.length=cs.length:=by
 induction vs generalizing cs with
 |nil=>cases cs <;> simp_all [dX]
 |cons v vs ih =>
  cases cs with
  |nil=>simp[dX] at r
  |cons a cs=>simp[ih r.2]
theorem gB.cell{σ:List aW}{s:St}{v:ak}{a:A}(r:gB σ s v a):c8 v=ab:=by
 cases a with
 |c x=>exact Rd.cell r
 |ptr l off=>obtain⟨_,_,_,_,_,rfl⟩:=r;rfl
 |vec l k n es=>exact Rd.cell r.1
 |ref l=>obtain⟨_,_,_,_,h⟩:=r;exact h
 |bp l w=>obtain⟨_,h,_⟩:=r;exact h.cell
 |any=>exact r
theorem dX.get{σ:List aW}{s:St}{vs:List ak}{cs:List A}(r:dX σ s vs cs){j:Nat}{a:A}(h:cs[j]?=aa a):∃ v,vs[j]?=aa v/\gB σ s v a:=by
 induction vs generalizing cs j with
 |nil=>cases cs <;> simp_all [dX]
 |cons v vs ih =>
  cases cs with
  |nil=>simp[dX] at r
  |cons b cs =>
   cases j with
   |zero=>simp at h;subst h;exact⟨v,rfl,r.1⟩
   |succ j=>simp at h;obtain⟨u,c,d⟩:=ih r.2 h;exact⟨u,by simpa using c,d⟩
theorem dX.cell{σ:List aW}{s:St}{vs:List ak}{cs:List A}(r:dX σ s vs cs):∀ v∈vs,v.oneCell'=ab:=by
 induction vs generalizing cs with
 |nil=>simp
 |cons v vs ih =>
  cases cs with
  |nil=>simp[dX] at r
  |cons a cs =>
   intro u b;rcases ew.1 b with rfl|b
   .have:=gB.cell r.1;cases u <;> simp_all [c8,Value.oneCell']
   .exact ih r.2 u b
theorem dX.append{σ:List aW}{s:St}{vs vG:List ak}{cs m8:List A}(r:dX σ s vs cs)(r':dX σ s vG m8):dX σ s (vs++vG) (cs++m8):=by
 induction vs generalizing cs with
 |nil=>cases cs <;> simp_all [dX]
 |cons v vs ih =>
  cases cs with
  |nil=>simp[dX] at r
  |cons a cs=>exact⟨r.1,ih r.2⟩
theorem dX.take{σ:List aW}{s:St}{vs:List ak}{cs:List A}(r:dX σ s vs cs)(k:Nat):dX σ s (vs.take k) (cs.take k):=by
 induction vs generalizing cs k with
 |nil=>cases cs <;> simp_all [dX]
 |cons v vs ih =>
  cases cs with
  |nil=>simp[dX] at r
  |cons a cs=>cases k with
   |zero=>simp[dX]
   |succ k=>exact⟨r.1,ih r.2 k⟩
theorem dX.drop{σ:List aW}{s:St}{vs:List ak}{cs:List A}(r:dX σ s vs cs)(k:Nat):dX σ s (vs.drop k) (cs.drop k):=by
 induction vs generalizing cs k with
 |nil=>cases cs <;> simp_all [dX]
 |cons v vs ih =>
  cases cs with
  |nil=>simp[dX] at r
  |cons a cs=>cases k with
   |zero=>exact r
   |succ k=>simpa using ih r.2 k
theorem aJ.block{σ:List aW}{s:St}(h:aJ σ s){b o:Nat}{v:ak}(a:s.M b o=aa v):b<s.w.heap.size:=by
 have:=h.mem b o v a;rcases cr b s.w.heap.size with h|h
 .exact h
 .simp[aY,uO h] at this
theorem aJ.same{σ:List aW}{s:St}(h:aJ σ s){w':az}(d:w'.heap=s.w.heap):aJ σ { s with w:=w' }:=by
 have z:∀ a,w'.cell? a=s.w.cell? a:=λa=>by simp[aY,d]
 have j:∀ v a,gB σ s v a->gB σ { s with w:=w' } v a:=λv a r=>by cases a <;> exact r
 have f:∀ vs al,dX σ s vs al->dX σ { s with w:=w' } vs al:=by
  intro vs
  induction vs with
  |nil=>intro al r;cases al <;> simp_all [dX]
  |cons v vs ih=>intro al r;cases al with
   |nil=>simp[dX] at r
   |cons a al=>exact⟨j _ _ r.1,ih _ r.2⟩
 refine⟨λb o v m=>by rw[z];exact h.mem b o v m,h.len,?_,h.gb,λL f b hb=>by show b<w'.heap.size;rw[d];exact h.lt L f b hb,λb hb=>⟨by show b<w'.heap.size;rw[d];exact(h.own b hb).1,(h.own b hb).2⟩⟩
 intro l B L p i;have:=h.box l B L p i;cases B with
 |cells E cs =>
  obtain⟨b,vs,h1,h2,c,e⟩:=this;exact⟨b,vs,h1,by show w'.heap[b]?=_;rw[d];exact h2,f _ _ c,e⟩
 |vec E k n es =>
  obtain⟨h1,h2⟩:=this;refine⟨h1,?_⟩;rcases h2 with h2|⟨b,cap,vs,h2,c,e,g⟩
  .exact .inl h2
  .exact .inr ⟨b,cap,vs,h2,by show w'.heap[b]?=_;rw[d];exact c,e,g⟩
 |dM H =>
  obtain⟨ch,h1,h2,c,e⟩:=this;exact⟨ch,h1,λb o hb=>by show w'.heap[b]?=_;rw[d];exact h2 b o hb,c,e⟩
 |dead=>trivial
 |loop N φ r =>
  obtain⟨l,tmps,fn,q,h1,h2,c,e,g⟩:=this;exact⟨l,tmps,fn,q,h1,by show w'.heap[l]?=_;rw[d];exact h2,c,λt=>dh.mono (s:=s) (σ':=σ) (s':={ s with w:=w' }) ⟨λ_ _ _ h=>h,λ_ B L h x=>⟨B,L,h,x,.refl _ _⟩⟩ h.len (e t),g⟩
 |rC =>
  obtain⟨r,h1,h2,c⟩:=this;exact⟨r,h1,by show w'.heap[r]?=_;rw[d];exact h2,c⟩
 |buf E k n es =>
  rcases this with h1|⟨b,u,vs,y,h1,h2,c⟩
  .exact .inl h1
  .exact .inr ⟨b,u,vs,y,h1,by show w'.heap[b]?=_;rw[d];exact h2,c⟩
theorem Step.same{σ:List aW}{s:St}{w':az}(a:w'.heap=s.w.heap)(f:w'.os=s.w.os)(d:w'.tape=s.w.tape)(c:w'.output=s.w.output):Step σ s σ { s with w:=w' } :=
 ⟨by show s.w.heap.size<=w'.heap.size;rw[a];exact ba _,λb _ _=>by show w'.heap[b]?=_;rw[a],λ_ _ _ h=>h,λ_ _ _ _=>rfl,λL h b hb=>.inr ⟨L,h,hb⟩,λ_ B L h e=>⟨B,L,h,e,.refl _ _⟩,f,d,c,rfl⟩
theorem eZ.carry{σ σ':List aW}{s s':St}{B:aW}{L:Loc}(i:Ext σ s σ' s')(hl:s.β.length=σ.length)(hb:∀ b∈L.bs,s'.w.heap[b]?=s.w.heap[b]?/\∀ o,s'.M b o=s.M b o)(h:eZ σ s B L):eZ σ' s' B L:=by
 cases B with
 |cells E cs =>
  obtain⟨b,vs,h1,h2,a,d⟩:=h;subst h1;obtain⟨k1,e⟩:=hb b (by simp)
  exact⟨b,vs,rfl,by rw[k1,h2],a.mono i hl,λo=>by rw[e,d]⟩
 |vec E k n es =>
  obtain⟨h1,h2⟩:=h;refine⟨h1.mono i.mem,?_⟩;rcases h2 with⟨h2,a⟩|⟨b,cap,vs,h2,a,d,g⟩
  .exact .inl ⟨h2,a.mono i.mem⟩
  .subst h2;obtain⟨k1,e⟩:=hb b (by simp)
   exact .inr ⟨b,cap,vs,rfl,by rw[k1,a],d,λo v=>by rw[e,g o v]⟩
 |dM H =>
  obtain⟨ch,h1,h2,a,d⟩:=h;refine⟨ch,h1,λb o f=>?_,a,λb c o=>by rw[(hb b c).2,d b c]⟩
  have c:b∈L.bs:=(a b).2 (by simp[f])
  rw[(hb b c).1,h2 b o f]
 |dead=>trivial
 |loop N φ r =>
  obtain⟨l,tmps,fn,m,h1,h2,a,d,g⟩:=h;subst h1;obtain⟨k1,e⟩:=hb l (by simp)
  exact⟨l,tmps,fn,m,rfl,by rw[k1,h2],a,λt=>(d t).mono i hl,λo=>by rw[e,g]⟩
 |rC =>
  obtain⟨r,h1,h2,a⟩:=h;subst h1;obtain⟨k1,e⟩:=hb r (by simp)
  exact⟨r,rfl,by rw[k1,h2],λo=>by rw[e,a]⟩
 |buf E k n es =>
  rcases h with h1|⟨b,j,vs,u,h1,h2,a,d,g,q,p⟩
  .exact .inl h1
  .subst h1;obtain⟨k1,e⟩:=hb b (by simp)
   exact .inr ⟨b,j,vs,u,rfl,by rw[k1,h2],a,d,g,q.mono i.mem,λo=>by rw[e,p]⟩
def St.fX(s:St)(E:ar)(vs:List ak):St :=
 { β:=s.β++[⟨.pointer (aa ⟨s.w.heap.size,0,af⟩),[s.w.heap.size]⟩],M:=s.M,w:=s.w.alloc (.cells vs.toArray E),own:=s.own }
theorem cN(w:az)(o:Obj){b:Nat}(h:b<w.heap.size):(w.alloc o).heap[b]?=w.heap[b]?:=by
 show (w.heap.push o)[b]?=w.heap[b]?;rw[Array.getElem?_push,aO (by omega)]
theorem dE(w:az)(o:Obj):(w.alloc o).heap[w.heap.size]?=aa o:=by
 show (w.heap.push o)[w.heap.size]?=aa o;simp
theorem Step.fX{σ:List aW}(s:St)(E:ar)(vs:List ak)(B:aW):Step σ s (σ++[B]) (s.fX E vs):=by
 refine⟨by simp[St.fX],?_,λ_ _ _ h=>h,λ_ _ _ _=>rfl,?_,?_,rfl,rfl,rfl,rfl⟩
 .intro b hb _;exact cN _ _ hb
 .intro L a b hb;simp only[St.fX,dr,fV] at a;rcases a with a|rfl
  .exact .inr ⟨L,a,hb⟩
  .simp at hb;omega
 .intro l B' L c a;have hl:l<s.β.length:=(bt.1 a).1;have d:l<σ.length:=(bt.1 c).1;exact⟨B',L,by rw[b7 d,c],by simp only[St.fX];rw[b7 hl,a],.refl _ _⟩
theorem aJ.fX{σ:List aW}{s:St}(h:aJ σ s){E:ar}{vs:List ak}{cs:List A}(r:dX σ s vs cs):aJ (σ++[.cells E cs]) (s.fX E vs):=by
 have st:=Step.fX (σ:=σ) s E vs (.cells E cs);have g:(s.fX E vs).w.heap.size=s.w.heap.size+1:=by simp[St.fX]
 refine⟨?_,by simp[St.fX,h.len],?_,?_,?_,?_⟩
 .intro b o v e;have hb:=h.block e;have:=h.mem b o v e;rw[<-this];simp only[aY,St.fX];rw[cN _ _ hb]
 .intro l B L d a;rcases uU l σ.length with c|rfl|j
  .rw[b7 c] at d;simp only[St.fX] at a;rw[b7 (by rw[h.len];exact c)] at a
   refine(h.box l B L d a).carry st.ext h.len λb hb=>⟨?_,λ_=>rfl⟩
   have:=h.lt L (bz a) b hb;exact cN _ _ this
  .simp at d;subst d;simp only[St.fX] at a;rw[dg (by rw[h.len];exact ba _)] at a
   simp[h.len] at a;subst a;refine⟨s.w.heap.size,vs,rfl,dE _ _,r.mono st.ext h.len,λo=>?_⟩
   cases e:s.M s.w.heap.size o with
   |none=>exact e
   |some v=>have:=h.block e;omega
  .rw[dg (by omega)] at d
   have:l-σ.length≠0:=by omega
   cases k:l-σ.length with
   |zero=>omega
   |succ n=>simp[k] at d
 .intro l l' L L' a i b hb oP;simp only[St.fX] at a i;have f:∀ l L,(s.β++[⟨.pointer (aa ⟨s.w.heap.size,0,af⟩),[s.w.heap.size]⟩])[l]?=aa L->(s.β[l]?=aa L)∨(l=s.β.length/\L.bs=[s.w.heap.size]):=by
   intro l L a;rcases uU l s.β.length with c|rfl|j
   .rw[b7 c] at a;exact .inl a
   .simp at a;subst a;exact .inr ⟨rfl,rfl⟩
   .rw[dg (by omega)] at a
    cases k:l-s.β.length with
    |zero=>omega
    |succ n=>simp[k] at a
  rcases f l L a with h1|⟨rfl,h1⟩ <;> rcases f l' L' i with h2|⟨rfl,h2⟩
  .exact h.gb l l' L L' h1 h2 b hb oP
  .have:=h.lt L (bz h1) b hb;rw[h2] at oP;simp at oP;omega
  .have:=h.lt L' (bz h2) b oP;rw[h1] at hb;simp at hb;omega
  .rfl
 .intro L a b hb;rw[g];simp only[St.fX,dr,fV] at a;rcases a with a|rfl
  .have:=h.lt L a b hb;omega
  .simp at hb;omega
 .intro b hb;obtain⟨p,m⟩:=h.own b hb;refine⟨by rw[g];omega,λL a=>?_⟩
  simp only[St.fX,dr,fV] at a;rcases a with a|rfl
  .exact m L a
  .simp;omega
theorem aJ.grow{σ:List aW}{s:St}(h:aJ σ s){M':Mem}{w':az}(a:s.w.heap.size<=w'.heap.size)(f:∀ b,b<s.w.heap.size->w'.heap[b]?=s.w.heap[b]?)
  (e:∀ b,b<s.w.heap.size->∀ o,M' b o=s.M b o) (m:∀ b,s.w.heap.size<=b->∀ o v,M' b o=aa v->w'.cell? ⟨b,o,af⟩=aa v)
  (n:w'.os=s.w.os) (j:w'.tape=s.w.tape) (g:w'.output=s.w.output):aJ σ ⟨s.β,M',w',s.own⟩/\Step σ s σ ⟨s.β,M',w',s.own⟩:=by
 have st:Step σ s σ ⟨s.β,M',w',s.own⟩ :=
  ⟨a,λb hb _=>f b hb,λb o v c=>by rw[<-c];exact e b (h.block c) o,λb hb _ o=>e b hb o,λL h b hb=>.inr ⟨L,h,hb⟩,λ_ B L h k=>⟨B,L,h,k,.refl _ _⟩,n,j,g,rfl⟩
 refine⟨⟨?_,h.len,?_,h.gb,λL d b hb=>cz (h.lt L d b hb) a,λb hb=>⟨cz (h.own b hb).1 a,(h.own b hb).2⟩⟩,st⟩
 .intro b o v c;rcases cr b s.w.heap.size with hb|hb
  .have hm':s.M b o=aa v:=by rw[<-e b hb o];exact c
   rw[<-h.mem b o v hm'];simp only[aY];rw[f b hb]
  .exact m b hb o v c
 .intro l B L i d;exact(h.box l B L i d).carry st.ext h.len λb hb=>⟨f b (h.lt L (bz d) b hb),λo=>e b (h.lt L (bz d) b hb) o⟩
theorem aJ.write{σ:List aW}{s:St}(h:aJ σ s){l b:Nat}{L:Loc}{E:ar}{cs m8:List A}{a:List ak}(g:σ[l]?=aa (.cells E cs))(c:s.β[l]?=aa L)(f:L.bs=[b])
  (r:dX σ s a m8):aJ (σ.set l (.cells E m8)) { s with w:=s.w.setRow b a.toArray }/\Step σ s (σ.set l (.cells E m8)) { s with w:=s.w.setRow b a.toArray }:=by
 have d:l<σ.length:=(bt.1 g).1;obtain⟨m,vs,h1,h2,p,n⟩:=h.box l _ L g c;subst h1;simp at f;subst f;have st:Step σ s (σ.set l (.cells E m8)) { s with w:=s.w.setRow m a.toArray }:=by
  refine⟨by simp,?_,λ_ _ _ h=>h,λ_ _ _ _=>rfl,λL h b hb=>.inr ⟨L,h,hb⟩,?_,rfl,rfl,rfl,rfl⟩
  .intro b hb hn;exact setRow_other _ _ _ _ (λe=>hn _ (bz c) (by simp[e]))
  .intro l' B L' lb hU
   by_cases e:l=l'
   .subst e;rw[g] at lb;cases lb;exact⟨_,L',by rw[cf d],hU,by simp[iN]⟩
   .exact⟨B,L',by rw[cQ e];exact lb,hU,.refl _ _⟩
 refine⟨⟨?_,by simp[h.len],?_,h.gb,λL c b hb=>by simpa using h.lt L c b hb,λb hb=>by simpa using h.own b hb⟩,st⟩
 .intro b o v i;have j:b≠m:=λe=>by subst e;rw[n] at i;cases i
  rw[<-h.mem b o v i];simp only[aY];rw[setRow_other _ _ _ _ j]
 .intro l' B L' lb hU
  by_cases e:l=l'
  .subst e;rw[cf d] at lb;cases lb;rw[c] at hU;cases hU;exact⟨m,a,rfl,setRow_heap _ _ _ _ _ _ h2,r.mono st.ext h.len,n⟩
  .rw[cQ e] at lb;refine(h.box l' B L' lb hU).carry st.ext h.len λb hb=>⟨setRow_other _ _ _ _ λk=>?_,λ_=>rfl⟩
   subst k;exact e (h.gb l l' _ L' c hU b (by simp) hb)
end Go.AM
namespace Go.AM
open Go.Conc (G)
def Qs(σ:List aW)(s:St):Next->D->Prop
 |.value v,x=>dh σ s v x
 |.skip,x=>x=.any
 |_,_=>False
def bR(P:an)(o:av)(b:aq->D)(σ:List aW)(x:D)(σ':List aW):Prop :=
 ∀ s ρ,aJ σ s->(∀ y,dh σ s (ρ y) (b y))->∃ a s',(aw ρ o).run P s.w=.ok a s'.w/\Qs σ' s' a x/\aJ σ' s'/\Step σ s σ' s'/\ft s ((aw ρ o).events P s.w #[])
theorem bR.n5{P:an}{o:av}{a:aq->D}{σ:List aW}{x:D}
  (h:∀ s ρ,aJ σ s->(∀ y,dh σ s (ρ y) (a y))->∃ v,(aw ρ o).run P s.w=.ok (.value v) s.w/\dh σ s v x/\ft s ((aw ρ o).events P s.w #[])):bR P o a σ x σ :=
 λs ρ hh hr=>let ⟨v,h1,h2,b⟩:=h s ρ hh hr;⟨.value v,s,h1,h2,hh,.refl _ _,b⟩
theorem bR.quiet{P:an}{o:av}{a:aq->D}{σ:List aW}{x:D}
  (h:∀ s ρ,aJ σ s->(∀ y,dh σ s (ρ y) (a y))->∃ v,(aw ρ o).run P s.w=.ok (.value v) s.w/\dh σ s v x/\(aw ρ o).events P s.w #[]=#[]):bR P o a σ x σ :=
 λs ρ hh hr=>let ⟨v,h1,h2,b⟩:=h s ρ hh hr;⟨.value v,s,h1,h2,hh,.refl _ _,by rw[b];exact .nil⟩
def M1:IntKind->Int->Bool
 |.i64,.ofNat m=>bw m 9223372036854775807
 |.i64,.negSucc m=>bw m 9223372036854775807
 |.u8,.ofNat m=>bw m 255
 |.i32,.ofNat m=>bw m 2147483647
 |.i32,.negSucc m=>bw m 2147483647
 |.u64,.ofNat m=>bw m 18446744073709551615
 |.u32,.ofNat m=>bw m 4294967295
 |_,_=>ae
theorem Qw{k:IntKind}{n:Int}(h:M1 k n=ab):bD k n:=by
 cases k <;> cases n <;> simp only[M1,bD] at h ⊢ <;> first|(cases h;done)|(have:=dn h;simp only[Int.ofNat_eq_natCast,Int.negSucc_eq];omega)
def ql:ak->Option C
 |.int k n=>cond (M1 k n) (aa (.int k n)) af
 |.bool b=>aa (.bool b)
 |.string s=>cond (bw s.size 9223372036854775807) (aa (.str s.data.toList)) af
 |.slice af 0 0=>aa (.sl ab 0 0 (λ_=>[]))
 |.pointer af=>aa .mb
 |.nilIface=>aa .n8
 |.nilFunc=>aa .zr
 |.map m=>aa (.val (.map m))
 |_=>af
theorem Rd.jM{M:Mem}{t:Bool}{k:Nat}{a:Option Addr}{es:Nat->List C}:Rd M (.slice a 0 0) (.sl t k 0 es) :=
 Rd.sl 0 0 (λ_ _=>aj) (ba _) (by omega) (λ_=>rfl) (by omega) (by omega) (by omega) (by omega)
theorem Rd.ql{M:Mem}{v:ak}{c:C}(h:ql v=aa c):Rd M v c:=by
 unfold AM.ql at h;split at h <;> first
  |(rename_i k n;cases hb:M1 k n <;> rw[hb] at h <;> cases h;exact .int (Qw hb))
  |(rename_i s;cases hb:bw s.size 9223372036854775807 <;> rw[hb] at h <;> cases h;exact .str rfl (by rw[gZ];exact dn hb))
  |(cases h;done)
  |(cases h;exact .bool)
  |(cases h;exact Rd.jM)
  |(cases h;exact .mb)
  |(cases h;exact .n8)
  |(cases h;exact .zr)
  |(cases h;exact .val rfl)
def dOf:Option C->D
 |some c=>.e (.one (.c c))
 |none=>.any
def cj(φ:Fr):aq->D
 |.tmp t=>look φ t
 |.const v=>dOf (ql v)
 |.func f=>.e (.one (.c (.fn (.func f) [] [])))
 |.global _=>.any
theorem eP{N:Nat}{σ:List aW}{s:St}{φ:Fr}{a:Act}(f:cw N σ s φ a)(y:aq):dh σ s (a.eval y) (cj φ y):=by
 cases y with
 |tmp t=>exact f.slot t
 |const v =>
  simp only[cj,Act.eval];cases h:ql v with
  |none=>trivial
  |some c=>exact Rd.ql h
 |func g =>
  exact Rd.fn [] [] rfl rfl (λ_=>aj) (λ_=>aj) (by simp) (by simp) (by simp) (by simp)
 |global g=>trivial
def m9:Option Nat->D->Fr->Fr
 |some t,x,φ=>(t,x)::φ
 |none,_,φ=>φ
theorem zO{P:an}{X:Cx P}{S:au->St->Prop}{b:aQ}{k:List Item}{cs:List aQ}{a:Act}{s:St}{ops:Array av}{i:Nat}{rest:List Nat}{o:av}(g:b.kind≠.early)(m:ops[i]?=aa o)(f:bk o (yielded ops a.tmps)=ab)
  (h:∀ c,cm s c->∃ d s' v,(aw a.eval o).run P c.w=.ok d s'.w/\(d=.value v∨(d=.skip/\v=aj))/\qG c s' ((aw a.eval o).events P c.w #[])/\fG X S (G (b.aT (a.put o.dst v) (.inRegion ops rest::k)) cs) s') :
  fG X S (G (b.aT a (.inRegion ops (i::rest)::k)) cs) s:=by
 refine .next rfl λc p=>?_
 obtain⟨d,s',v,l,e,j,n⟩:=h c (X.iO p);refine⟨_,s',Go.Conc.listed P b.fn a o c.w,?_,⟨j.1,j.2.seen⟩,n⟩;rcases e with rfl|⟨rfl,rfl⟩
 .exact Ia m f g l
 .exact EN m f g l
theorem bR.move{P:an}{o:av}{a:aq->D}{σ:List aW}{x:aq}(h:o.op=.move x):bR P o a σ (a x) σ :=
 .quiet λs ρ _ b=>⟨ρ x,by simp[aw,h,pure],b x,by simp[aw,h]⟩
theorem bR.assign{P:an}{o:av}{a:aq->D}{σ:List aW}{x:aq}(h:o.op=.assign x):bR P o a σ (a x) σ :=
 .quiet λs ρ _ b=>⟨ρ x,by simp[aw,h,pure],b x,by simp[aw,h]⟩
theorem ga{σ:List aW}{s:St}{v:ak}{c:C}(h:dh σ s v (.e (.one (.c c)))):Rd s.M v c:=h
theorem bR.pick{P:an}{o:av}{d:aq->D}{σ:List aW}{c a b:aq}(h:o.op=.pick c a b){t:Bool}(i:d c=.e (.one (.c (.bool t)))) :
  bR P o d σ (match t with|true=>d a|false=>d b) σ:=by
 refine .quiet λs ρ _ g=>?_
 have h1:=g c;rw[i] at h1;have h2:=ga h1;generalize f:ρ c=v at h2;cases h2;cases t
 .exact⟨ρ b,by simp[aw,h,f,asBool],g b,by simp[aw,h,f,asBool]⟩
 .exact⟨ρ a,by simp[aw,h,f,asBool],g a,by simp[aw,h,f,asBool]⟩
def Jr(op:BinOp)(k:IntKind) (x y:Int):Option (C×List Prop) :=
 match op with
 |.add=>aa (.int k (x+y),[bD k (x+y)])
 |.sub=>aa (.int k (x-y),[bD k (x-y)])
 |.mul=>aa (.int k (x*y),[bD k (x*y)])
 |.quo=>aa (.int k (x / y),[0<=x,0<y])
 |.rem=>aa (.int k (x % y),[0<=x,0<y])
 |.eql=>aa (.bool (x==y),[])
 |.neq=>aa (.bool (x != y),[])
 |.lss=>aa (.bool (decide (x<y)),[])
 |.leq=>aa (.bool (decide (x<=y)),[])
 |.gtr=>aa (.bool (decide (y<x)),[])
 |.geq=>aa (.bool (decide (y<=x)),[])
 |_=>af
def Js(op:BinOp)(x y:List UInt8):Option (C×List Prop) :=
 match op with
 |.add=>aa (.str (x++y),[x.length+y.length<=9223372036854775807])
 |.eql=>aa (.bool (x==y),[])
 |.neq=>aa (.bool (!(x==y)),[])
 |.lss=>aa (.bool (bj x y),[])
 |.leq=>aa (.bool (bj x y||x==y),[])
 |.gtr=>aa (.bool (!(bj x y||x==y)),[])
 |.geq=>aa (.bool (!(bj x y)),[])
 |_=>af
def ai:List Prop->Prop
 |[]=>True
 |[p]=>p
 |p::q::r=>p/\ai (q::r)
theorem ai.cons{p:Prop}{r:List Prop}:ai (p::r)↔p/\ai r:=by cases r <;> simp[ai]
theorem mx{k:IntKind}{n:Int}(h:bD k n):k.wrap n=n:=by
 cases k <;> simp only[bD,IntKind.wrap,IntKind.bits,IntKind.signed] at h ⊢ <;> simp <;> (try split) <;> omega
theorem Jt{P:an}{w:az}{op:BinOp}{k:IntKind}{x y:Int}{c:C}{obs:List Prop}(h:Jr op k x y=aa (c,obs))(a:ai obs)(j:bD k x)(i:bD k y)(t:ar)(M:Mem) :
  ∃ v,(binOp op t (.int k x) (.int k y)).run P w=.ok v w/\Rd M v c:=by
 cases op <;> simp only[Jr,cV,kB,reduceCtorEq] at h
 case add=>obtain⟨rfl,rfl⟩:=h;exact⟨_,by simp only[binOp,cW,fH,bH,Op.intArith,mx a];rfl,.int a⟩
 case sub=>obtain⟨rfl,rfl⟩:=h;exact⟨_,by simp only[binOp,cW,fH,bH,Op.intArith,mx a];rfl,.int a⟩
 case mul=>obtain⟨rfl,rfl⟩:=h;exact⟨_,by simp only[binOp,cW,fH,bH,Op.intArith,mx a];rfl,.int a⟩
 case quo =>
  obtain⟨rfl,rfl⟩:=h;obtain⟨d,b⟩:=a
  replace b:0<y:=b
  have e:x.tdiv y=x / y:=Int.tdiv_eq_ediv_of_nonneg d;have f:bD k (x / y):=by
   have g:0<=x / y:=Int.ediv_nonneg d (by omega)
   have l:x / y<=x:=Int.ediv_le_self _ d;cases k <;> simp only[bD] at j ⊢ <;> omega
  exact⟨_,by simp only[binOp,cW,fH,bH,Op.intDiv,show y≠0 by omega,e,mx f];rfl,.int f⟩
 case rem =>
  obtain⟨rfl,rfl⟩:=h;obtain⟨d,b⟩:=a
  replace b:0<y:=b
  have e:x.tmod y=x % y:=Int.tmod_eq_emod_of_nonneg d;have f:bD k (x % y):=by
   have g:0<=x % y:=rq _ (by omega)
   have l:x % y<y:=rj _ b;cases k <;> simp only[bD] at i ⊢ <;> omega
  exact⟨_,by simp only[binOp,cW,fH,bH,Op.intDiv,show y≠0 by omega,e];rfl,.int f⟩
 all_goals (obtain⟨rfl,rfl⟩:=h;exact⟨_,by simp only[binOp,cW,fH,bH,Op.intCmp,gt_iff_lt,ge_iff_le];rfl,.bool⟩)
theorem Ju{P:an}{w:az}{op:BinOp}{x y:ByteArray}{a b:List UInt8}{c:C}{obs:List Prop}(h:Js op a b=aa (c,obs))(d:ai obs)(j:x.data.toList=a)(i:y.data.toList=b)(t:ar)(M:Mem) :
  ∃ v,(binOp op t (.string x) (.string y)).run P w=.ok v w/\Rd M v c:=by
 subst j i;cases op <;> simp only[Js,cV,kB,reduceCtorEq] at h
 case add =>
  obtain⟨rfl,rfl⟩:=h;have f:¬((x.size+y.size:Nat):Int)>IntKind.i64.max:=by
   have l:x.data.toList.length=x.size:=gZ;have k:y.data.toList.length=y.size:=gZ;have e:IntKind.i64.max=9223372036854775807:=rfl;have g:x.data.toList.length+y.data.toList.length<=9223372036854775807:=d;rw[e];omega
  refine⟨_,by simp only[binOp,Op.stringOp,f,bH];rfl,.str (by simp) (by simpa[ai] using d)⟩
 all_goals (obtain⟨rfl,rfl⟩:=h;exact⟨_,by simp only[binOp,Op.stringOp,ByteArray.toList_eq];rfl,.bool⟩)
theorem M3{P:an}{w:az}{op:BinOp}{k:IntKind}{x y:Int}{c:C}{obs:List Prop}(h:Jr op k x y=aa (c,obs))(b:ai obs)(t:ar) :
  (binOp op t (.int k x) (.int k y)).events P w #[]=#[]:=by
 cases op <;> simp only[Jr,cV,kB,reduceCtorEq] at h
 case quo =>
  obtain⟨rfl,rfl⟩:=h;obtain⟨d,a⟩:=b
  replace a:0<y:=a
  simp only[binOp,cW,fH,bH,Op.intDiv,show y≠0 by omega];rfl
 case rem =>
  obtain⟨rfl,rfl⟩:=h;obtain⟨d,a⟩:=b
  replace a:0<y:=a
  simp only[binOp,cW,fH,bH,Op.intDiv,show y≠0 by omega];rfl
 all_goals (simp only[binOp,cW,fH,bH,Op.intCmp,Op.intArith];rfl)
theorem M4{P:an}{w:az}{op:BinOp}{x y:ByteArray}{a b:List UInt8}{c:C}{obs:List Prop}(h:Js op a b=aa (c,obs))(j:ai obs)(i:x.data.toList=a)(g:y.data.toList=b)(t:ar) :
  (binOp op t (.string x) (.string y)).events P w #[]=#[]:=by
 subst i g;cases op <;> simp only[Js,cV,kB,reduceCtorEq] at h
 case add =>
  obtain⟨rfl,rfl⟩:=h;have d:¬((x.size+y.size:Nat):Int)>IntKind.i64.max:=by
   have l:x.data.toList.length=x.size:=gZ;have k:y.data.toList.length=y.size:=gZ;have e:IntKind.i64.max=9223372036854775807:=rfl;have f:x.data.toList.length+y.data.toList.length<=9223372036854775807:=j;rw[e];omega
  simp only[binOp,Op.stringOp,d,bH];rfl
 all_goals (simp only[binOp,Op.stringOp];rfl)
def Gr:IntKind->IntKind->Bool
 |.i8,.i8|.i16,.i16|.i32,.i32|.i64,.i64|.u8,.u8|.u16,.u16|.u32,.u32|.u64,.u64=>ab
 |_,_=>ae
theorem zU{k k':IntKind}(h:Gr k k'=ab):k=k':=by cases k <;> cases k' <;> first|rfl|(cases h;done)
def ME(op:BinOp):C->C->Option (C×List Prop)
 |.int k x,.int k' y=>cond (Gr k k') (Jr op k x y) af
 |.str a,.str b=>Js op a b
 |_,_=>af
theorem gD{P:an}(op:BinOp)(t:ar)(x y:aq)(k k':IntKind) (n a:Int)(u:az):(eqGuard op t x y (.int k n) (.int k' a)).run P u=.ok () u:=by cases op <;> rfl
theorem tV{P:an}(op:BinOp)(t:ar)(x y:aq)(a b:ByteArray)(u:az):(eqGuard op t x y (.string a) (.string b)).run P u=.ok () u:=by cases op <;> rfl
theorem jO{P:an}(op:BinOp)(t:ar)(x y:aq)(k k':IntKind) (n a:Int)(u:az)(es:Array Event):(eqGuard op t x y (.int k n) (.int k' a)).events P u es=es:=by cases op <;> rfl
theorem wu{P:an}(op:BinOp)(t:ar)(x y:aq)(a b:ByteArray)(u:az)(es:Array Event):(eqGuard op t x y (.string a) (.string b)).events P u es=es:=by cases op <;> rfl
theorem bR.binOp{P:an}{o:av}{j:aq->D}{σ:List aW}{op:BinOp}{t ty:ar}{x y:aq}(h:o.op=.binOp op t x y ty){a b c:C}{obs:List Prop}
  (z:j x=.e (.one (.c a))) (hb:j y=.e (.one (.c b))) (g:ME op a b=aa (c,obs)) (i:ai obs):bR P o j σ (.e (.one (.c c))) σ:=by
 refine .quiet λs ρ _ r=>?_
 have h1:=r x;have h2:=r y;rw[z] at h1;rw[hb] at h2
 replace h1:=ga h1
 replace h2:=ga h2
 generalize d:ρ x=vx at h1;generalize f:ρ y=vy at h2;cases h1 <;> cases h2 <;> simp only[ME,reduceCtorEq] at g
 case int.int k n hn k' n' Wo =>
  cases q:Gr k k' <;> simp only[q,cond,reduceCtorEq] at g
  cases zU q;obtain⟨v,p,m⟩:=Jt (P:=P) (w:=s.w) g i hn Wo t s.M;exact⟨v,by simp only[aw,h,bZ,d,f,gD,cg,p,c7],m,by simp[aw,h,d,f,gD,jO,M3 g i]⟩
 case str.str =>
  rename_i A l u hl y' l' hy zk
  obtain⟨v,p,m⟩:=Ju (P:=P) (w:=s.w) g i u hy t s.M;exact⟨v,by simp only[aw,h,bZ,d,f,tV,cg,p,c7],m,by simp[aw,h,d,f,tV,wu,M4 g i u hy]⟩
def VC(op:UnOp):C->Option C
 |.bool b=>match op with|.not=>aa (.bool (!b))|_=>af
 |_=>af
theorem bR.unOp{P:an}{o:av}{f:aq->D}{σ:List aW}{op:UnOp}{t:ar}{x:aq}(h:o.op=.unOp op t x){a c:C}
  (g:f x=.e (.one (.c a))) (d:VC op a=aa c):bR P o f σ (.e (.one (.c c))) σ:=by
 refine .quiet λs ρ _ i=>?_
 have h1:=i x;rw[g] at h1
 replace h1:=ga h1
 generalize b:ρ x=vx at h1;cases h1 <;> simp only[VC,reduceCtorEq] at d
 cases op <;> simp only[reduceCtorEq,cV] at d
 subst d;exact⟨_,by simp only[aw,h,b,Op.unary,bZ,c7,cg],Rd.bool,by simp[aw,h,b,Op.unary]⟩
theorem gI.get{σ:List aW}{s:St}{vs:List ak}{xs:List E1}(r:gI σ s vs xs){j:Nat}{x:E1}(h:xs[j]?=aa x):∃ v,vs[j]?=aa v/\mc σ s v x:=by
 induction vs generalizing xs j with
 |nil=>cases xs <;> simp_all [gI]
 |cons v vs ih =>
  cases xs with
  |nil=>simp[gI] at r
  |cons b cs =>
   cases j with
   |zero=>simp at h;subst h;exact⟨v,rfl,r.1⟩
   |succ j=>simp at h;obtain⟨u,a,c⟩:=ih r.2 h;exact⟨u,by simpa using a,c⟩
theorem bR.extract{P:an}{o:av}{c:aq->D}{σ:List aW}{x:aq}{j:Nat}(h:o.op=.extract x j){xs:List E1}{e:E1}
  (d:c x=.fW xs) (g:xs[j]?=aa e):bR P o c σ (.e e) σ:=by
 refine .quiet λs ρ _ i=>?_
 have h1:=i x;rw[d] at h1;obtain⟨vs,k,f⟩:=h1;obtain⟨v,a,b⟩:=f.get g;refine⟨v,?_,b,?_⟩ <;> simp[aw,h,k,Instr.extract,a]
end Go.AM
namespace Go.AM
def zl (b o:Nat):Event:=⟨.cell ⟨b,o,af⟩,ae,ae⟩
def F6 (b o:Nat):Event:=⟨.cell ⟨b,o,af⟩,ab,ae⟩
theorem di (b o n:Nat):(⟨b,o,af⟩:Addr).add n=⟨b,o+n,af⟩:=by
  unfold Addr.add;split <;> simp_all
section
variable {P:an}
theorem zq {w:az} {b o:Nat} {v:ak} (h:w.cell? ⟨b,o,af⟩=aa v) (es:Array Event):(load ⟨b,o,af⟩).events P w es=es.push (zl b o):=by
  rw[events_load,h];rfl
theorem nt {w:az} {b o:Nat}:∀ (n i:Nat) (acc:Array ak) (es:Array Event),(∀ j,j<n->∃ v,w.cell? ⟨b,o+(i+j),af⟩=aa v) ->
    ∀ e∈(loadCellsFrom ⟨b,o,af⟩ i n acc).events P w es,e∈es∨∃ j,j<i+n/\e=zl b (o+j)
  | 0,i,acc,es,_=>λe h=>.inl (by simpa[loadCellsFrom] using h)
  | n+1,i,acc,es,d=>λe h=>by
    obtain⟨v,c⟩:=d 0 (by omega)
    simp only[gG] at c;simp only[loadCellsFrom,aP,di,run_load,c,aV,zq c] at h;rcases nt n (i+1) (acc.push v) _ (λj f=>by have:=d (j+1) (by omega);rwa [show i+1+j=i+(j+1) by omega]) e h with a|⟨j,f,rfl⟩
    · rcases rr.1 a with a|rfl
      · exact .inl a
      · exact .inr ⟨i,by omega,rfl⟩
    · exact .inr ⟨j,by omega,rfl⟩
theorem rB {w:az} {b o n:Nat} {es:Array Event} (h:∀ j,j<n->∃ v,w.cell? ⟨b,o+j,af⟩=aa v):∀ e∈(loadCells ⟨b,o,af⟩ n).events P w es,e∈es∨∃ j,j<n/\e=zl b (o+j):=by
  intro e a;have:=nt (P:=P) n 0 #[] es (by simpa using h) e a
  simpa using this
theorem eN {b o:Nat} {t:ar}:∀ (vs:List ak) (i:Nat) (a:Array ak) (w:az) (es:Array Event),w.heap[b]?=aa (.cells a t (0,0))->o+i+vs.length<=a.size->(∀ v∈vs,v.oneCell'=ab) ->
    ∀ e∈(storeCells ⟨b,o,af⟩ vs i).events P w es,e∈es∨∃ j,i<=j/\j<i+vs.length/\e=F6 b (o+j)
  | [],_,_,_,_,_,_,_=>λe h=>.inl (by simpa[storeCells] using h)
  | v::rest,i,a,w,es,f,n,m=>λe h=>by
    have hi:o+i<a.size:=by simp at n;omega
    have c:w.cell? ⟨b,o+i,af⟩=aa a[o+i]:=by simp[aY,f,hi]
    have d:w.frozen? ⟨b,o+i,af⟩=ae:=by simp[World.frozen?,f]
    have l:(store (⟨b,o+i,af⟩:Addr) v).run P w=.ok () (w.setRow b (a.setIfInBounds (o+i) v)):=by
      rw[run_store P w _ v _ (m v (by simp)),c]
      simp[d,setCell_eq_setRow w b (o+i) a t (0,0) v f]
    have k:(store (⟨b,o+i,af⟩:Addr) v).events P w es=es.push (F6 b (o+i)):=by
      rw[events_store P w es _ v _ (m v (by simp)),c]
      simp only[d,gi,bH];rfl
    simp only[storeCells,aP,di,l,k,aV] at h;rcases eN rest (i+1) (a.setIfInBounds (o+i) v) _ _ (setRow_heap _ _ _ _ _ _ f) (by simp at n ⊢;omega) (λu p=>m u (by simp[p])) e h with g|⟨j,r,q,rfl⟩
    · rcases rr.1 g with g|rfl
      · exact .inl g
      · exact .inr ⟨i,ba _,by simp,rfl⟩
    · exact .inr ⟨j,by omega,by simp at q ⊢;omega,rfl⟩
def cR {α:Type} (P:an) (m:Sem α):Prop:=∀ w es,m.events P w es=es
theorem cR.bind {α β:Type} {m:Sem α} {f:α->Sem β} (h:cR P m) (k:∀ a,cR P (f a)):cR P (m >>= f):=by
  intro w es;rw[aP,h w es];cases m.run P w with
  | ok a w'=>exact k a w' es
  | halt x w'=>rfl
theorem cR.pure {α:Type} {a:α}:cR P (Pure.pure a:Sem α):=λ_ _=>rfl
theorem cR.stuck {α:Type} {a:String}:cR P (Go.stuck a:Sem α):=λ_ _=>rfl
theorem cR.unsupported {α:Type} {u:Unsupported}:cR P (Go.unsupported u:Sem α):=λ_ _=>rfl
theorem cR.sizeOf {t:ar}:cR P (sizeOf t):=λ_ _=>events_sizeOf ..
theorem cR.underlying {t:ar}:cR P (underlying t):=λ_ _=>events_underlying ..
theorem cR.zeroValue {t:ar}:cR P (zeroValue t):=λ_ _=>events_zeroValue ..
theorem cR.newObj {o:Obj}:cR P (newObj o):=λ_ _=>rfl
theorem cR.newRow {t:ar} {c:Array ak}:cR P (newRow t c):=.bind .newObj λ_=>.pure
theorem cR.OG {α β:Type} {f:α->Sem β} (h:∀ a,cR P (f a)):∀ l:List α,cR P (l.mapM f)
  | []=>by rw[List.mapM_nil];exact .pure
  | a::l=>by rw[kA];exact .bind (h a) λ_=>.bind (cR.OG h l) λ_=>.pure
theorem cR.map {α β:Type} {f:α->β} {m:Sem α} (h:cR P m):cR P (Functor.map f m):=λw es=>by rw[Sem.events_map];exact h w es
theorem cR.Tt {α β:Type} {f:α->Sem β} (h:∀ a,cR P (f a)) (l:Array α):cR P (l.mapM f):=by
  rw[qE];exact .map (.OG h _)
theorem cR.IK {α β:Type} {F:α->β->Sem (ForInStep β)} (h:∀ a b,cR P (F a b)):∀ (l:List α) (b:β),cR P (forIn l b F)
  | [],b=>by rw[List.forIn_nil];exact .pure
  | a::l,b=>by
    rw[List.forIn_cons];refine .bind (h a b) λr=>?_
    cases r with
    | done b=>exact .pure
    | yield b=>exact cR.IK h l b
theorem cR.build {t:ar} {parts:Array (Nat×ak)}:cR P (Instr.build t parts):=by
  unfold Instr.build;refine .bind .zeroValue λz=>.bind .underlying λd=>?_
  cases d <;> first
    | exact .stuck
    | (refine .bind (.Tt (λ_=>.bind .sizeOf λ_=>.pure) _) λpl=>?_
       split
       · exact .pure
       · exact .stuck)
    | (refine .bind .sizeOf λn=>?_
       split
       · exact .pure
       · exact .stuck)
theorem cR.buildSlice {t:ar} {n:Nat} {parts:Array (Nat×ak)}:cR P (Instr.buildSlice t n parts):=by
  unfold Instr.buildSlice;refine .bind .underlying λd=>?_
  cases d <;> first
    | exact .stuck
    | (refine .bind .sizeOf λm=>?_
       dsimp only
       have hj:∀ (elem:ar) (zero:Array ak),cR P (match Instr.fill (λi=>aa (i*m,m)) (Array.map (λx=>zero[x % zero.size]!) (Array.range (n*m))) parts.toList with
          | some cells=>do
            let a<-Go.newRow elem cells
            Pure.pure (Value.slice (aa a) n n)
          | _=>Go.stuck "buildSlice: a part of the wrong size"):=by
         intro elem zero;split
         · exact .bind .newRow λ_=>.pure
         · exact .stuck
       by_cases b:n*m=0
       · simp only[b,bO]
         rw[b] at hj;split
         · exact .bind .unsupported λ_=>.bind .pure λz=>hj _ z
         · exact .bind .pure λz=>hj _ z
       · simp only[b,bH]
         split
         · exact .bind .unsupported λ_=>.bind .zeroValue λz=>.bind .pure λz=>hj _ z
         · exact .bind .zeroValue λz=>.bind .pure λz=>hj _ z)
theorem rH {s:St} {b o:Nat} {L:Loc} (c:L∈s.β) (a:b∈L.bs):oG s (zl b o):=⟨rfl,rfl,.inr (.inl ⟨⟨L,c,a⟩,λh=>by cases h⟩)⟩
theorem A3 {s:St} {b o:Nat} {v:ak} (h:s.M b o=aa v):oG s (zl b o):=⟨rfl,rfl,.inr (.inr ⟨rfl,v,h⟩)⟩
theorem mv {s:St} {b o:Nat} {L:Loc} (d:L∈s.β) (a:b∈L.bs) (c:s.M b o=af):oG s (F6 b o):=⟨rfl,rfl,.inr (.inl ⟨⟨L,d,a⟩,λ_=>c⟩)⟩
end
structure TI where
 size:Nat
 bytes:Nat
 agg:Bool
 desc:TypeDesc
 zero:List C
 eq:List TypeDesc:=[]
def qN:TypeDesc->ak->ak->Option Bool
 |.int _,.int k a,.int k' b=>if k=k' then aa (a==b) else af
 |.string,.string a,.string b=>aa (a.toList==b.toList)
 |.bool,.bool a,.bool b=>aa (a==b)
 |_,_,_=>af
def jU:List TypeDesc->List ak->List ak->Option Bool
 |[],[],[]=>aa ab
 |d::ds,v::vs,w::ws=>match qN d v w with
  |some a=>match jU ds vs ws with
   |some b=>aa (a&&b)
   |none=>af
  |none=>af
 |_,_,_=>af
def Jv:TypeDesc->Bool
 |.struct _|.array _ _=>ab
 |_=>ae
structure bS (P:an)(t:ar)(i:TI):Prop where
 Tf:P.underlying t=aa i.desc
 agg:Jv i.desc=i.agg
 info:∃ inf z,P.info? t=aa inf/\inf.size=i.size/\inf.bytes=i.bytes/\inf.zero=aa z/\z.cells.toList.map ql=i.zero.map aa/\(∃ cs,z=if i.agg then .agg cs else z)/\i.zero.length=i.size
 eqs:i.eq≠[]->P.eqGuardType P.depth t=ae/\∀ (w:az) (vs ws:List ak) (b:Bool),jU i.eq vs ws=aa b->(Op.equal t (.agg vs.toArray) (.agg ws.toArray)).run P w=.ok b w/\∀ es,(Op.equal t (.agg vs.toArray) (.agg ws.toArray)).events P w es=es
def bL:List (Nat×TI)->Nat->Option TI
 |[],_=>af
 |(i,d)::r,t=>cond (aA i t) (aa d) (bL r t)
def dk(P:an)(T:List (Nat×TI)):Prop:=∀ t i,bL T t=aa i->bS P t i
section
variable {P:an}{w:az}{t:ar}{i:TI}
theorem bS.run_underlying(h:bS P t i):(underlying t).run P w=.ok i.desc w:=by
 simp[underlying,h.Tf]
theorem bS.jy(h:bS P t i):(isAgg t).run P w=.ok i.agg w:=by
 have:=h.agg;unfold Go.isAgg;rw[bZ,h.run_underlying];cases a:i.desc <;> rw[a] at this <;> simp[Jv] at this <;> simp[this]
theorem bS.run_sizeOf(h:bS P t i):(sizeOf t).run P w=.ok i.size w:=by
 obtain⟨a,z,h1,h2,_⟩:=h.info;simp[sizeOf,typeInfo,h1,h2]
theorem kK{σ:List aW}{s:St}:∀ {vs:List ak}{cs:List C},vs.map ql=cs.map aa->dX σ s vs (cs.map A.c)
 |[],[],_=>trivial
 |[],_::_,h=>by simp at h
 |_::_,[],h=>by simp at h
 |v::vs,c::cs,h=>by
  simp only[jJ,List.cons.injEq] at h;exact⟨Rd.ql h.1,kK h.2⟩
theorem bS.BE(h:bS P t i)(σ:List aW)(s:St):∃ z,(zeroValue t).run P w=.ok z w/\dX σ s z.cells.toList (i.zero.map A.c):=by
 obtain⟨d,z,h1,h2,e,b,a,_⟩:=h.info;exact⟨z,by simp[zeroValue,typeInfo,h1,b],kK a⟩
end
def mW:D->Option (List A)
 |.e (.one a)=>aa [a]
 |.e (.agg cs)=>aa cs
 |_=>af
theorem nb{σ:List aW}{s:St}{v:ak}{d:D}{cs:List A}(h:mW d=aa cs)(r:dh σ s v d):dX σ s v.cells.toList cs:=by
 cases d with
 |e x =>
  cases x with
  |one a =>
   cases h;have:=gB.cell r;cases v <;> first|exact⟨r,ay⟩|cases this
  |agg c =>
   cases h;obtain⟨vs,rfl,b⟩:=r;simpa[Value.cells] using b
 |fW xs=>cases h
 |any=>cases h
theorem bR.newVar{P:an}{o:av}{a:aq->D}{σ:List aW}{E:ar}{cs:List A}
  (h:∀ s ρ,aJ σ s->(∀ y,dh σ s (ρ y) (a y))->∃ v:ak,(aw ρ o).run P s.w=((do pure (.value (.pointer (aa (<-newVar E v))))):Sem Next).run P s.w/\dX σ s v.cells.toList cs/\(aw ρ o).events P s.w #[]=#[]) :
  bR P o a σ (.e (.one (.ptr σ.length 0))) (σ++[.cells E cs]):=by
 intro s ρ hh hr;obtain⟨v,h1,h2,b⟩:=h s ρ hh hr;refine⟨.value (.pointer (aa ⟨s.w.heap.size,0,af⟩)),s.fX E v.cells.toList,?_,?_,hh.fX h2,.fX s E _ _,by rw[b];exact .nil⟩
 .rw[h1];simp[Go.newVar,newRow,St.fX]
 .refine⟨by simp,⟨.pointer (aa ⟨s.w.heap.size,0,af⟩),[s.w.heap.size]⟩,s.w.heap.size,?_,rfl,rfl⟩
  simp[St.fX,<-hh.len]
theorem bR.alloc{P:an}{T:List (Nat×TI)}(d:dk P T){o:av}{f:aq->D}{σ:List aW}{E:ar}(h:o.op=.alloc E){i:TI}(hi:bL T E=aa i) :
  bR P o f σ (.e (.one (.ptr σ.length 0))) (σ++[.cells E (i.zero.map A.c)]):=by
 refine .newVar λs ρ _ _=>?_
 obtain⟨z,a,b⟩:=(d E i hi).BE (w:=s.w) σ s;exact⟨z,by simp[aw,h,Instr.alloc,a],b,by simp[aw,h,Instr.alloc,a,Go.newVar,newRow]⟩
theorem bR.box{P:an}{o:av}{a:aq->D}{σ:List aW}{E:ar}{x:aq}(h:o.op=.box E x){cs:List A}(c:mW (a x)=aa cs) :
  bR P o a σ (.e (.one (.ptr σ.length 0))) (σ++[.cells E cs]) :=
 .newVar λs ρ _ b=>⟨ρ x,by simp[aw,h,Instr.box],nb c (b x),by simp[aw,h,Instr.box,Go.newVar,newRow]⟩
def oB{α:Type}:Nat->List α->Option (List α)
 |0,_=>aa []
 |n+1,x::xs=>match oB n xs with|some r=>aa (x::r)|none=>af
 |_+1,[]=>af
theorem ni{α:Type}:∀ {n:Nat}{l r:List α},oB n l=aa r->r=l.take n/\r.length=n
 |0,l,r,h=>by cases h;simp
 |n+1,[],r,h=>by simp[oB] at h
 |n+1,x::xs,r,h=>by
  simp only[oB] at h;cases a:oB n xs with
  |none=>simp[a] at h
  |some q =>
   simp[a] at h;subst h;obtain⟨b,c⟩:=ni a;simp[<-b,c]
def fZ{α:Type}:Nat->List α->Option α
 |_,[]=>af
 |0,x::_=>aa x
 |n+1,_::xs=>fZ n xs
theorem dY{α:Type}:∀ {n:Nat}{l:List α}{x:α},fZ n l=aa x->l[n]?=aa x
 |_,[],_,h=>by simp[fZ] at h
 |0,x::_,_,h=>by simpa[fZ] using h
 |n+1,_::xs,_,h=>by simpa using dY (n:=n) (l:=xs) h
def im{α:Type}:Nat->List α->List α
 |0,l=>l
 |_+1,[]=>[]
 |n+1,_::xs=>im n xs
theorem ny{α:Type}:∀ (n:Nat)(l:List α),im n l=l.drop n
 |0,_=>by simp[im]
 |_+1,[]=>by simp[im]
 |n+1,_::xs=>by simp[im,ny n xs]
def nh(i:TI)(cs:List A):Option E1 :=
 match i.agg with
 |true=>match oB i.size cs with|some r=>aa (.agg r)|none=>af
 |false=>match fZ 0 cs with|some a=>aa (.one a)|none=>af
theorem o7{P:an}{σ:List aW}{s:St}{t:ar}{i:TI}(l:bS P t i){b off:Nat}{vs:List ak}{cs:List A}{e:E1}
  (n:∀ (j:Nat) (v:ak),vs[j]?=aa v->s.w.cell? ⟨b,off+j,af⟩=aa v) (m:dX σ s vs cs) (d:nh i cs=aa e) :
  ∃ v,(loadVar t ⟨b,off,af⟩).run P s.w=.ok v s.w/\mc σ s v e:=by
 simp only[loadVar,bZ,l.jy,cg];cases q:i.agg <;> simp only[nh,q] at d
 .cases f:fZ 0 cs with
  |none=>simp[f] at d
  |some a =>
   simp[f] at d;subst d;obtain⟨v,u,k⟩:=m.get (dY f);refine⟨v,?_,k⟩;have:=n 0 v u;simp at this;simp[run_load,this]
 .cases f:oB i.size cs with
  |none=>simp[f] at d
  |some r =>
   simp[f] at d;subst d;obtain⟨p,o⟩:=ni f;have c:=m.take i.size;rw[<-p] at c;have x:(vs.take i.size).length=i.size:=by rw[c.length,o]
   have g:=run_loadCells_list (P:=P) s.w ⟨b,off,af⟩ (vs.take i.size) (λj v h=>by
    rw[di];refine n j v ?_;rw[et] at h;split at h
    .exact h
    .cases h)
   rw[x] at g;refine⟨.agg (vs.take i.size).toArray,?_,vs.take i.size,rfl,c⟩;simp[l.run_sizeOf,g]
theorem jr{P:an}{w:az}{t:ar}{i:TI}(f:bS P t i){b off n:Nat}(g:∀ j,j<n->∃ v,w.cell? ⟨b,off+j,af⟩=aa v)(c:(if i.agg then i.size else 1)<=n) :
  ∀ e∈(loadVar t ⟨b,off,af⟩).events P w #[],∃ j,j<n/\e=zl b (off+j):=by
 intro e a;simp only[loadVar,aP,f.jy,aV,events_isAgg] at a;cases d:i.agg
 .rw[d] at c a;obtain⟨v,k⟩:=g 0 (by simp at c;omega)
  simp only[gG] at k;simp only[gi,bH,zq k] at a;rcases rr.1 a with h|rfl
  .simp at h
  .exact⟨0,by simp at c;omega,rfl⟩
 .rw[d] at c a;simp only[bO] at c;simp only[bO,aP,f.run_sizeOf,aV,events_sizeOf] at a;have key:∀ e∈(loadCells ⟨b,off,af⟩ i.size).events P w #[],∃ j,j<n/\e=zl b (off+j):=by
   intro e a;rcases rB (P:=P) (λj l=>g j (by omega)) e a with h|⟨j,l,rfl⟩
   .simp at h
   .exact⟨j,by omega,rfl⟩
  apply key
  generalize (loadCells ⟨b,off,af⟩ i.size).run P w=r at a;cases r with
  |ok v w'=>simpa using a
  |halt x w'=>simpa using a
theorem rO{i:TI}{cs:List A}{e:E1}(h:nh i cs=aa e):(if i.agg then i.size else 1)<=cs.length:=by
 unfold nh at h;cases d:i.agg <;> rw[d] at h
 .cases cs with
  |nil=>simp[fZ] at h
  |cons c cs=>simp
 .simp only at h;cases a:oB i.size cs with
  |none=>simp[a] at h
  |some r =>
   obtain⟨b,f⟩:=ni a;rw[b,bn] at f;simp only[bO];omega
theorem bR.E9{P:an}{T:List (Nat×TI)}(y:dk P T){o:av}{B:aq->D}{σ:List aW}{t:ar}{x:aq}(h:o.op=.load t x){l off:Nat}{E:ar}{cs:List A}{i:TI}{e:E1}
  (G:B x=.e (.one (.ptr l off))) (F:σ[l]?=aa (.cells E cs)) (hi:bL T t=aa i) (q:nh i (im off cs)=aa e):bR P o B σ (.e e) σ:=by
 refine .n5 λs ρ hh hr=>?_
 have h1:=hr x;rw[G] at h1;obtain⟨_,L,b,u,a,C⟩:=h1;obtain⟨m,vs,rfl,r,k,_⟩:=hh.box l _ L F u;simp at a;subst a;rw[ny] at q;obtain⟨v,d,p⟩:=o7 (s:=s) (σ:=σ) (P:=P) (y t i hi) (b:=m) (off:=off) (vs:=vs.drop off) (cs:=cs.drop off) (e:=e) (λj v hj=>by
  simp only[aY,r];simpa using hj) (k.drop off) q
 refine⟨v,by simp[aw,h,C,Instr.loadAt,Instr.sureAddr,d],p,λz c=>?_⟩
 have f:z∈(loadVar t ⟨m,off,af⟩).events P s.w #[]:=by
  have e:aw ρ o=(do pure (.value (<-loadVar t ⟨m,off,af⟩))):=by simp[aw,h,C,Instr.loadAt,Instr.sureAddr]
  rw[e] at c;simpa[d] using c
 have g:(vs.drop off).length=(cs.drop off).length:=(k.drop off).length;obtain⟨j,hj,rfl⟩:=jr (y t i hi) (n:=(vs.drop off).length) (λj hj=>by
  refine⟨(vs.drop off)[j],?_⟩;simp only[aY,r];simp at hj ⊢ <;> omega) (by rw[g];exact rO q) z f
 exact rH (bz u) (by simp)
theorem bR.IW{P:an}{T:List (Nat×TI)}(y:dk P T){o:av}{F:aq->D}{σ:List aW}{t:ar}{x:aq}(h:o.op=.load t x){cs:List C}{i:TI}{e:E1}
  (G:F x=.e (.one (.c (.rp cs)))) (hi:bL T t=aa i) (B:nh i (cs.map A.c)=aa e):bR P o F σ (.e e) σ:=by
 refine .n5 λs ρ hh hr=>?_
 have h1:=hr x;rw[G] at h1;have h2:=ga h1;generalize k:ρ x=vx at h2;cases h2
 rename_i b off f p q
 have u:∀ (n:Nat) (ds:List C),(∀ j c,ds[j]?=aa c->Rd s.M (f (n+j)) c)->dX σ s ((bc ds.length).map λj=>f (n+j)) (ds.map A.c):=by
  intro n ds
  induction ds generalizing n with
  |nil=>intro _;trivial
  |cons d ds ih =>
   intro z;rw[db,y7];refine⟨z 0 d rfl,?_⟩;have:=ih (n+1) (λj c hj=>by have:=z (j+1) c (by simpa using hj);rwa [show n+1+j=n+(j+1) by omega])
   simpa[Function.comp_def,lr,kC 1] using this
 obtain⟨v,l,r⟩:=o7 (s:=s) (σ:=σ) (P:=P) (y t i hi) (b:=b) (off:=off) (vs:=(bc cs.length).map λj=>f (0+j)) (cs:=cs.map A.c) (e:=e) (λj v hj=>by
  simp only[mT,bm] at hj
  by_cases a:j<cs.length
  .simp[a] at hj;subst hj;exact hh.mem _ _ _ (p j cs[j] (aR a))
  .simp[a] at hj) (u 0 cs (by simpa using q)) B
 refine⟨v,by simp[aw,h,k,Instr.loadAt,Instr.sureAddr,l],r,λE g=>?_⟩
 have m:E∈(loadVar t ⟨b,off,af⟩).events P s.w #[]:=by
  have e:aw ρ o=(do pure (.value (<-loadVar t ⟨b,off,af⟩))):=by simp[aw,h,k,Instr.loadAt,Instr.sureAddr]
  rw[e] at g;simpa[l] using g
 obtain⟨j,hj,rfl⟩:=jr (y t i hi) (n:=cs.length) (λj hj=>⟨f j,hh.mem _ _ _ (p j cs[j] (aR hj))⟩) (by have:=rO B;simpa using this) E m
 exact A3 (p j cs[j] (aR hj))
def fg{α:Type}:Nat->List α->List α->Option (List α)
 |0,[],l=>aa l
 |0,n::ns,_::cs=>match fg 0 ns cs with|some r=>aa (n::r)|none=>af
 |k+1,ns,c::cs=>match fg k ns cs with|some r=>aa (c::r)|none=>af
 |_,_,[]=>af
theorem p6{α:Type}:∀ {off:Nat}{new l r:List α},fg off new l=aa r->off+new.length<=l.length/\r=l.take off++new++l.drop (off+new.length)
 |0,[],l,r,h=>by cases l <;> cases h <;> simp
 |0,n::ns,c::cs,r,h=>by
  simp only[fg] at h;cases a:fg 0 ns cs with
  |none=>simp[a] at h
  |some q =>
   simp[a] at h;subst h;obtain⟨d,b⟩:=p6 a;refine⟨by simp at d ⊢;omega,?_⟩
   simp at b;simp[b]
 |0,n::ns,[],r,h=>by simp[fg] at h
 |k+1,ns,c::cs,r,h=>by
  simp only[fg] at h;cases a:fg k ns cs with
  |none=>simp[a] at h
  |some q =>
   simp[a] at h;subst h;obtain⟨d,b⟩:=p6 a;refine⟨by simp;omega,?_⟩
   rw[show k+1+ns.length=(k+ns.length)+1 by omega]
   simp[b]
 |k+1,ns,[],r,h=>by simp[fg] at h
theorem dX.fg{σ:List aW}{s:St}{off:Nat}{vs new:List ak}{cs Qx r:List A}(h:AM.fg off Qx cs=aa r)(h1:dX σ s vs cs)(h2:dX σ s new Qx) :
  off+new.length<=vs.length/\dX σ s (vs.take off++new++vs.drop (off+new.length)) r:=by
 obtain⟨k1,rfl⟩:=p6 h;rw[h2.length,h1.length];refine⟨k1,((h1.take off).append h2).append (by have:=h1.drop (off+Qx.length);exact this)⟩
theorem bR.store{P:an}{T:List (Nat×TI)}(F:dk P T){o:av}{u:aq->D}{σ:List aW}{t:ar}{x y:aq}(h:o.op=.store t x y){l off:Nat}{E:ar}{cs new m8:List A}{i:TI}
  (K:u x=.e (.one (.ptr l off))) (H:σ[l]?=aa (.cells E cs)) (hi:bL T t=aa i) (I:mW (u y)=aa new) (hn:new.length=i.size) (J:fg off new cs=aa m8) :
  bR P o u σ .any (σ.set l (.cells E m8)):=by
 intro s ρ hh hr;have h1:=hr x;rw[K] at h1;obtain⟨_,L,b,z,m,G⟩:=h1;obtain⟨n,vs,rfl,B,q,g⟩:=hh.box l _ L H z;simp at m;subst m;have c:=nb I (hr y);obtain⟨k1,M⟩:=dX.fg J q c;obtain⟨w1,w2⟩:=hh.write H z rfl M;refine⟨.skip,_,?_,rfl,w1,w2,?_⟩
 rotate_left
 .intro C a;have d:(ρ y).cells.size=i.size:=by rw[<-hn,<-c.length,gZ]
  have e:aw ρ o=(do storeVar t ⟨n,off,af⟩ (ρ y);pure .skip):=by simp[aw,h,G,Instr.storeAt,Instr.sureAddr]
  rw[e] at a;have k:C∈(storeCells ⟨n,off,af⟩ (ρ y).cells.toList).events P s.w #[]:=by
   simp only[storeVar,aP,(F t i hi).run_sizeOf,d,aV,events_sizeOf,cW,fH,bH,bZ,cg,Sem.events_pure] at a;generalize (storeCells ⟨n,off,af⟩ (ρ y).cells.toList).run P s.w=r at a;cases r with
   |ok v w'=>simpa using a
   |halt x w'=>simpa using a
  rcases eN (ρ y).cells.toList 0 vs.toArray s.w #[] B (by simpa using k1) c.cell C k with p|⟨j,_,_,rfl⟩
  .simp at p
  .exact mv (bz z) (by simp) (g _)
 have f:=run_storeCells_at P n off E (ρ y).cells.toList 0 vs.toArray s.w B (by simpa using k1) (c.cell)
 have d:(ρ y).cells.size=i.size:=by rw[<-hn,<-c.length,gZ]
 simp only[gG] at f;simp[aw,h,G,Instr.storeAt,Instr.sureAddr,storeVar,(F t i hi).run_sizeOf,d,f]
def jR(T:List (Nat×TI))(t:ar)(f:Nat):Option (Nat×TI) :=
 match bL T t with
 |some i=>match i.desc with
  |.struct fs=>match fZ f fs.toList with
   |some fl=>match bL T fl.type with
    |some j=>cond (aA j.size 0) af (aa (fl.offset,j))
    |none=>af
   |none=>af
  |_=>af
 |none=>af
theorem tc{P:an}{T:List (Nat×TI)}(c:dk P T){t:ar}{f off:Nat}{j:TI}(h:jR T t f=aa (off,j)) :
  ∃ i fs fl,bL T t=aa i/\i.desc=.struct fs/\fs[f]?=aa fl/\fl.offset=off/\bL T fl.type=aa j/\j.size≠0/\bS P t i/\bS P fl.type j:=by
 unfold jR at h;split at h
 .rename_i i hi
  split at h
  .rename_i fs Wb
   split at h
   .rename_i fl hfl
    split at h
    .rename_i d b
     cases a:aA d.size 0 <;> simp[a] at h
     obtain⟨rfl,rfl⟩:=h;refine⟨i,fs,fl,hi,Wb,by simpa using dY hfl,rfl,b,?_,c _ _ hi,c _ _ b⟩
     intro e;rw[e] at a;cases a
    .cases h
   .cases h
  .cases h
 .cases h
theorem mH{P:an}{T:List (Nat×TI)}(e:dk P T){t:ar}{f off:Nat}{j:TI}(h:jR T t f=aa (off,j))(b o:Nat)(w:az) :
  (Instr.fieldAt t (.pointer (aa ⟨b,o,af⟩)) f).run P w=.ok (.pointer (aa ⟨b,o+off,af⟩)) w:=by
 obtain⟨i,fs,l,n,a,d,c,m,k,g,g2⟩:=tc e h;simp[Instr.fieldAt,g.run_underlying,a,d,Instr.sureAddr,fieldPlace,g2.run_sizeOf,k,di,c]
theorem oo{P:an}{T:List (Nat×TI)}(d:dk P T){t:ar}{f off:Nat}{j:TI}(h:jR T t f=aa (off,j))(b o:Nat)(w:az)(es:Array Event) :
  (Instr.fieldAt t (.pointer (aa ⟨b,o,af⟩)) f).events P w es=es:=by
 obtain⟨i,fs,l,n,a,c,k,m,g,e,g2⟩:=tc d h;simp[Instr.fieldAt,e.run_underlying,a,c,Instr.sureAddr,fieldPlace,g2.run_sizeOf,g]
theorem bR.rW{P:an}{T:List (Nat×TI)}(d:dk P T){o:av}{g:aq->D}{σ:List aW}{t:ar}{x:aq}{f:Nat}(h:o.op=.fieldAddr t x f){l off k:Nat}{j:TI}
  (n:g x=.e (.one (.ptr l off))) (c:jR T t f=aa (k,j)):bR P o g σ (.e (.one (.ptr l (off+k)))) σ:=by
 refine .quiet λs ρ hh hr=>?_
 have h1:=hr x;rw[n] at h1;obtain⟨hn,L,b,m,a,i⟩:=h1;exact⟨.pointer (aa ⟨b,off+k,af⟩),by simp[aw,h,i,mH d c],⟨hn,L,b,m,a,rfl⟩,by simp[aw,h,i,oo d c]⟩
theorem bR.tO{P:an}{T:List (Nat×TI)}(i:dk P T){o:av}{l:aq->D}{σ:List aW}{t:ar}{x:aq}{f:Nat}(h:o.op=.fieldAddr t x f){cs:List C}{k:Nat}{j:TI}
  (n:l x=.e (.one (.c (.rp cs)))) (g:jR T t f=aa (k,j)):bR P o l σ (.e (.one (.c (.rp (im k cs))))) σ:=by
 refine .quiet λs ρ hh hr=>?_
 have h1:=hr x;rw[n] at h1;have h2:=ga h1;generalize a:ρ x=vx at h2;cases h2
 rename_i b o p m d
 refine⟨.pointer (aa ⟨b,o+k,af⟩),by simp[aw,h,a,mH i g],?_,by simp[aw,h,a,oo i g]⟩
 rw[ny];refine Rd.rp b (o+k) (λj=>p (k+j)) (λj c hj=>?_) (λj c hj=>?_)
 .rw[show o+k+j=o+(k+j) by omega];exact m (k+j) c (by simpa using hj)
 .exact d (k+j) c (by simpa using hj)
theorem Jw{σ:List aW}{s:St}{P:an}{t:ar}{i:TI}(g:bS P t i){vs:List ak}{cs:List A}(r:dX σ s vs cs){off:Nat}{e:E1}(b:nh i (im off cs)=aa e)(w:az) :
  ∃ v,(part t vs.toArray off).run P w=.ok v w/\mc σ s v e/\∀ es,(part t vs.toArray off).events P w es=es:=by
 simp only[part,bZ,g.jy,cg,aP,aV,events_isAgg];rw[ny] at b;cases k:i.agg <;> simp only[nh,k] at b
 .cases c:fZ 0 (cs.drop off) with
  |none=>simp[c] at b
  |some a =>
   simp[c] at b;subst b;obtain⟨v,h,f⟩:=(r.drop off).get (dY c);simp at h;refine⟨v,?_,f,λes=>?_⟩ <;> simp[h]
 .cases c:oB i.size (cs.drop off) with
  |none=>simp[c] at b
  |some q =>
   simp[c] at b;subst b;obtain⟨j,l⟩:=ni c;have d:=(r.drop off).take i.size;rw[<-j] at d;refine⟨.agg (vs.toArray.extract off (off+i.size)),by simp[g.run_sizeOf],⟨(vs.drop off).take i.size,?_,d⟩,λes=>by simp⟩
   simp
theorem bR.field{P:an}{T:List (Nat×TI)}(r:dk P T){o:av}{n:aq->D}{σ:List aW}{t:ar}{x:aq}{f:Nat}(h:o.op=.field t x f){cs:List A}{k:Nat}{j:TI}{e:E1}
  (y:n x=.e (.agg cs)) (q:jR T t f=aa (k,j)) (u:nh j (im k cs)=aa e):bR P o n σ (.e e) σ:=by
 refine .quiet λs ρ hh hr=>?_
 have h1:=hr x;rw[y] at h1;obtain⟨vs,p,b⟩:=h1;obtain⟨i,fs,fl,h1,h2,l,g,z,B,m,g2⟩:=tc r q;obtain⟨v,d,c,a⟩:=Jw g2 b u s.w;exact⟨v,by simp[aw,h,p,Instr.field,m.run_underlying,h2,l,asAgg,g,d],c,by simp[aw,h,p,Instr.field,m.run_underlying,h2,l,asAgg,g,a]⟩
theorem bR.tP{P:an}{o:av}{c:aq->D}{σ:List aW}{x:aq}(h:o.op=.nilCheck x){l off:Nat}(g:c x=.e (.one (.ptr l off))):bR P o c σ (.e (.one (.ptr l off))) σ:=by
 refine .quiet λs ρ hh hr=>?_
 have h1:=hr x;rw[g] at h1;have a:=h1;obtain⟨hn,L,b,i,f,d⟩:=h1;exact⟨ρ x,by simp[aw,h,d],a,by simp[aw,h,d]⟩
theorem bR.vU{P:an}{o:av}{b:aq->D}{σ:List aW}{x:aq}(h:o.op=.nilCheck x){cs:List C}(d:b x=.e (.one (.c (.rp cs)))):bR P o b σ (.e (.one (.c (.rp cs)))) σ:=by
 refine .quiet λs ρ hh hr=>?_
 have h1:=hr x;rw[d] at h1;have h2:=ga h1;generalize a:ρ x=vx at h2;cases h2;exact⟨_,by simp[aw,h,a];rfl,by rw[<-a];exact h1,by simp[aw,h,a]⟩
theorem Gv(new:List ak):∀ (j off:Nat)(cs:Array ak),off+j+new.length<=cs.size ->
  ((new.zipIdx j).foldl (λcs (x:ak×Nat)=>cs.setIfInBounds (off+x.2) x.1) cs).toList=cs.toList.take (off+j)++new++cs.toList.drop (off+j+new.length):=by
 induction new with
 |nil=>intro j off cs _;simp
 |cons v vs ih =>
  intro j off cs h;simp only[List.zipIdx_cons,g7];rw[ih (j+1) off _ (by simp at h ⊢;omega)]
  have:=list_seg_step cs.toList (off+j) v vs (by simp at h ⊢;omega)
  simpa[uK,lr] using this
def vu(place:Nat->Option (Nat×Nat)):List (Nat×List A)->List A->Option (List A)
 |[],cs=>aa cs
 |(i,new)::rest,cs=>match place i with
  |some (off,size)=>match aA new.length size with
   |true=>match fg off new cs with
    |some r=>vu place rest r
    |none=>af
   |false=>af
  |none=>af
theorem rI{σ:List aW}{s:St}{place place':Nat->Option (Nat×Nat)}(u:∀ i p,place i=aa p->place' i=aa p):∀ {parts:List (Nat×List A)}{vparts:List (Nat×ak)}{cs r:List A}{vs:Array ak},
  vu place parts cs=aa r->vparts.map (·.1)=parts.map (·.1)->(∀ (k:Nat) (p:Nat×List A) (q:Nat×ak),parts[k]?=aa p->vparts[k]?=aa q->dX σ s q.2.cells.toList p.2)->dX σ s vs.toList cs ->
  ∃ g,Instr.fill place' vs vparts=aa g/\dX σ s g.toList r
 |[],[],cs,r,vs,h,_,_,f=>by cases h;exact⟨vs,rfl,f⟩
 |[],_::_,cs,r,vs,h,a,_,f=>by simp at a
 |_::_,[],cs,r,vs,h,a,_,f=>by simp at a
 |(i,new)::rest,(l,v)::TS,cs,r,vs,h,a,w,f=>by
  simp only[jJ,List.cons.injEq] at a;obtain⟨rfl,a⟩:=a;simp only[vu] at h;cases b:place l with
  |none=>simp[b] at h
  |some p =>
   obtain⟨off,size⟩:=p;simp only[b] at h;cases n:aA new.length size with
   |false=>simp[n] at h
   |true =>
    simp only[n] at h;cases o:fg off new cs with
    |none=>simp[o] at h
    |some q =>
     simp only[o] at h;have t:=w 0 (l,new) (l,v) rfl rfl;simp only at t;have C:=t.length;have d:new.length=size:=bE n;obtain⟨k1,z⟩:=dX.fg o f t;have y:=Gv v.cells.toList 0 off vs (by simpa using k1)
     have c:v.cells.size=size:=by rw[<-d,<-C,gZ]
     have B:off+size<=vs.size:=by simpa[c] using k1
     obtain⟨g,m,j⟩:=rI (σ:=σ) (s:=s) u (parts:=rest) (vparts:=TS) (cs:=q) (r:=r)
      (vs:=v.cells.zipIdx.foldl (λcs (x:ak×Nat)=>cs.setIfInBounds (off+x.2) x.1) vs) h a (λk p q m j=>w (k+1) p q (by simpa using m) (by simpa using j)) (by
       have e:(v.cells.zipIdx.foldl (λcs (x:ak×Nat)=>cs.setIfInBounds (off+x.2) x.1) vs).toList=((v.cells.toList.zipIdx 0).foldl (λcs (x:ak×Nat)=>cs.setIfInBounds (off+x.2) x.1) vs).toList:=by
        rw[<-Array.foldl_toList,Array.toList_zipIdx]
       rw[e,y];simpa using z)
     refine⟨g,?_,j⟩;simp only[Instr.fill,u _ _ b,c,cW,fH,mo,ru,bh];rw[aO (by simp;omega)]
     exact m
def p9(T:List (Nat×TI)):List Field->Option (List (Nat×Nat))
 |[]=>aa []
 |f::fs=>match bL T f.type with
  |some j=>match p9 T fs with
   |some r=>aa ((f.offset,j.size)::r)
   |none=>af
  |none=>af
theorem wv{P:an}{T:List (Nat×TI)}(c:dk P T):∀ {fs:List Field}{r:List (Nat×Nat)},p9 T fs=aa r->fs.mapM (λf=>(P.info? f.type).map λi=>(f.offset,i.size))=aa r
 |[],r,h=>by cases h;simp
 |f::fs,r,h=>by
  simp only[p9] at h;cases a:bL T f.type with
  |none=>simp[a] at h
  |some j =>
   cases b:p9 T fs with
   |none=>simp[a,b] at h
   |some q =>
    simp[a,b] at h;subst h;obtain⟨e,z,g,d,_⟩:=(c _ _ a).info;simp[kA,g,d,wv c b]
def n7(a:aq->D):List (Nat×aq)->Option (List (Nat×List A))
 |[]=>aa []
 |(i,x)::r=>match mW (a x) with
  |some cs=>match n7 a r with
   |some q=>aa ((i,cs)::q)
   |none=>af
  |none=>af
theorem pT{σ:List aW}{s:St}{ρ:aq->ak}{a:aq->D}(f:∀ y,dh σ s (ρ y) (a y)):∀ {l:List (Nat×aq)}{q:List (Nat×List A)},n7 a l=aa q ->
  (l.map λ(i,x)=>(i,ρ x)).map (·.1)=q.map (·.1)/\∀ (k:Nat) (p:Nat×List A) (u:Nat×ak),q[k]?=aa p->(l.map λ(i,x)=>(i,ρ x))[k]?=aa u->dX σ s u.2.cells.toList p.2
 |[],q,h=>by cases h;simp
 |(i,x)::r,q,h=>by
  simp only[n7] at h;cases b:mW (a x) with
  |none=>simp[b] at h
  |some cs =>
   cases d:n7 a r with
   |none=>simp[b,d] at h
   |some q' =>
    simp[b,d] at h;subst h;obtain⟨j,g⟩:=pT f d;refine⟨by simpa using j,λk p u c e=>?_⟩
    cases k with
    |zero=>simp at c e;subst c e;exact nb b (f x)
    |succ k=>exact g k p u (by simpa using c) (by simpa using e)
def zI(T:List (Nat×TI))(a:aq->D)(t:ar)(parts:List (Nat×aq)):Option (List A) :=
 match bL T t with
 |some i=>match i.desc with
  |.struct fs=>match p9 T fs.toList with
   |some pl=>match n7 a parts with
    |some ps=>vu (λk=>fZ k pl) ps (i.zero.map A.c)
    |none=>af
   |none=>af
  |_=>af
 |none=>af
theorem bR.build{P:an}{T:List (Nat×TI)}(g:dk P T){o:av}{j:aq->D}{σ:List aW}{t:ar}{parts:Array (Nat×aq)}(h:o.op=.build t parts){cs:List A}
  (a:zI T j t parts.toList=aa cs):bR P o j σ (.e (.agg cs)) σ:=by
 refine .quiet λs ρ hh hr=>?_
 unfold zI at a;cases hi:bL T t with
 |none=>simp[hi] at a
 |some i =>
  simp only[hi] at a;cases l:i.desc with
  |struct fs =>
   simp only[l] at a;cases c:p9 T fs.toList with
   |none=>simp[c] at a
   |some pl =>
    simp only[c] at a;cases d:n7 j parts.toList with
    |none=>simp[d] at a
    |some ps =>
     simp only[d] at a;obtain⟨m,z,n,C,G,r,u,E,F⟩:=(g t i hi).info;obtain⟨v,p2⟩:=pT (σ:=σ) (s:=s) hr d;obtain⟨f,B,q⟩:=rI (σ:=σ) (s:=s) (place':=λk=>pl.toArray[k]?) (λk p y=>by simpa using dY y) a v p2 (kK u)
     have hb:P.built t (parts.map λ(i,x)=>(i,ρ x)).toList=aa f:=by
      unfold Program.built;have b:=(g t i hi).Tf;rw[l] at b;simp only[n,b,r,wv g c];simpa using B
     refine⟨.agg f,?_,⟨f.toList,by simp,q⟩,?_⟩
     .simp only[aw,h,bZ,run_build s.w t _ f hb,cg,c7]
     .simp only[aw,h,aP,run_build s.w t _ f hb,aV,Sem.events_pure];exact cR.build s.w #[]
  |_=>simp[l] at a
theorem QI{k n i j:Nat}(hi:i<n)(b:j<k):i*k+j<n*k:=by
 have a:(i+1)*k<=n*k:=er k (by omega)
 rw[ey] at a;omega
theorem M7{k i j:Nat}(a:j<k):(i*k+j) / k=i:=by
 rw[jH,Nat.mul_add_div (by omega),Nat.div_eq_of_lt a];omega
theorem M8{k i j:Nat}(a:j<k):(i*k+j) % k=j:=by
 rw[jH,Nat.mul_add_mod,Nat.mod_eq_of_lt a]
theorem Flat.nil{M:Mem}{k:Nat}{es:Nat->List C}:Flat M k 0 es []:=⟨by simp,by omega,by omega⟩
def cX(n:Nat)(f g:Nat->List C):Nat->List C:=λi=>if i<n then f i else g (i-n)
theorem Flat.append{M:Mem}{k n m:Nat}{es es':Nat->List C}{vs vG:List ak}(h:Flat M k n es vs)(b:Flat M k m es' vG):Flat M k (n+m) (cX n es es') (vs++vG):=by
 refine⟨by simp[h.len,b.len,ey],λi hi=>?_,λi hi j c hj=>?_⟩
 .simp only[cX];split
  .rename_i a;exact h.width i a
  .exact b.width _ (by omega)
 .simp only[cX] at hj;split at hj
  .rename_i a
   obtain⟨v,h1,h2⟩:=h.rd i a j c hj;refine⟨v,?_,h2⟩;rw[b7]
   .exact h1
   .exact(bt.1 h1).1
  .rename_i d
   obtain⟨v,h1,h2⟩:=b.rd _ (by omega) j c hj
   refine⟨v,?_,h2⟩;have e1:i*k+j=vs.length+((i-n)*k+j):=by
    rw[h.len,<-lr,<-ey,zf (by omega)]
   rw[e1,dg (by omega)]
   rw[show vs.length+((i-n)*k+j)-vs.length=(i-n)*k+j by omega]
   exact h1
theorem Flat.cell{M:Mem}{k n:Nat}{es:Nat->List C}{vs:List ak}(h:Flat M k n es vs):∀ v∈vs,v.oneCell'=ab:=by
 intro v c;obtain⟨p,a,rfl⟩:=dN c;rw[h.len] at a;have b:0<k:=by
  rcases jF k with rfl|b
  .simp at a
  .exact b
 have hi:p / k<n:=pB (by rw[jH];exact a)
 have hj:p % k<k:=ik _ b;have d:=h.width _ hi;obtain⟨v,h1,h2⟩:=h.rd (p / k) hi (p % k) ((es (p / k))[p % k]'(by omega)) (aR (by omega))
 have e:p / k*k+p % k=p:=pE p k;rw[e] at h1;rw[aR (by rw[h.len];exact a)] at h1
 simp at h1;rw[h1];have:=Rd.cell h2;cases v <;> simp_all [c8,Value.oneCell']
theorem Rd.flat{M:Mem}{v:ak}{t:Bool}{k n:Nat}{es:Nat->List C}(h:Rd M v (.sl t k n es)) :
  ∃ a cap vs,v=.slice a n cap/\n<=cap/\cap<=9223372036854775807/\(t=ab->cap=n)/\Flat M k n es vs/\∀ p u,vs[p]?=aa u->∃ b off,a=aa ⟨b,off,af⟩/\M b (off+p)=aa u:=by
 cases h with
 |@sl a _ cap _ _ _ b off f g hb ht hk ha hm hr =>
  refine⟨a,cap,(bc (n*k)).map λp=>f (p / k) (p % k),rfl,g,hb,ht,⟨by simp,hk,?_⟩,?_⟩
  .intro i hi j c hj;have e:j<k:=by
    rw[<-hk i hi];exact(bt.1 hj).1
   refine⟨f i j,?_,hr i hi j c hj⟩;simp[QI hi e,M7 e,M8 e]
  .intro p u l;simp only[mT] at l
   by_cases d:p<n*k
   .simp[d] at l;subst l;have m:0<k:=by
     rcases jF k with rfl|hk
     .simp at d
     .exact hk
    have hi:p / k<n:=pB (by rw[jH];exact d)
    have hj:p % k<k:=ik _ m;have o:=hk _ hi;have:=hm (p / k) hi (p % k) ((es (p / k))[p % k]'(by omega)) (aR (by omega))
    refine⟨b,off,ha (Nat.lt_of_le_of_lt (iK _) hi),?_⟩;rw[show off+p=off+p / k*k+p % k by rw[lr,pE p k]]
    exact this
   .simp[d] at l
theorem Rd.qF{M:Mem}{k n:Nat}{es:Nat->List C}{vs:List ak}(h:Flat M k n es vs){a:Option Addr}{b off cap:Nat}{t:Bool}(e:0<n->a=aa ⟨b,off,af⟩)(d:n<=cap)(hb:cap<=9223372036854775807)(f:t=ab->cap=n)
  (g:∀ p u,vs[p]?=aa u->M b (off+p)=aa u):Rd M (.slice a n cap) (.sl t k n es):=by
 refine .sl b off (λi j=>(vs[i*k+j]?).getD aj) d hb f h.width e (λi hi j c hj=>?_) (λi hi j c hj=>?_)
 .obtain⟨v,h1,h2⟩:=h.rd i hi j c hj;rw[h1,show off+i*k+j=off+(i*k+j) by omega]
  exact g _ _ h1
 .obtain⟨v,h1,h2⟩:=h.rd i hi j c hj;rw[h1];exact h2
theorem dO{P:an}{σ:List aW}{s:St}(m:aJ σ s){v:ak}{t:Bool}{k n:Nat}{es:Nat->List C}(h:Rd s.M v (.sl t k n es)) :
  ∃ vs,Flat s.M k n es vs/\(Builtin.firstCells k n v).run P s.w=.ok vs.toArray s.w/\Builtin.lenOf v=pure n:=by
 obtain⟨a,cap,vs,rfl,e,p,q,f,d⟩:=h.flat;refine⟨vs,f,?_,rfl⟩;have i:vs.length=n*k:=f.len;cases a with
 |none =>
  have:vs=[]:=by
   cases vs with
   |nil=>rfl
   |cons u o=>obtain⟨b,off,c,_⟩:=d 0 u rfl;cases c
  subst this;rfl
 |some ad =>
  simp only[Builtin.firstCells];rw[<-i];refine run_loadCells_list s.w ad vs λj u l=>?_
  obtain⟨b,off,c,g⟩:=d j u l;cases c;rw[di];exact m.mem _ _ _ g
theorem bR.IT{P:an}{T:List (Nat×TI)}(g:dk P T){o:av}{f:aq->D}{σ:List aW}{t:ar}{x y:aq}(h:o.op=.index t x y){l:List UInt8}{j:Int}{k:IntKind}{i:TI}{m:Nat}(hi:bL T t=aa i)(n:i.desc=.string)
  (u:f x=.e (.one (.c (.str l)))) (q:f y=.e (.one (.c (.int k j)))) (hj:j=m) (v:m<l.length):bR P o f σ (.e (.one (.c (.int .u8 (l[m]).toNat)))) σ:=by
 refine .quiet λs ρ hh hr=>?_
 have h1:=hr x;have h2:=hr y;rw[u] at h1;rw[q] at h2
 replace h1:=ga h1
 replace h2:=ga h2
 generalize a:ρ x=vx at h1;generalize b:ρ y=vy at h2;cases h1 with
 |@str sb _ r hl =>
 cases h2;subst r;have p:sb[m]?=aa (sb.data.toList[m]):=by
  have hm':m<sb.size:=by have e:sb.data.toList.length=sb.size:=gZ;omega
  rw[getElem?_pos sb m hm']
  congr 1
 refine⟨.int .u8 (sb.data.toList[m]).toNat,?_,Rd.int ?_,?_⟩
 rotate_left 2
 .have d:=(g t i hi).run_underlying (w:=s.w);rw[n] at d;simp[aw,h,a,b,Instr.index,asIntOf,d,hj,p]
 .have d:=(g t i hi).run_underlying (w:=s.w);rw[n] at d;simp[aw,h,a,b,Instr.index,asIntOf,d,hj,p]
 .have:=(sb.data.toList[m]).toNat_lt;simp only[bD];omega
theorem bR.indexAddr{P:an}{T:List (Nat×TI)}(A:dk P T){o:av}{z:aq->D}{σ:List aW}{t:ar}{x y:aq}(h:o.op=.indexAddr t x y){i g:TI}{E:ar}(hi:bL T t=aa i)(G:i.desc=.slice E)(I:bL T E=aa g)
  {tt:Bool} {n:Nat} {es:Nat->List C} {j:Int} {k:IntKind} {m:Nat} (J:∀ s v,dh σ s v (z x)->Rd s.M v (.sl tt g.size n es)) (H:z y=.e (.one (.c (.int k j)))) (hj:j=m) (d:m<n) :
  bR P o z σ (.e (.one (.c (.rp (es m))))) σ:=by
 refine .quiet λs ρ hh hr=>?_
 have h1:=J s _ (hr x);have h2:=hr y;rw[H] at h2
 replace h2:=ga h2
 generalize l:ρ x=vx at h1;generalize u:ρ y=vy at h2;cases h2;cases h1 with
 |@sl a _ cap _ _ _ b off f B hb ht hk ha hm' Qc =>
 have p:0<n:=by omega
 have F:=(A t i hi).run_underlying (w:=s.w);rw[G] at F;refine⟨.pointer (aa ⟨b,off+m*g.size,af⟩),?_,Rd.rp b (off+m*g.size) (f m) (λq c r=>hm' m d q c r) (λq c r=>Qc m d q c r),?_⟩ <;>
 simp[aw,h,l,u,Instr.indexAt,asIntOf,F,hj,ha p,(A E g I).run_sizeOf,di,d]
theorem bR.Tu{P:an}{T:List (Nat×TI)}(l:dk P T){o:av}{j:aq->D}{σ:List aW}{x:aq}{b:Array ar}{t:ar}(h:o.op=.call { callee:=.builtin .len,args:=#[x],argTypes:=b })(m:b[0]?=aa t){i:TI}{E:ar}(hi:bL T t=aa i)(p:i.desc=.slice E)
  {tt:Bool} {k n:Nat} {es:Nat->List C} (q:∀ s v,dh σ s v (j x)->Rd s.M v (.sl tt k n es)):bR P o j σ (.e (.one (.c (.int .i64 n)))) σ:=by
 refine .quiet λs ρ hh hr=>?_
 obtain⟨a,cap,vs,r,f,hb,_⟩:=(q s _ (hr x)).flat;have g:=(l t i hi).run_underlying (w:=s.w);rw[p] at g;have d:b[0]?=aa t:=m;refine⟨.int .i64 n,?_,Rd.int (by simp only[bD];omega),?_⟩ <;>
 simp[aw,h,resolve,invoke,builtin,Builtin.len_,r,g,goInt,d]
theorem bR.PY{P:an}{T:List (Nat×TI)}(k:dk P T){o:av}{j:aq->D}{σ:List aW}{x:aq}{a:Array ar}{t:ar}(h:o.op=.call { callee:=.builtin .len,args:=#[x],argTypes:=a })(m:a[0]?=aa t){i:TI}(hi:bL T t=aa i)(n:i.desc=.string)
  {l:List UInt8} (q:j x=.e (.one (.c (.str l)))):bR P o j σ (.e (.one (.c (.int .i64 l.length)))) σ:=by
 refine .quiet λs ρ hh hr=>?_
 have h1:=hr x;rw[q] at h1
 replace h1:=ga h1
 generalize d:ρ x=vx at h1;cases h1 with
 |@str sb _ p hl =>
 have g:=(k t i hi).run_underlying (w:=s.w);rw[n] at g;have f:a[0]?=aa t:=m;have b:sb.size=l.length:=by rw[<-p];exact gZ.symm
 refine⟨.int .i64 l.length,?_,Rd.int (by simp only[bD];omega),?_⟩ <;>
 simp[aw,h,resolve,invoke,builtin,Builtin.len_,d,g,goInt,f,b]
def St.newRow(s:St)(E:ar)(vs:List ak):St :=
 { β:=s.β,M:=λb o=>if b=s.w.heap.size then vs[o]? else s.M b o,w:=s.w.alloc (.cells vs.toArray E),own:=s.own }
theorem aJ.newRow{σ:List aW}{s:St}(h:aJ σ s)(E:ar)(vs:List ak):aJ σ (s.newRow E vs)/\Step σ s σ (s.newRow E vs):=by
 refine h.grow (by simp) (λb hb=>cN _ _ hb) (λb hb o=>by simp[show b≠s.w.heap.size by omega]) (λb hb o v a=>?_) rfl rfl rfl
 by_cases e:b=s.w.heap.size
 .subst e;simp at a;show aY (s.w.alloc (.cells vs.toArray E)) ⟨s.w.heap.size,o,af⟩=aa v;unfold aY;simp only[dE];simpa using a
 .simp only[e,bH] at a;have:=h.block a;omega
theorem Gw(s:St)(E:ar)(vs:List ak):∀ p u,vs[p]?=aa u->(s.newRow E vs).M s.w.heap.size (0+p)=aa u:=by
 intro p u h;simpa[St.newRow] using h
def gH:List A->Option (List C)
 |[]=>aa []
 |.c c::r=>match gH r with|some q=>aa (c::q)|none=>af
 |.vec _ k n es::r=>match gH r with|some q=>aa (.sl ae k n es::q)|none=>af
 |_::_=>af
theorem ki{σ:List aW}{s:St}:∀ {cs:List A}{r:List C}{vs:List ak},gH cs=aa r->dX σ s vs cs->dX σ s vs (r.map A.c)
 |[],r,vs,h,a=>by cases h;exact a
 |_::_,_,[],_,a=>a.elim
 |.c c::al,r,v::vs,h,a=>by
  simp only[gH] at h;cases b:gH al with
  |none=>simp[b] at h
  |some q=>simp[b] at h;subst h;exact⟨a.1,ki b a.2⟩
 |.vec l k n es::al,r,v::vs,h,a=>by
  simp only[gH] at h;cases b:gH al with
  |none=>simp[b] at h
  |some q=>simp[b] at h;subst h;exact⟨a.1.1,ki b a.2⟩
 |.ptr l o::al,r,v::vs,h,a=>by simp[gH] at h
 |.ref l::al,r,v::vs,h,a=>by simp[gH] at h
 |.bp l w::al,r,v::vs,h,a=>by simp[gH] at h
 |.any::al,r,v::vs,h,a=>by simp[gH] at h
def qI{α:Type}(k:Nat):Nat->List α->Option (List (List α))
 |0,[]=>aa []
 |0,_::_=>af
 |n+1,l=>match oB k l with
  |some c=>match qI k n (im k l) with
   |some r=>aa (c::r)
   |none=>af
  |none=>af
theorem dX.closed{σ:List aW}{s:St}:∀ {vs:List ak}{cs:List C},dX σ s vs (cs.map A.c)->∀ (j:Nat)(c:C),cs[j]?=aa c->∃ v,vs[j]?=aa v/\Rd s.M v c:=by
 intro vs cs h j c hj;obtain⟨v,h1,h2⟩:=h.get (j:=j) (a:=.c c) (by simp[hj])
 exact⟨v,h1,h2⟩
theorem sH{M:Mem}{k:Nat}:∀ {n:Nat}{cs:List C}{es:List (List C)}{vs:List ak},qI k n cs=aa es->vs.length=cs.length->(∀ (j:Nat)(c:C),cs[j]?=aa c->∃ v,vs[j]?=aa v/\Rd M v c)->es.length=n/\Flat M k n (λi=>es.getD i []) vs
 |0,[],es,vs,h,a,l=>by cases h;simp at a;subst a;exact⟨rfl,.nil⟩
 |0,_::_,es,vs,h,a,l=>by cases h
 |n+1,cs,es,vs,h,a,l=>by
  simp only[qI] at h;cases o:oB k cs with
  |none=>simp[o] at h
  |some c =>
   simp only[o] at h;cases g:qI k n (im k cs) with
   |none=>simp[g] at h
   |some q =>
    simp[g] at h;subst h;obtain⟨m,b⟩:=ni o;rw[ny] at g;obtain⟨t,s⟩:=sH (vs:=vs.drop k) g (by simp[a]) (λj c f=>by
     obtain⟨v,m,b⟩:=l (k+j) c (by simpa using f)
     exact⟨v,by simpa using m,b⟩)
    refine⟨by simp[t],?_⟩
    have u:k<=cs.length:=by rw[m,bn] at b;omega
    have r:Flat M k 1 (λ_=>c) (vs.take k):=by
     refine⟨by simp[a];omega,by simp[b],λi hi j x f=>?_⟩
     cases i with
     |zero =>
      have d:j<k:=by rw[<-b];exact(bt.1 f).1
      obtain⟨v,p,p2⟩:=l j x (by rw[m,et] at f;simpa[d] using f)
      exact⟨v,by rw[et];simpa[d] using p,p2⟩
     |succ i=>omega
    have:=r.append s;rw[kC 1 n] at this;have e:cX 1 (λ_=>c) (λi=>q.getD i [])=λi=>(c::q).getD i []:=by
     funext i
     cases i <;> simp[cX]
    rw[e] at this;simpa using this
def Dc(T:List (Nat×TI))(a:aq->D)(t:ar)(n:Nat)(parts:List (Nat×aq)):Option (Nat×List (List C)) :=
 match bL T t with
 |some i=>match i.desc with
  |.slice E=>match bL T E with
   |some ie=>match aA ie.size 0 with
    |true=>af
    |false=>match bw (n*ie.size) 16777216 with
     |true=>match n7 a parts with
      |some ps=>match vu (λk=>aa (k*ie.size,ie.size)) ps (List.replicate (n*ie.size) A.any) with
       |some cs=>match gH cs with
        |some r=>match qI ie.size n r with
         |some es=>aa (ie.size,es)
         |none=>af
        |none=>af
       |none=>af
      |none=>af
     |false=>af
   |none=>af
  |_=>af
 |none=>af
theorem bR.buildSlice{P:an}{T:List (Nat×TI)}(O:dk P T){o:av}{W:aq->D}{σ:List aW}{t:ar}{n:Nat}{parts:Array (Nat×aq)}(h:o.op=.buildSlice t n parts){k:Nat}{es:List (List C)}
  (a:Dc T W t n parts.toList=aa (k,es)):bR P o W σ (.e (.one (.c (.sl ab k n λi=>es.getD i [])))) σ:=by
 intro s ρ hh hr;unfold Dc at a;cases hi:bL T t with
 |none=>simp[hi] at a
 |some i =>
  simp only[hi] at a;cases Y:i.desc with
  |slice E =>
   simp only[Y] at a;cases N:bL T E with
   |none=>simp[N] at a
   |some ie =>
    simp only[N] at a;cases Q:aA ie.size 0 with
    |true=>simp[Q] at a
    |false =>
     simp only[Q] at a;cases y:bw (n*ie.size) 16777216 with
     |false=>simp[y] at a
     |true =>
      simp only[y] at a;cases g:n7 W parts.toList with
      |none=>simp[g] at a
      |some ps =>
       simp only[g] at a;cases j:vu (λk=>aa (k*ie.size,ie.size)) ps (List.replicate (n*ie.size) A.any) with
       |none=>simp[j] at a
       |some cs =>
        simp only[j] at a;cases f:gH cs with
        |none=>simp[f] at a
        |some r =>
         simp only[f] at a;cases l:qI ie.size n r with
         |none=>simp[l] at a
         |some es' =>
          simp only[l,cV,kB] at a;obtain⟨rfl,rfl⟩:=a;have X:ie.size≠0:=λe=>by rw[e] at Q;cases Q
          have Z:=dn y;obtain⟨inf,z,z1,z2,z3,z4,z5,z6,z7⟩:=(O E ie N).info;have hzs:z.cells.size=ie.size:=by
           have:=dc List.length z5;simp at this;omega
          have V:∀ v∈z.cells.toList,c8 v=ab:=by
           intro v F;have d:ql v∈z.cells.toList.map ql:=jK.2 ⟨v,F,rfl⟩;rw[z5] at d;obtain⟨c,_,hc⟩:=jK.1 d;exact(Rd.ql (M:=s.M) hc.symm).cell
          have I:∀ m,(∀ v∈(bc m).map (λq=>z.cells[q % z.cells.size]!),c8 v=ab):=by
           intro m v F;obtain⟨q,_,rfl⟩:=jK.1 F;have J:q % z.cells.size<z.cells.size:=ik _ (by omega)
           apply V
           rw[pI z.cells _ J];exact Array.getElem_mem_toList J
          have G:∀ vs:List ak,(∀ v∈vs,c8 v=ab)->dX σ s vs (List.replicate vs.length A.any):=by
           intro vs
           induction vs with
           |nil=>intro _;trivial
           |cons v vs ih=>intro F;exact⟨F v (by simp),ih λu L=>F u (by simp[L])⟩
          obtain⟨p1,p2⟩:=pT (σ:=σ) (s:=s) hr g;have R:dX σ s ((Array.range (n*ie.size)).map (λq=>z.cells[q % z.cells.size]!)).toList (List.replicate (n*ie.size) A.any):=by
           have:=G _ (I (n*ie.size));simpa using this
          obtain⟨H,u1,u2⟩:=rI (σ:=σ) (s:=s) (place':=λk=>aa (k*ie.size,ie.size)) (λk p hk=>hk) j p1 p2 R
          have u3:=ki f u2;obtain⟨c1,c2⟩:=sH (M:=s.M) (vs:=H.toList) l (by simpa using u3.length) u3.closed
          obtain⟨g1,g2⟩:=hh.newRow E H.toList;refine⟨.value (.slice (aa ⟨s.w.heap.size,0,af⟩) n n),s.newRow E H.toList,?_,?_,g1,g2,?_⟩
          rotate_left 2
          .have e:(aw ρ o).events P s.w #[]=#[]:=by
            simp only[aw,h];exact cR.bind cR.buildSlice (λ_=>cR.pure) _ _
           rw[e];exact .nil
          .have L:=(O t i hi).run_underlying (w:=s.w);rw[Y] at L;have U:(zeroValue E).run P s.w=.ok z s.w:=by simp[zeroValue,typeInfo,z1,z4]
           have B:Instr.fill (λk=>aa (k*ie.size,ie.size)) ((Array.range (n*ie.size)).map (λq=>z.cells[q % z.cells.size]!)) (parts.map λ(i,x)=>(i,ρ x)).toList=aa H:=by simpa using u1
           by_cases h0:n*ie.size=0
           .have S:n=0:=by rcases Nat.mul_eq_zero.1 h0 with h|h;exact h;exact absurd h X
            subst S;have K:Array.range 0=#[]:=rfl;simp[K] at B;simp[aw,h,Instr.buildSlice,L,(O E ie N).run_sizeOf,K,B,Go.newRow,St.newRow]
           .rw[show aw ρ o=(do pure (.value (<-Instr.buildSlice t n (parts.map λ(i,x)=>(i,ρ x))))) by simp[aw,h]]
            simp only[Instr.buildSlice,bZ,L,cg,(O E ie N).run_sizeOf,h0,bH,U,show ¬n*ie.size>2 ^ 24 by omega,pM,B,c7]
            simp[Go.newRow,St.newRow]
          .refine Rd.qF (c2.mono g2.mem) (b:=s.w.heap.size) (off:=0) (λ_=>rfl) (ba _) ?_ (λ_=>rfl) (Gw s E H.toList)
           have:n<=n*ie.size:=qZ n (by omega)
           omega
  |_=>simp[Y] at a
theorem Ext.trans{σ σ1 σ2:List aW}{s a s2:St}(h:Ext σ s σ1 a)(k:Ext σ1 a σ2 s2):Ext σ s σ2 s2:=by
 refine⟨λb o v r=>k.mem _ _ _ (h.mem _ _ _ r),λl B L j e=>?_⟩
 obtain⟨B1,L1,h1,h2,f⟩:=h.box l B L j e;obtain⟨p,n,k1,m,c⟩:=k.box l B1 L1 h1 h2;exact⟨p,n,k1,m,f.trans c⟩
theorem gj{α:Type}{l:List α}{x y:α}{i:Nat}(h:(l++[x])[i]?=aa y):l[i]?=aa y∨(i=l.length/\y=x):=by
 rcases uU i l.length with a|rfl|b
 .rw[b7 a] at h;exact .inl h
 .simp at h;exact .inr ⟨rfl,h.symm⟩
 .rw[dg (by omega)] at h
  cases c:i-l.length with
  |zero=>omega
  |succ n=>simp[c] at h
theorem aJ.ix{σ:List aW}{s a:St}(h1:aJ σ a)(st:Step σ s σ a)(j:a.β=s.β)(hh:aJ σ s){B:aW}{L:Loc}(p:eZ (σ++[B]) { a with β:=a.β++[L] } B L)
  (c:∀ b∈L.bs,s.w.heap.size<=b/\b<a.w.heap.size):aJ (σ++[B]) { a with β:=a.β++[L] }/\Step σ s (σ++[B]) { a with β:=a.β++[L] }:=by
 have ex:Ext σ a (σ++[B]) { a with β:=a.β++[L] }:=by
  refine⟨λ_ _ _ h=>h,λl B' L' lb hU=>?_⟩
  have hl:l<a.β.length:=(bt.1 hU).1;have n:l<σ.length:=(bt.1 lb).1;exact⟨B',L',by rw[b7 n,lb],by rw[b7 hl,hU],.refl _ _⟩
 have e2:=st.ext.trans ex;refine⟨⟨h1.mem,by simp[h1.len],?_,?_,?_,?_⟩,⟨st.size,st.eH,st.mem,st.jq,?_,e2.box,st.os,st.tape,st.output,st.own⟩⟩
 .intro l B' L' lb hU;rcases gj lb with k|⟨rfl,rfl⟩
  .have hl:l<a.β.length:=by rw[h1.len];exact(bt.1 k).1
   rw[b7 hl] at hU;exact(h1.box l B' L' k hU).carry ex h1.len λ_ _=>⟨rfl,λ_=>rfl⟩
  .rcases gj hU with f|⟨_,rfl⟩
   .have:=(bt.1 f).1;rw[h1.len] at this;omega
   .exact p
 .intro l l' L1 L2 f m b hb oP;rcases gj f with k1|⟨rfl,rfl⟩ <;> rcases gj m with o|⟨rfl,rfl⟩
  .exact h1.gb l l' L1 L2 k1 o b hb oP
  .have a1:=c b oP;have a2:=hh.lt L1 (by rw[<-j];exact bz k1) b hb
   omega
  .have a1:=c b hb;have a2:=hh.lt L2 (by rw[<-j];exact bz o) b oP
   omega
  .rfl
 .intro L' hU b hb;simp only[dr,fV] at hU;rcases hU with hU|rfl
  .exact h1.lt L' hU b hb
  .exact(c b hb).2
 .intro b hb;refine⟨(h1.own b hb).1,λL' hU LS=>?_⟩
  simp only[dr,fV] at hU;rcases hU with hU|rfl
  .exact(h1.own b hb).2 L' hU LS
  .have e:=st.own;simp only at hb;rw[e] at hb;have:=(hh.own b hb).1;have:=(c b LS).1;omega
 .intro L' hU b hb;simp only[dr,fV] at hU;rcases hU with hU|rfl
  .exact st.tK L' hU b hb
  .exact .inl (c b hb).1
theorem aJ.iT{σ:List aW}{s:St}{M':Mem}{w':az}(hh:aJ σ s){l:Nat}{B B':aW}{L L':Loc}(A:σ[l]?=aa B)(f:s.β[l]?=aa L)(I:iN B L B' L')
  (H:s.w.heap.size<=w'.heap.size) (O:∀ b,b<s.w.heap.size->b∉L.bs->w'.heap[b]?=s.w.heap[b]?) (K:∀ b,b<s.w.heap.size->b∉L.bs->∀ o,M' b o=s.M b o)
  (z:∀ b o v,s.M b o=aa v->M' b o=aa v) (Q:∀ b o v,M' b o=aa v->w'.cell? ⟨b,o,af⟩=aa v)
  (k:∀ b∈L'.bs,(b∈L.bs∨s.w.heap.size<=b)/\b<w'.heap.size)
  (V:w'.os=s.w.os) (R:w'.tape=s.w.tape) (S:w'.output=s.w.output)
  (U:eZ (σ.set l B') ⟨s.β.set l L',M',w',s.own⟩ B' L'):aJ (σ.set l B') ⟨s.β.set l L',M',w',s.own⟩/\Step σ s (σ.set l B') ⟨s.β.set l L',M',w',s.own⟩:=by
 have n:l<σ.length:=(bt.1 A).1;have r:l<s.β.length:=(bt.1 f).1;have a:∀ i X,(s.β.set l L')[i]?=aa X->(i=l/\X=L')∨(i≠l/\s.β[i]?=aa X):=by
  intro i X c
  by_cases e:l=i
  .subst e;rw[cf r] at c;cases c;exact .inl ⟨rfl,rfl⟩
  .rw[cQ e] at c;exact .inr ⟨λh=>e h.symm,c⟩
 have ex:Ext σ s (σ.set l B') ⟨s.β.set l L',M',w',s.own⟩:=by
  refine⟨z,λi X Y c p=>?_⟩
  by_cases e:l=i
  .subst e;rw[A] at c;cases c;rw[f] at p;cases p;exact⟨B',L',cf n,cf r,I⟩
  .exact⟨X,Y,by rw[cQ e];exact c,by rw[cQ e];exact p,.refl _ _⟩
 have out:∀ i X,i≠l->s.β[i]?=aa X->∀ b∈X.bs,b<s.w.heap.size/\b∉L.bs:=by
  intro i X hi c b hb;exact⟨hh.lt X (bz c) b hb,λF=>hi (hh.gb i l X L c f b hb F)⟩
 refine⟨⟨Q,by simp[hh.len],?_,?_,?_,?_⟩,⟨H,?_,z,?_,?_,ex.box,V,R,S,rfl⟩⟩
 .intro i X Y c p;rcases a i Y p with⟨rfl,rfl⟩|⟨hi,p⟩
  .rw[cf n] at c;cases c;exact U
  .rw[cQ (λe=>hi e.symm)] at c
   refine(hh.box i X Y c p).carry ex hh.len λb hb=>?_
   obtain⟨D,y⟩:=out i Y hi p b hb;exact⟨O b D y,K b D y⟩
 .intro i G X J c j b hb oP;rcases a i X c with⟨rfl,rfl⟩|⟨hi,C⟩ <;> rcases a G J j with⟨rfl,rfl⟩|⟨m,u⟩
  .rfl
  .obtain⟨D,y⟩:=out G J m u b oP;rcases(k b hb).1 with h|h
   .exact absurd h y
   .omega
  .obtain⟨D,y⟩:=out i X hi C b hb;rcases(k b oP).1 with h|h
   .exact absurd h y
   .omega
  .exact hh.gb i G X J C u b hb oP
 .intro X c b hb;obtain⟨i,hi,rfl⟩:=dN c;rcases a i _ (aR hi) with⟨rfl,e⟩|⟨m,j⟩
  .rw[e] at hb;exact(k b hb).2
  .have:=(out i _ m j b hb).1;show b<w'.heap.size;omega
 .intro b hb;obtain⟨W,N⟩:=hh.own b hb;refine⟨by show b<w'.heap.size;omega,λX c x=>?_⟩
  obtain⟨i,hi,rfl⟩:=dN c;rcases a i _ (aR hi) with⟨rfl,e⟩|⟨m,j⟩
  .rw[e] at x;rcases(k b x).1 with h|h
   .exact N L (bz f) h
   .omega
  .exact N _ (bz j) x
 .intro b hb hn;exact O b hb (hn L (bz f))
 .intro b hb hn o;exact K b hb (hn L (bz f)) o
 .intro X c b hb;obtain⟨i,hi,rfl⟩:=dN c;rcases a i _ (aR hi) with⟨rfl,e⟩|⟨m,j⟩
  .rw[e] at hb;rcases(k b hb).1 with h|h
   .exact .inr ⟨L,bz f,h⟩
   .exact .inl h
  .exact .inr ⟨_,bz j,hb⟩
theorem rA{a old bytes:Nat}(h:old<a)(b:a*bytes<=140737488355328):¬Builtin.nextslicecap a old*bytes>2 ^ 48:=by
 have:=growslice_fits h b;omega
section
variable {P:an}{T:List (Nat×TI)}(q:dk P T){σ:List aW}{s:St}{t g ty E:ar}{i i2 d:TI}
theorem jf(hi:bS P t i)(r:i.desc=.slice E)(h:bS P g i2)(f:i2.desc=.slice E)(v:bS P E d)(y:aJ σ s)
  {a:Option Addr} {n cap:Nat} (e:n<=cap) {x:ak} {tx:Bool} {es':Nat->List C} (l:Rd s.M x (.sl tx d.size 0 es')) :
  (Builtin.append_ #[t,g] ty #[.slice a n cap,x]).run P s.w=.ok (.slice a n cap) s.w:=by
 obtain⟨c,u,p,k⟩:=dO (P:=P) y l;have o:=hi.run_underlying (w:=s.w);have b:=h.run_underlying (w:=s.w);rw[r] at o;rw[f] at b;obtain⟨a',m,vs,rfl,_⟩:=l.flat;have j:c=[]:=gh (by simpa using u.len)
 subst j;cases a <;> simp[Builtin.append_,o,b,v.run_sizeOf,Builtin.lenOf,e,p,storeCells]
theorem iy(hi:bS P t i)(hd:i.desc=.slice E)(G:bS P g i2)(K:i2.desc=.slice E)(R:bS P E d)(W:aJ σ s)
  {a:Option Addr} {n cap m:Nat} {V tx:Bool} {es es':Nat->List C} {x:ak} (hv:Rd s.M (.slice a n cap) (.sl V d.size n es)) (hx:Rd s.M x (.sl tx d.size m es')) (hg:cap<n+m) (L:(n+m)*d.bytes<=140737488355328) (B:d.bytes≠0) :
  ∃ vs zs Mi,Flat s.M d.size (n+m) (cX n es es') vs/\n+m<=Mi/\Mi<=9223372036854775807/\(vs++zs).length=Mi*d.size /\
   (Builtin.append_ #[t,g] ty #[.slice a n cap,x]).run P s.w=.ok (.slice (aa ⟨s.w.heap.size,0,af⟩) (n+m) Mi) (s.w.drew.alloc (.cells (vs++zs).toArray E)):=by
 have y:aJ σ { s with w:=s.w.drew }:=W.same rfl;obtain⟨b,O,A,o⟩:=dO (P:=P) y (v:=x) hx;obtain⟨c,l,h,S⟩:=dO (P:=P) y (v:=.slice a n cap) hv;have Q:=hi.run_underlying (w:=s.w);have j:=G.run_underlying (w:=s.w);rw[hd] at Q;rw[K] at j;obtain⟨k,z,N,z2,z3,U,X,z6,z7⟩:=R.info;have Y:n+m<=140737488355328:=eG (qZ _ (Nat.pos_of_ne_zero B)) L;have D:z.cells.size=d.size:=by
  have:=dc List.length X;simp at this;omega
 refine⟨c++b,(Builtin.zeroCells z.cells (grownCap s.w (n+m) cap E-(n+m))).toList,grownCap s.w (n+m) cap E,l.append O,grownCap_ge _ _ _ _,?_,?_,?_⟩
 .have:=grownCap_le_maxLen s.w (n+m) cap E (by unfold maxLen;omega)
  unfold maxLen at this;omega
 .have Pv:=grownCap_ge s.w (n+m) cap E;simp only[bF,l.len,O.len,gZ,size_zeroCells,D,<-ey]
  congr 1
  omega
 .have H:=rA hg L;have p:¬Builtin.nextslicecap (n+m) cap*k.bytes>2 ^ 48:=by rw[z3];exact H
  have r:¬n+m<=cap:=by omega
  have J:¬((n+m:Nat):Int)>IntKind.i64.max:=by
   have e:IntKind.i64.max=9223372036854775807:=rfl;rw[e];omega
  have I:∀ u,(typeInfo E).run P u=.ok k u:=λu=>by simp[typeInfo,N]
  have F:∀ u,(zeroValue E).run P u=.ok z u:=λu=>by simp[zeroValue,typeInfo,N,U]
  have f:(Builtin.lenOf x).run P s.w=.ok m s.w:=by rw[o];rfl
  replace A:(Builtin.firstCells d.size m x).run P s.w.drew=.ok b.toArray s.w.drew:=A
  replace h:(Builtin.firstCells d.size n (.slice a n cap)).run P s.w.drew=.ok c.toArray s.w.drew:=h
  unfold Builtin.append_;simp only[iR,kZ,lK,bZ,Q,j,cg,R.run_sizeOf,c7,gi,bH,f,r,
   J,false_and,I,p,run_choose,Question.forced,run_askRoom,pM,World.drew_eq,h,A,kg,bO,F]
  simp[Go.newRow,grownCap];have e:∀ Z:Array ak,(c++b).toArray++Z=(c++(b++Z.toList)).toArray:=λZ=>by apply il;simp
  rw[e];rfl
theorem kh(hi:bS P t i)(F:i.desc=.slice E)(p:bS P g i2)(r:i2.desc=.slice E)(G:bS P E d)(B:aJ σ s)
  {b n cap m:Nat} {u:ar} {c:List ak} (A:s.w.heap[b]?=aa (.cells c.toArray u (0,0))) (l:c.length=cap*d.size) {tx:Bool} {es':Nat->List C} {x:ak} (D:Rd s.M x (.sl tx d.size m es')) (y:n+m<=cap) :
  ∃ a,Flat s.M d.size m es' a/\(Builtin.append_ #[t,g] ty #[.slice (aa ⟨b,0,af⟩) n cap,x]).run P s.w=.ok (.slice (aa ⟨b,0,af⟩) (n+m) cap) (s.w.setRow b (c.take (n*d.size)++a++c.drop (n*d.size+a.length)).toArray):=by
 obtain⟨a,o,z,j⟩:=dO (P:=P) B D;have v:=hi.run_underlying (w:=s.w);have f:=p.run_underlying (w:=s.w);rw[F] at v;rw[r] at f;have k:n*d.size+a.length<=c.length:=by
  rw[o.len,l,<-ey];exact er _ y
 have h:=run_storeCells_at P b (n*d.size) u a 0 c.toArray s.w A (by simpa using k) o.cell
 simp only[gG] at h;have e:(Builtin.lenOf x).run P s.w=.ok m s.w:=by rw[j];rfl
 refine⟨a,o,?_⟩;unfold Builtin.append_;simp only[iR,kZ,lK,bZ,v,f,cg,G.run_sizeOf,c7,gi,bH,e,y,bO,kg,z,di,bm,h]
end
theorem C9{α:Type}{P:an}{x:Sem α}{w:az}{es:Array Event}{e:Event}(h:e∈x.events P w es):e∈es∨e∈x.events P w #[]:=by
 rw[Sem.events_acc] at h;exact Array.mem_append.1 h
def Y3(s:St)(e:Event):Prop:=∃ b o u,e=zl b o/\s.M b o=aa u
theorem gX{P:an}{σ:List aW}{s:St}(D:aJ σ s){v:ak}{t:Bool}{k n:Nat}{es:Nat->List C}(h:Rd s.M v (.sl t k n es)){w:az}(y:w.heap=s.w.heap) :
  ∀ e∈(Builtin.firstCells k n v).events P w #[],Y3 s e:=by
 obtain⟨a,cap,vs,rfl,r,H,I,B,z⟩:=h.flat;have J:vs.length=n*k:=B.len;intro e m;cases a with
 |none=>simp[Builtin.firstCells] at m
 |some ad =>
  simp only[Builtin.firstCells] at m;have c:∀ j,j<n*k->∃ b off u,ad=⟨b,off,af⟩/\s.M b (off+j)=aa u:=by
   intro j o;obtain⟨b,off,G,f⟩:=z j (vs[j]'(by omega)) (aR (by omega))
   cases G;exact⟨b,off,_,rfl,f⟩
  by_cases A:n*k=0
  .rw[A] at m;simp[loadCells,loadCellsFrom] at m
  .obtain⟨b,off,_,rfl,_⟩:=c 0 (by omega)
   have F:∀ j,j<n*k->∃ v,w.cell? ⟨b,off+j,af⟩=aa v:=by
    intro j o;obtain⟨x,l,u,p,f⟩:=c j o;cases p;have:=D.mem _ _ _ f;exact⟨u,by simp only[aY,y] at this ⊢;exact this⟩
   rcases rB (P:=P) F e m with h|⟨j,o,rfl⟩
   .simp at h
   .obtain⟨x,l,u,p,f⟩:=c j o;cases p;exact⟨_,_,u,rfl,f⟩
theorem sG{s:St}{e:Event}(h:Y3 s e):oG s e:=by
 obtain⟨b,o,u,rfl,a⟩:=h;exact A3 a
section
variable {P:an}{σ:List aW}{s:St}{t g ty E:ar}{i i2 d:TI}
theorem jL(hi:bS P t i)(y:i.desc=.slice E)(k:bS P g i2)(j:i2.desc=.slice E)(B:bS P E d)(p:aJ σ s)
  {a:Option Addr} {n cap:Nat} (f:n<=cap) {x:ak} {tx:Bool} {es':Nat->List C} (l:Rd s.M x (.sl tx d.size 0 es')) :
  ft s ((Builtin.append_ #[t,g] ty #[.slice a n cap,x]).events P s.w #[]):=by
 obtain⟨c,z,v,o⟩:=dO (P:=P) p l;have h:=gX (P:=P) p l (w:=s.w) rfl;have u:=hi.run_underlying (w:=s.w);have b:=k.run_underlying (w:=s.w);rw[y] at u;rw[j] at b;obtain⟨a',r,vs,rfl,_⟩:=l.flat;have m:c=[]:=gh (by simpa using z.len)
 subst m;intro e A;refine sG (h e ?_);cases a <;> simpa[Builtin.append_,u,b,B.run_sizeOf,Builtin.lenOf,f,v,storeCells] using A
theorem iW(hi:bS P t i)(hd:i.desc=.slice E)(K:bS P g i2)(U:i2.desc=.slice E)(hE:bS P E d)(L:aJ σ s)
  {a:Option Addr} {n cap m:Nat} {td tx:Bool} {es es':Nat->List C} {x:ak} (Z:Rd s.M (.slice a n cap) (.sl td d.size n es)) (Y:Rd s.M x (.sl tx d.size m es')) (hg:cap<n+m) (V:(n+m)*d.bytes<=140737488355328) (I:d.bytes≠0) :
  ft s ((Builtin.append_ #[t,g] ty #[.slice a n cap,x]).events P s.w #[]):=by
 have G:aJ σ { s with w:=s.w.drew }:=L.same rfl;obtain⟨A,hF,H,c⟩:=dO (P:=P) G (v:=x) Y;obtain⟨D,hFo,k,hlo⟩:=dO (P:=P) G (v:=.slice a n cap) Z;have S:=gX (P:=P) L Y (w:=s.w.drew) rfl;have y:=gX (P:=P) L Z (w:=s.w.drew) rfl;have X:=hi.run_underlying (w:=s.w);have p:=K.run_underlying (w:=s.w);rw[hd] at X;rw[U] at p;obtain⟨f,z,W,z2,z3,z4,z5,z6,z7⟩:=hE.info;have hle:n+m<=140737488355328:=eG (qZ _ (Nat.pos_of_ne_zero I)) V;have N:=rA hg V;have B:¬Builtin.nextslicecap (n+m) cap*f.bytes>2 ^ 48:=by rw[z3];exact N
 have F:¬n+m<=cap:=by omega
 have Q:¬((n+m:Nat):Int)>IntKind.i64.max:=by
  have e:IntKind.i64.max=9223372036854775807:=rfl;rw[e];omega
 have O:∀ u,(typeInfo E).run P u=.ok f u:=λu=>by simp[typeInfo,W]
 have J:∀ u,(zeroValue E).run P u=.ok z u:=λu=>by simp[zeroValue,typeInfo,W,z4]
 have j:(Builtin.lenOf x).run P s.w=.ok m s.w:=by rw[c];rfl
 have l:(Builtin.lenOf x).events P s.w #[]=#[]:=by rw[c];rfl
 replace H:(Builtin.firstCells d.size m x).run P s.w.drew=.ok A.toArray s.w.drew:=H
 replace k:(Builtin.firstCells d.size n (.slice a n cap)).run P s.w.drew=.ok D.toArray s.w.drew:=k
 intro e o;unfold Builtin.append_ at o;simp only[iR,kZ,lK,aP,bZ,X,p,cg,aV,hE.run_sizeOf,c7,gi,bH,j,l,F,
  Q,false_and,O,B,run_choose,Question.forced,run_askRoom,pM,Sem.events_ite,World.drew_eq,k,H,kg,bO,J,events_underlying,events_sizeOf,events_typeInfo,events_choose,events_zeroValue,Sem.events_pure] at o
 have R:∀ (x:Nat) (w:az) (e:Event),e∈(askRoom x).events P w #[]->e=⟨.mark .noRoom,ae,ab⟩:=by
  intro x w e h;unfold askRoom at h;split at h
  .simpa using h
  .simp at h
 rw[cR.newRow (P:=P)] at o;generalize (Go.newRow E _).run P s.w.drew=r at o;have b:e∈(Builtin.firstCells d.size m x).events P s.w.drew ((Builtin.firstCells d.size n (.slice a n cap)).events P s.w.drew ((askRoom ((Question.appendCap (n+m) cap E).cut (s.w.tape s.w.drawn (Question.appendCap (n+m) cap E))*f.bytes)).events P s.w.drew #[])):=by
  cases r with
  |ok v w'=>simpa using o
  |halt v w'=>simpa using o
 rcases C9 b with b|b
 .rcases C9 b with b|b
  .rw[R _ _ _ b];exact .inl rfl
  .exact sG (y e b)
 .exact sG (S e b)
theorem lO(hi:bS P t i)(S:i.desc=.slice E)(B:bS P g i2)(G:i2.desc=.slice E)(U:bS P E d)(J:aJ σ s)
  {b n cap m:Nat} {I:ar} {a:List ak} (H:s.w.heap[b]?=aa (.cells a.toArray I (0,0))) (y:a.length=cap*d.size) {tx:Bool} {es':Nat->List C} {x:ak} (N:Rd s.M x (.sl tx d.size m es')) (O:n+m<=cap)
  {L:Loc} (R:L∈s.β) (z:b∈L.bs) (l:∀ o,n*d.size<=o->s.M b o=af) :
  ft s ((Builtin.append_ #[t,g] ty #[.slice (aa ⟨b,0,af⟩) n cap,x]).events P s.w #[]):=by
 obtain⟨c,A,Q,f⟩:=dO (P:=P) J N;have F:=gX (P:=P) J N (w:=s.w) rfl;have K:=hi.run_underlying (w:=s.w);have u:=B.run_underlying (w:=s.w);rw[S] at K;rw[G] at u;have k:n*d.size+c.length<=a.length:=by
  rw[A.len,y,<-ey];exact er _ O
 have v:=run_storeCells_at P b (n*d.size) I c 0 a.toArray s.w H (by simpa using k) A.cell
 simp only[gG] at v;have p:(Builtin.lenOf x).run P s.w=.ok m s.w:=by rw[f];rfl
 have r:(Builtin.lenOf x).events P s.w #[]=#[]:=by rw[f];rfl
 intro e D;unfold Builtin.append_ at D;simp only[iR,kZ,lK,aP,bZ,K,u,aV,U.run_sizeOf,c7,gi,bH,p,r,O,bO,kg,Q,di,bm,v,
  pM,Sem.events_ite,events_underlying,events_sizeOf,Sem.events_pure] at D
 rcases eN c 0 a.toArray s.w _ H (by simpa using k) A.cell e D with h|⟨j,V,W,rfl⟩
 .exact sG (F e h)
 .exact mv R z (l _ (by omega))
end
structure mr (P:an)(o:av)(x y:aq)(E:ar)(d:TI):Prop where
 op:∃ t g i i2,o.op=.call { callee:=.builtin .append,args:=#[x,y],argTypes:=#[t,g] }/\bS P t i/\i.desc=.slice E/\bS P g i2/\i2.desc=.slice E
 elem:bS P E d
 bytes:d.bytes≠0
 size:d.size≠0
def St.grown(s:St)(E:ar)(vs zs:List ak)(β:List Loc):St :=
 { β:=β,M:=λb o=>if b=s.w.heap.size then vs[o]? else s.M b o,w:=s.w.drew.alloc (.cells (vs++zs).toArray E),own:=s.own }
theorem xY{σ:List aW}{s:St}(h:aJ σ s)(E:ar)(vs zs:List ak):∀ b o v,(if b=s.w.heap.size then vs[o]? else s.M b o)=aa v->(s.w.drew.alloc (.cells (vs++zs).toArray E)).cell? ⟨b,o,af⟩=aa v:=by
 intro b o v a
 by_cases e:b=s.w.heap.size
 .subst e;simp only[bO] at a;unfold aY;have:(s.w.drew.alloc (.cells (vs++zs).toArray E)).heap[s.w.heap.size]?=aa (.cells (vs++zs).toArray E):=dE s.w.drew _;simp only[this];have c:o<vs.length:=(bt.1 a).1;simpa[b7 c] using a
 .simp only[e,bH] at a;have f:=h.block a;rw[<-h.mem b o v a];unfold aY;have:(s.w.drew.alloc (.cells (vs++zs).toArray E)).heap[b]?=s.w.heap[b]?:=cN s.w.drew _ f;simp only[this]
theorem xZ{σ:List aW}{s:St}(h:aJ σ s)(vs:List ak):∀ b o v,s.M b o=aa v->(if b=s.w.heap.size then vs[o]? else s.M b o)=aa v:=by
 intro b o v a;have:=h.block a;rw[aO (by omega)]
 exact a
theorem eD{P:an}{s:St}{m:Sem ak}(h:ft s (m.events P s.w #[])):ft s ((do pure (.value (<-m)):Sem Next).events P s.w #[]):=by
 intro e a;rw[aP] at a;refine h e ?_;generalize m.run P s.w=r at a;cases r with
 |ok v w'=>simpa using a
 |halt v w'=>simpa using a
theorem c9{o:av}{x y:aq}{t g:ar}(h:o.op=.call { callee:=.builtin .append,args:=#[x,y],argTypes:=#[t,g] })(ρ:aq->ak) :
  aw ρ o=(do pure (.value (<-Builtin.append_ #[t,g] o.type #[ρ x,ρ y]))):=by
 simp[aw,h,resolve,invoke,builtin]
theorem Rd.loose{M:Mem}{v:ak}{t:Bool}{k n:Nat}{es:Nat->List C}(h:Rd M v (.sl t k n es)):Rd M v (.sl ae k n es):=by
 cases h with
 |sl b off f a hb ht hk ha hm hr=>exact .sl b off f a hb (by simp) hk ha hm hr
theorem Rd.C7{M:Mem}{v:ak}{t:Bool}{k n:Nat}{es es':Nat->List C}(e:∀ i,i<n->es i=es' i)(h:Rd M v (.sl t k n es)):Rd M v (.sl t k n es'):=by
 cases h with
 |sl b off f a hb ht hk ha hm hr=>exact .sl b off f a hb ht (λi hi=>by rw[<-e i hi];exact hk i hi) ha (λi hi j c hj=>hm i hi j c (by rw[e i hi];exact hj)) (λi hi j c hj=>hr i hi j c (by rw[e i hi];exact hj))
theorem Rd.u6{M:Mem}{v:ak}{k k' n:Nat}{es:Nat->List C}(e:k=k'∨n=0)(h:Rd M v (.sl ab k n es)):Rd M v (.sl ab k' n es):=by
 rcases e with rfl|rfl
 .exact h
 .obtain⟨a,cap,vs,f,j,b,c,_⟩:=h.flat;rw[f];have:=c rfl;subst this;exact Rd.jM
theorem pP{σ:List aW}{s:St}{l:Nat}{E:ar}{k n:Nat}{es:Nat->List C}{L:Loc}(a:σ[l]?=aa (.vec E k n es))(b:s.β[l]?=aa L)(h:eZ σ s (.vec E k n es) L):gB σ s L.v (.vec l k n es):=by
 refine⟨h.1,(bt.1 a).1,λc k' n' es' he=>?_⟩
 rw[a] at he;cases he;exact⟨ba _,λ_=>⟨L,b,rfl⟩⟩
theorem bR.oQ{P:an}{o:av}{R:aq->D}{σ:List aW}{x y:aq}{E:ar}{d:TI}(h:mr P o x y E d){n m k:Nat}{tx:Bool}{es es':Nat->List C}
  (hx:R x=.e (.one (.c (.sl ab k n es)))) (hk:k=d.size∨n=0) (Z:∀ s v,dh σ s v (R y)->Rd s.M v (.sl tx d.size m es')) (hb:(n+m)*d.bytes<=140737488355328) (hz:n=0∨0<m) :
  bR P o R σ (.e (.one (.vec σ.length d.size (n+m) (cX n es es')))) (σ++[.vec E d.size (n+m) (cX n es es')]):=by
 intro s ρ hh hr;obtain⟨t,g,i,i2,U,hi,K,z,A⟩:=h.op;have h1:=hr x;rw[hx] at h1;have l:=Rd.u6 hk (ga h1);have h2:=Z s _ (hr y);obtain⟨a,cap,vs,hv,B,X,Y,hF,V⟩:=l.flat;have Q:cap=n:=Y rfl;subst Q;rw[c9 U];rw[hv] at l ⊢
 by_cases h0:m=0
 .subst h0;have r:=jf (P:=P) (ty:=o.type) hi K z A h.elem hh (a:=a) B h2;simp only[gG];have l:=Rd.C7 (es':=cX cap es es') (λi hi=>by simp[cX,hi]) l
  have J:eZ (σ++[.vec E d.size cap (cX cap es es')]) { s with β:=s.β++[⟨.slice a cap cap,[]⟩] } (.vec E d.size cap (cX cap es es')) ⟨.slice a cap cap,[]⟩:=⟨l.loose,.inl ⟨⟨rfl,by omega⟩,l⟩⟩
  obtain⟨N,g2⟩:=hh.ix (.refl _ _) rfl hh J (by simp)
  refine⟨.value (.slice a cap cap),_,?_,?_,N,g2,eD (jL hi K z A h.elem hh B h2)⟩
  .simp[r]
  .exact pP (by simp) (by simp[<-hh.len]) J
 .have W:cap<cap+m:=by omega
  obtain⟨j,F,f,I,L,O,H,r⟩:=iy (P:=P) (ty:=o.type) hi K z A h.elem hh l h2 W hb h.bytes;have G:aJ σ (s.grown E j F s.β)/\Step σ s σ (s.grown E j F s.β) :=
   hh.grow (by simp) (λb hb=>cN s.w.drew _ hb) (λb hb o=>by simp[show b≠s.w.heap.size by omega])
    (λb hb o v V=>xY hh E j F b o v V) rfl rfl rfl
  have S:Rd (s.grown E j F s.β).M (.slice (aa ⟨s.w.heap.size,0,af⟩) (cap+m) f) (.sl ae d.size (cap+m) (cX cap es es')) :=
   Rd.qF (I.mono G.2.mem) (b:=s.w.heap.size) (off:=0) (λ_=>rfl) L O (by simp) (λp u hp=>by simpa[St.grown] using hp)
  have J:eZ (σ++[.vec E d.size (cap+m) (cX cap es es')]) { (s.grown E j F s.β) with β:=(s.grown E j F s.β).β++[⟨.slice (aa ⟨s.w.heap.size,0,af⟩) (cap+m) f,[s.w.heap.size]⟩] } (.vec E d.size (cap+m) (cX cap es es')) ⟨.slice (aa ⟨s.w.heap.size,0,af⟩) (cap+m) f,[s.w.heap.size]⟩:=by
   refine⟨S,.inr ⟨s.w.heap.size,f,j++F,rfl,dE s.w.drew _,H,λo U=>?_⟩⟩
   have hl:j.length<=o:=by rw[I.len];exact U
   simp[St.grown,eU hl]
  obtain⟨N,g2⟩:=G.1.ix G.2 rfl hh J (λb hb=>by
   simp at hb;subst hb;refine⟨ba _,?_⟩;simp[St.grown])
  refine⟨.value (.slice (aa ⟨s.w.heap.size,0,af⟩) (cap+m) f),_,?_,?_,N,g2,eD (iW hi K z A h.elem hh l h2 W hb h.bytes)⟩
  .simp[r];rfl
  .exact pP (by simp) (by simp[St.grown,<-hh.len]) J
theorem bR.F4{P:an}{o:av}{η:aq->D}{σ:List aW}{x y:aq}{E:ar}{d:TI}(h:mr P o x y E d){l n m:Nat}{tx:Bool}{es es':Nat->List C}
  (hx:η x=.e (.one (.vec l d.size n es))) (hl:σ[l]?=aa (.vec E d.size n es)) (hy:∀ s v,dh σ s v (η y)->Rd s.M v (.sl tx d.size m es')) (hb:(n+m)*d.bytes<=140737488355328) :
  bR P o η σ (.e (.one (.vec l d.size (n+m) (cX n es es')))) (σ.set l (.vec E d.size (n+m) (cX n es es'))):=by
 intro s ρ hh hr;obtain⟨t,g,i,i2,ho,hi,hd,O,Q⟩:=h.op;have B:l<σ.length:=(bt.1 hl).1;have h1:=hr x;rw[hx] at h1;obtain⟨X,_,h1v⟩:=h1;obtain⟨L,Z,hv⟩:=(h1v _ _ _ _ hl).2 rfl;have h2:=hy s _ (hr y);have I:l<s.β.length:=(bt.1 Z).1;have U:=hh.box l _ L hl Z;obtain⟨a,cap,vs,Mj,Y,HQ,ht,hF,hm⟩:=X.flat;rw[c9 ho,Mj];rw[Mj] at X;have V:L.v=.slice a n cap:=by rw[<-hv,Mj]
 by_cases h0:m=0
 .subst h0;have J:=jf (P:=P) (ty:=o.type) hi hd O Q h.elem hh (a:=a) Y h2;simp only[gG];have ha:∀ i,i<n->es i=cX n es es' i:=λi hi=>by simp[cX,hi]
  have Vt:eZ (σ.set l (.vec E d.size n (cX n es es'))) ⟨s.β.set l L,s.M,s.w,s.own⟩ (.vec E d.size n (cX n es es')) L:=by
   refine⟨U.1.C7 ha,?_⟩;rcases U.2 with⟨h3,h4⟩|h3
   .exact .inl ⟨h3,h4.C7 ha⟩
   .exact .inr h3
  have r:=hh.iT (M':=s.M) (w':=s.w) (B':=.vec E d.size n (cX n es es')) (L':=L) hl Z ⟨λ_=>rfl,ba _⟩ (ba _) (λ_ _ _=>rfl) (λ_ _ _ _=>rfl) (λ_ _ _ h=>h) hh.mem
   (λb hb=>⟨.inl hb,hh.lt L (bz Z) b hb⟩) rfl rfl rfl Vt
  refine⟨.value (.slice a n cap),_,?_,?_,r.1,r.2,eD (jL hi hd O Q h.elem hh Y h2)⟩
  .simp[J]
  .rw[<-V];exact pP (E:=E) (by rw[cf B]) (by simp only;rw[cf I]) Vt
 .have S:¬(n+m=n):=by omega
  by_cases A:n+m<=cap
  .rcases U.2 with⟨Su,N⟩|⟨b,Mk,F,rfl,hw,R,z⟩
   .rw[V] at N;obtain⟨_,_,_,e,_,_,ht2,_⟩:=N.flat;cases e;have:=ht2 rfl;omega
   .simp only at V;cases V;obtain⟨c,LR,J⟩:=kh (P:=P) (ty:=o.type) hi hd O Q h.elem hh hw R h2 A;have Pt:c.length=m*d.size:=LR.len;have V8:b<s.w.heap.size:=(gE.1 hw).1
    let M':Mem:=λK o=>if K=b/\n*d.size<=o/\o<(n+m)*d.size then c[o-n*d.size]? else s.M K o
    have C2:F.length=cap*d.size:=R;have hnm:(n+m)*d.size=n*d.size+m*d.size:=ey _ _ _;have Y4:(n+m)*d.size<=cap*d.size:=er _ A;have Ml:∀ K o v,s.M K o=aa v->M' K o=aa v:=by
     intro K o v f;simp only[M'];rw[aO ?_]
     .exact f
     .rintro⟨rfl,h1,_⟩;rw[z o h1] at f;cases f
    have Pu:∀ p u,c[p]?=aa u->M' b (n*d.size+p)=aa u:=by
     intro p u W;have qu:p<c.length:=(bt.1 W).1;simp only[M'];rw[aU ⟨by first|rfl|trivial,by omega,by omega⟩,nP]
     exact W
    have Sr:Rd M' (.slice (aa ⟨b,0,af⟩) (n+m) cap) (.sl ae d.size (n+m) (cX n es es')):=by
     refine Rd.qF (vs:=vs++c) ((hF.append LR).mono Ml) (b:=b) (off:=0) (λ_=>rfl) A HQ (by simp) (λp u W=>?_)
     have Ow:vs.length=n*d.size:=hF.len;rcases cr p vs.length with qu|Pv
     .rw[b7 qu] at W;obtain⟨b1,V9,e,Pw⟩:=hm p u W;cases e;exact Ml _ _ _ Pw
     .rw[dg Pv] at W;have:=Pu _ u W;rw[show n*d.size+(p-vs.length)=0+p by omega] at this
      exact this
    have r:=hh.iT (M':=M') (w':=s.w.setRow b (F.take (n*d.size)++c++F.drop (n*d.size+c.length)).toArray) (B':=.vec E d.size (n+m) (cX n es es')) (L':=⟨.slice (aa ⟨b,0,af⟩) (n+m) cap,[b]⟩) hl Z
     ⟨λe=>absurd e S,by omega⟩ (by simp) (λK _ k=>setRow_other _ _ _ _ (by simpa using k)) (λK _ k o=>by
      simp only[M'];rw[aO (by simp at k;rintro⟨e,_⟩;exact k e)]) Ml ?_ (λK k=>by
      simp at k;subst k;exact⟨.inl (by simp),by simpa using V8⟩) rfl rfl rfl ?_
    .refine⟨.value (.slice (aa ⟨b,0,af⟩) (n+m) cap),_,?_,?_,r.1,r.2,eD (lO hi hd O Q h.elem hh hw R h2 A (bz Z) (by simp) z)⟩
     .simp[J]
     .exact pP (L:=⟨.slice (aa ⟨b,0,af⟩) (n+m) cap,[b]⟩) (E:=E) (by rw[cf B]) (by simp only;rw[cf I]) (r.1.box l _ _ (by rw[cf B]) (by simp only;rw[cf I]))
    .intro K o v f
     by_cases k:K=b
     .subst k;have H9:∀ j,(s.w.setRow K (F.take (n*d.size)++c++F.drop (n*d.size+c.length)).toArray).cell? ⟨K,j,af⟩=(F.take (n*d.size)++c++F.drop (n*d.size+c.length))[j]?:=by
       intro j;rw[cell_setRow_same _ _ _ _ _ _ _ hw];simp
      rw[H9];simp only[M'] at f;have hkl:(F.take (n*d.size)).length=n*d.size:=by rw[bn];omega
      split at f
      .rename_i hc
       rw[dq,dg (by omega),hkl,b7 (by omega)]
       exact f
      .rename_i hc
       have h3:=hh.mem K o v f;have ho:o<n*d.size:=by
        rcases cr o (n*d.size) with h|h
        .exact h
        .rw[z o h] at f;cases f
       rw[dq,b7 (by omega),et,aU ho]
       simp only[aY,hw] at h3;simpa using h3
     .simp only[M'] at f;rw[aO (by rintro⟨e,_⟩;exact k e)] at f
      rw[<-hh.mem K o v f];simp only[aY];rw[setRow_other _ _ _ _ k]
    .refine⟨Sr,.inr ⟨b,cap,_,rfl,setRow_heap _ _ _ _ _ _ hw,?_,λo ho=>?_⟩⟩
     .simp only[bF,bn,gF];omega
     .simp only[M'];rw[aO (by rintro⟨_,_,h⟩;omega)]
      exact z o (by omega)
  .have hg:cap<n+m:=by omega
   obtain⟨H,zs,G,Mg,Vu,Vv,hlen,J⟩:=iy (P:=P) (ty:=o.type) hi hd O Q h.elem hh X h2 hg hb h.bytes;have hbl:∀ b∈L.bs,b<s.w.heap.size:=hh.lt L (bz Z);have Sr:Rd (λb o=>if b=s.w.heap.size then H[o]? else s.M b o) (.slice (aa ⟨s.w.heap.size,0,af⟩) (n+m) G) (.sl ae d.size (n+m) (cX n es es')) :=
    Rd.qF (Mg.mono (xZ hh H)) (b:=s.w.heap.size) (off:=0) (λ_=>rfl) Vu Vv (by simp) (λp u W=>by simpa using W)
   have r:=hh.iT (M':=λb o=>if b=s.w.heap.size then H[o]? else s.M b o) (w':=s.w.drew.alloc (.cells (H++zs).toArray E)) (B':=.vec E d.size (n+m) (cX n es es')) (L':=⟨.slice (aa ⟨s.w.heap.size,0,af⟩) (n+m) G,[s.w.heap.size]⟩) hl Z
    ⟨λe=>absurd e S,by omega⟩ (by simp) (λb hb _=>cN s.w.drew _ hb) (λb hb _ o=>by simp[show b≠s.w.heap.size by omega]) (xZ hh H) (xY hh E H zs) (λb hb=>by
     simp at hb;subst hb;exact⟨.inr (ba _),by simp⟩) rfl rfl rfl ⟨Sr,.inr ⟨s.w.heap.size,G,H++zs,rfl,dE s.w.drew _,hlen,λo ho=>by
      have hl:H.length<=o:=by rw[Mg.len];exact ho
      simp[eU hl]⟩⟩
   refine⟨.value (.slice (aa ⟨s.w.heap.size,0,af⟩) (n+m) G),_,?_,?_,r.1,r.2,eD (iW hi hd O Q h.elem hh X h2 hg hb h.bytes)⟩
   .simp[J]
   .exact pP (L:=⟨.slice (aa ⟨s.w.heap.size,0,af⟩) (n+m) G,[s.w.heap.size]⟩) (E:=E) (by rw[cf B]) (by simp only;rw[cf I]) (r.1.box l _ _ (by rw[cf B]) (by simp only;rw[cf I]))
end Go.AM
namespace Go.AM
open Go.Conc (G)
def kW{α:Type}:List Nat->List α->Option (List α)
 |[],_=>aa []
 |k::ks,l=>match fZ k l with
  |some x=>match kW ks l with
   |some r=>aa (x::r)
   |none=>af
  |none=>af
theorem fi{α:Type}:∀ (n:Nat)(l:List α),fZ n l=l[n]?
 |_,[]=>by simp[fZ]
 |0,x::_=>by simp[fZ]
 |n+1,_::xs=>by simpa[fZ] using fi n xs
theorem gJ{α:Type}:∀ {ks:List Nat}{l r:List α},kW ks l=aa r->r.length=ks.length/\∀ (j k:Nat),ks[j]?=aa k->∃ x,r[j]?=aa x/\l[k]?=aa x
 |[],l,r,h=>by cases h;simp
 |k::ks,l,r,h=>by
  simp only[kW] at h;cases a:fZ k l with
  |none=>simp[a] at h
  |some x =>
   cases b:kW ks l with
   |none=>simp[a,b] at h
   |some q =>
    simp[a,b] at h;subst h;obtain⟨f,c⟩:=gJ b;refine⟨by simp[f],λj k' hj=>?_⟩
    cases j with
    |zero=>simp at hj;subst hj;exact⟨x,rfl,dY a⟩
    |succ j=>simp at hj;obtain⟨y,d,e⟩:=c j k' hj;exact⟨y,by simpa using d,e⟩
theorem vC{α e:Type}:∀ {ks:List Nat}{l r:List α}{l':List e},kW ks l=aa r->l'.length=l.length->∃ r',kW ks l'=aa r'
 |[],l,r,l',_,_=>⟨[],rfl⟩
 |k::ks,l,r,l',h,c=>by
  simp only[kW] at h;cases b:fZ k l with
  |none=>simp[b] at h
  |some x =>
   cases d:kW ks l with
   |none=>simp[b,d] at h
   |some q =>
    obtain⟨r',a⟩:=vC (l':=l') d c;have f:k<l'.length:=by rw[c];exact(bt.1 (dY b)).1
    exact⟨l'[k]::r',by simp[kW,fi,f,a]⟩
def oI(ks:List Nat):A->A
 |.ptr l o=>match fZ l ks with|some k=>.ptr k o|none=>.any
 |.vec l k n es=>match fZ l ks with|some m=>.vec m k n es|none=>.c (.sl ae k n es)
 |.ref l=>match fZ l ks with|some k=>.ref k|none=>.any
 |.bp l w=>match fZ l ks with|some k=>.bp k w|none=>.any
 |.c x=>.c x
 |.any=>.any
def Ba(ks:List Nat):List A->List A
 |[]=>[]
 |a::r=>oI ks a::Ba ks r
def zx(ks:List Nat):E1->E1
 |.one a=>.one (oI ks a)
 |.agg cs=>.agg (Ba ks cs)
def x4(ks:List Nat):List E1->List E1
 |[]=>[]
 |a::r=>zx ks a::x4 ks r
def jQ(ks:List Nat):D->D
 |.e x=>.e (zx ks x)
 |.fW xs=>.fW (x4 ks xs)
 |.any=>.any
def jP(ks:List Nat):List D->List D
 |[]=>[]
 |a::r=>jQ ks a::jP ks r
def Dh:A->Bool
 |.c _|.any=>ab
 |_=>ae
def zy:List A->Bool
 |[]=>ab
 |a::r=>match Dh a with|true=>zy r|false=>ae
def vD:aW->Bool
 |.cells _ cs=>zy cs
 |.loop ..=>ae
 |_=>ab
def du:List aW->Bool
 |[]=>ab
 |a::r=>match vD a with|true=>du r|false=>ae
theorem jA:∀ {l:List aW},du l=ab->∀ B∈l,vD B=ab
 |[],_,B,a=>by simp at a
 |b::r,h,B,a=>by
  simp only[du] at h;cases c:vD b with
  |false=>simp[c] at h
  |true =>
   simp only[c] at h;rcases ew.1 a with rfl|a
   .exact c
   .exact jA h B a
theorem dX.plain{σ σ':List aW}{s s':St}(e:s'.M=s.M):∀ {vs:List ak}{cs:List A},zy cs=ab->dX σ s vs cs->dX σ' s' vs cs
 |[],[],_,_=>trivial
 |[],_::_,_,h=>h.elim
 |_::_,[],_,h=>h.elim
 |v::vs,a::al,b,h=>by
  simp only[zy] at b;cases d:Dh a with
  |false=>simp[d] at b
  |true =>
   simp only[d] at b;refine⟨?_,dX.plain e b h.2⟩;cases a with
   |c x=>have:=h.1;simp only[gB] at this ⊢;rw[e];exact this
   |any=>exact h.1
   |_=>simp[Dh] at d
theorem eZ.plain{σ σ':List aW}{s s':St}(a:s'.M=s.M)(c:s'.w=s.w){B:aW}{L:Loc}(d:vD B=ab)(h:eZ σ s B L):eZ σ' s' B L:=by
 cases B with
 |cells E cs =>
  obtain⟨b,vs,h1,h2,f,e⟩:=h;exact⟨b,vs,h1,by rw[c];exact h2,f.plain a d,λo=>by rw[a];exact e o⟩
 |vec E k n es=>simp only[eZ,a,c] at h ⊢;exact h
 |dM H=>simp only[eZ,a,c] at h ⊢;exact h
 |dead=>trivial
 |loop N φ r=>simp[vD] at d
 |rC=>simp only[eZ,a,c] at h ⊢;exact h
 |buf E k n es=>simp only[eZ,a,c] at h ⊢;exact h
def hX:Nat->List Nat->Bool
 |_,[]=>ae
 |k,x::r=>match aA k x with|true=>ab|false=>hX k r
def eh:List Nat->Bool
 |[]=>ab
 |k::r=>match hX k r with|true=>ae|false=>eh r
theorem va:∀ {k:Nat}{l:List Nat},k∈l->hX k l=ab
 |k,[],h=>by simp at h
 |k,x::r,h=>by
  simp only[hX];cases a:aA k x with
  |true=>rfl
  |false =>
   rcases ew.1 h with rfl|h
   .rw[jI] at a;cases a
   .exact va h
theorem vE:∀ {l:List Nat},eh l=ab->∀ (i j k:Nat),l[i]?=aa k->l[j]?=aa k->i=j
 |[],_,i,j,k,hi,_=>by simp at hi
 |x::r,h,i,j,k,hi,a=>by
  simp only[eh] at h;cases b:hX x r with
  |true=>simp[b] at h
  |false =>
   simp only[b] at h;have no:∀ q,r[q]?=aa x->False:=λq c=>by
    have:=va (bz c);rw[b] at this;cases this
   cases i with
   |zero =>
    cases j with
    |zero=>rfl
    |succ j =>
     simp at hi a;subst hi;exact(no _ a).elim
   |succ i =>
    cases j with
    |zero =>
     simp at hi a;subst a;exact(no _ hi).elim
    |succ j =>
     simp at hi a;rw[vE h i j k hi a]
def F9(n:Nat):A->Bool
 |.ptr l _|.vec l _ _ _|.ref l|.bp l _=>bw (l+1) n
 |_=>ab
def Ga(n:Nat):List A->Bool
 |[]=>ab
 |a::r=>match F9 n a with|true=>Ga n r|false=>ae
def Iu(n:Nat):E1->Bool
 |.one a=>F9 n a
 |.agg cs=>Ga n cs
def xr(n:Nat):List E1->Bool
 |[]=>ab
 |a::r=>match Iu n a with|true=>xr n r|false=>ae
def uy(n:Nat):D->Bool
 |.e x=>Iu n x
 |.fW xs=>xr n xs
 |.any=>ab
def qm(n:Nat):List D->Bool
 |[]=>ab
 |a::r=>match uy n a with|true=>qm n r|false=>ae
section sub
variable {ks:List Nat}{σ σ':List aW}{s:St}{β':List Loc}
theorem gB.sub(z:kW ks σ=aa σ')(u:kW ks s.β=aa β'){v:ak}{a:A}(d:gB σ s v (oI ks a))(f:F9 ks.length a=ab):gB σ' { s with β:=β' } v a:=by
 obtain⟨G,r⟩:=gJ z;obtain⟨I,g2⟩:=gJ u;cases a with
 |c x=>exact d
 |any=>exact d
 |ptr l o =>
  have hl:l<ks.length:=dn f;simp only[oI,fi,aR hl] at d;obtain⟨h1,L,b,h2,j,t⟩:=d;obtain⟨x,g,p⟩:=r l _ (aR hl);obtain⟨y,h,i⟩:=g2 l _ (aR hl);rw[i] at h2;cases h2;exact⟨λB m=>h1 B (by rw[p,<-g,m]),L,b,h,j,t⟩
 |vec l k n es =>
  have hl:l<ks.length:=dn f;simp only[oI,fi,aR hl] at d;obtain⟨h1,h2,j⟩:=d;obtain⟨x,g,p⟩:=r l _ (aR hl);obtain⟨y,h,i⟩:=g2 l _ (aR hl);refine⟨h1,by rw[G];exact hl,λE k' n' es' m=>?_⟩
  obtain⟨H,p2⟩:=j E k' n' es' (by rw[p,<-g,m])
  refine⟨H,λe=>?_⟩
  obtain⟨L,q,C⟩:=p2 e;rw[i] at q;cases q;exact⟨_,h,C⟩
 |ref l =>
  have hl:l<ks.length:=dn f;simp only[oI,fi,aR hl] at d;obtain⟨h1,L,h2,j,t⟩:=d;obtain⟨x,g,p⟩:=r l _ (aR hl);obtain⟨y,h,i⟩:=g2 l _ (aR hl);rw[i] at h2;cases h2;exact⟨λB m=>h1 B (by rw[p,<-g,m]),L,h,j,t⟩
 |bp l w =>
  have hl:l<ks.length:=dn f;simp only[oI,fi,aR hl] at d;obtain⟨lv,h1,h2,j⟩:=d;obtain⟨x,g,p⟩:=r l _ (aR hl);obtain⟨y,h,i⟩:=g2 l _ (aR hl);refine⟨lv,h1,(bt.1 g).1,λE k n es m=>?_⟩
  obtain⟨F,D⟩:=j E k n es (by rw[p,<-g,m])
  refine⟨F,λe=>?_⟩
  obtain⟨L,q,C⟩:=D e;rw[i] at q;cases q;exact⟨y,h,C⟩
theorem gB.nc{σ2:List aW}{s2:St}(H:s2.M=s.M)(h:∀ (j:Nat)(B:aW),σ[j]?=aa B->∃ k,ks[j]?=aa k/\σ2[k]?=aa B)(g:∀ (j:Nat)(L:Loc),s.β[j]?=aa L->∃ k,ks[j]?=aa k/\s2.β[k]?=aa L)(i:s.β.length=σ.length)
  {v:ak} {a:A} (q:gB σ s v a):gB σ2 s2 v (oI ks a):=by
 cases a with
 |c x=>simp only[oI,gB,H];exact q
 |any=>exact q
 |ptr l o =>
  obtain⟨h1,L,b,h2,m,y⟩:=q;obtain⟨k,k1,t⟩:=g l L h2;have hl:l<σ.length:=by rw[<-i];exact(bt.1 h2).1
  obtain⟨k',f,p⟩:=h l _ (aR hl);rw[k1] at f;cases f;simp only[oI,fi,k1];refine⟨λB d=>?_,L,b,t,m,y⟩
  rw[p] at d;exact h1 B (by rw[aR hl];exact d)
 |vec l k n es =>
  obtain⟨h1,h2,m⟩:=q;obtain⟨k1,r,p2⟩:=h l _ (aR h2);simp only[oI,fi,r];refine⟨by rw[H];exact h1,(bt.1 p2).1,λE k' n' es' d=>?_⟩
  rw[p2] at d;obtain⟨F,C⟩:=m E k' n' es' (by rw[aR h2];exact d)
  refine⟨F,λe=>?_⟩
  obtain⟨L,z,G⟩:=C e;obtain⟨t,u,D⟩:=g l L z;rw[r] at u;cases u;exact⟨L,D,G⟩
 |ref l =>
  obtain⟨h1,L,h2,m,y⟩:=q;obtain⟨k,k1,t⟩:=g l L h2;have hl:l<σ.length:=by rw[<-i];exact(bt.1 h2).1
  obtain⟨k',f,p⟩:=h l _ (aR hl);rw[k1] at f;cases f;simp only[oI,fi,k1];refine⟨λB d=>?_,L,t,m,y⟩
  rw[p] at d;exact h1 B (by rw[aR hl];exact d)
 |bp l w =>
  obtain⟨lv,h1,h2,m⟩:=q;obtain⟨k1,r,p2⟩:=h l _ (aR h2);simp only[oI,fi,r];refine⟨lv,h1,(bt.1 p2).1,λE k' n' es' d=>?_⟩
  rw[p2] at d;obtain⟨F,C⟩:=m E k' n' es' (by rw[aR h2];exact d)
  refine⟨F,λe=>?_⟩
  obtain⟨L,z,G⟩:=C e;obtain⟨t,u,D⟩:=g l L z;rw[r] at u;cases u;exact⟨L,D,G⟩
theorem dX.sub(c:kW ks σ=aa σ')(b:kW ks s.β=aa β'):∀ {vs:List ak}{cs:List A},dX σ s vs (Ba ks cs)->Ga ks.length cs=ab->dX σ' { s with β:=β' } vs cs
 |[],[],_,_=>trivial
 |[],_::_,h,_=>h.elim
 |_::_,[],h,_=>h.elim
 |v::vs,a::al,h,d=>by
  simp only[Ga] at d;cases e:F9 ks.length a with
  |false=>simp[e] at d
  |true=>simp only[e] at d;exact⟨h.1.sub c b e,dX.sub c b h.2 d⟩
theorem mc.sub(c:kW ks σ=aa σ')(b:kW ks s.β=aa β'){v:ak}{x:E1}(h:mc σ s v (zx ks x))(d:Iu ks.length x=ab):mc σ' { s with β:=β' } v x:=by
 cases x with
 |one a=>exact gB.sub c b h d
 |agg cs=>obtain⟨vs,h1,h2⟩:=h;exact⟨vs,h1,h2.sub c b d⟩
theorem gI.sub(c:kW ks σ=aa σ')(b:kW ks s.β=aa β'):∀ {vs:List ak}{xs:List E1},gI σ s vs (x4 ks xs)->xr ks.length xs=ab->gI σ' { s with β:=β' } vs xs
 |[],[],_,_=>trivial
 |[],_::_,h,_=>h.elim
 |_::_,[],h,_=>h.elim
 |v::vs,a::al,h,d=>by
  simp only[xr] at d;cases e:Iu ks.length a with
  |false=>simp[e] at d
  |true=>simp only[e] at d;exact⟨h.1.sub c b e,gI.sub c b h.2 d⟩
theorem dh.sub(b:kW ks σ=aa σ')(a:kW ks s.β=aa β'){v:ak}{d:D}(h:dh σ s v (jQ ks d))(c:uy ks.length d=ab):dh σ' { s with β:=β' } v d:=by
 cases d with
 |e x=>exact mc.sub b a h c
 |fW xs=>obtain⟨vs,h1,h2⟩:=h;exact⟨vs,h1,h2.sub b a c⟩
 |any=>trivial
theorem cG.sub(c:kW ks σ=aa σ')(b:kW ks s.β=aa β'):∀ {vs:List ak}{ds:List D},cG σ s vs (jP ks ds)->qm ks.length ds=ab->cG σ' { s with β:=β' } vs ds
 |[],[],_,_=>trivial
 |[],_::_,h,_=>h.elim
 |_::_,[],h,_=>h.elim
 |v::vs,a::al,h,d=>by
  simp only[qm] at d;cases e:uy ks.length a with
  |false=>simp[e] at d
  |true=>simp only[e] at d;exact⟨h.1.sub c b e,cG.sub c b h.2 d⟩
variable {σ2:List aW}{s2:St}
theorem dX.nc(d:s2.M=s.M)(c:∀ (j:Nat)(B:aW),σ[j]?=aa B->∃ k,ks[j]?=aa k/\σ2[k]?=aa B)(b:∀ (j:Nat)(L:Loc),s.β[j]?=aa L->∃ k,ks[j]?=aa k/\s2.β[k]?=aa L)(a:s.β.length=σ.length) :
  ∀ {vs:List ak} {cs:List A},dX σ s vs cs->dX σ2 s2 vs (Ba ks cs)
 |[],[],_=>trivial
 |[],_::_,h=>h.elim
 |_::_,[],h=>h.elim
 |_::_,_::_,h=>⟨h.1.nc d c b a,dX.nc d c b a h.2⟩
theorem mc.nc(e:s2.M=s.M)(d:∀ (j:Nat)(B:aW),σ[j]?=aa B->∃ k,ks[j]?=aa k/\σ2[k]?=aa B)(c:∀ (j:Nat)(L:Loc),s.β[j]?=aa L->∃ k,ks[j]?=aa k/\s2.β[k]?=aa L)(b:s.β.length=σ.length)
  {v:ak} {x:E1} (h:mc σ s v x):mc σ2 s2 v (zx ks x):=by
 cases x with
 |one a=>exact gB.nc e d c b h
 |agg cs=>obtain⟨vs,h1,h2⟩:=h;exact⟨vs,h1,h2.nc e d c b⟩
theorem gI.nc(d:s2.M=s.M)(c:∀ (j:Nat)(B:aW),σ[j]?=aa B->∃ k,ks[j]?=aa k/\σ2[k]?=aa B)(b:∀ (j:Nat)(L:Loc),s.β[j]?=aa L->∃ k,ks[j]?=aa k/\s2.β[k]?=aa L)(a:s.β.length=σ.length) :
  ∀ {vs:List ak} {xs:List E1},gI σ s vs xs->gI σ2 s2 vs (x4 ks xs)
 |[],[],_=>trivial
 |[],_::_,h=>h.elim
 |_::_,[],h=>h.elim
 |_::_,_::_,h=>⟨h.1.nc d c b a,gI.nc d c b a h.2⟩
theorem dh.nc(f:s2.M=s.M)(c:∀ (j:Nat)(B:aW),σ[j]?=aa B->∃ k,ks[j]?=aa k/\σ2[k]?=aa B)(b:∀ (j:Nat)(L:Loc),s.β[j]?=aa L->∃ k,ks[j]?=aa k/\s2.β[k]?=aa L)(a:s.β.length=σ.length)
  {v:ak} {d:D} (h:dh σ s v d):dh σ2 s2 v (jQ ks d):=by
 cases d with
 |e x=>exact mc.nc f c b a h
 |fW xs=>obtain⟨vs,h1,h2⟩:=h;exact⟨vs,h1,h2.nc f c b a⟩
 |any=>trivial
end sub
def en.sL{α:Type}:Nat->α->List α->List α
 |_,_,[]=>[]
 |0,x,_::r=>x::r
 |k+1,x,y::r=>y::en.sL k x r
def en{α:Type}:List Nat->List α->List α->List α
 |[],new,old=>old++new
 |k::ks,x::new,old=>en ks new (en.sL k x old)
 |_::_,[],old=>old
theorem lz{α:Type}:∀ (k:Nat)(x:α)(l:List α),en.sL k x l=l.set k x
 |_,_,[]=>by simp[en.sL]
 |0,x,_::r=>by simp[en.sL]
 |k+1,x,y::r=>by simp[en.sL,lz k x r]
theorem vF{α:Type}:∀ {ks:List Nat}{new old:List α},eh ks=ab->(∀ k∈ks,k<old.length)->ks.length<=new.length ->
  (en ks new old).length=old.length+(new.length-ks.length)/\(∀ (j k:Nat),ks[j]?=aa k->(en ks new old)[k]?=new[j]?) /\
  (∀ j,(en ks new old)[old.length+j]?=new[ks.length+j]?)/\(∀ l,l<old.length->l∉ks->(en ks new old)[l]?=old[l]?)
 |[],new,old,_,_,_=>by
  refine⟨by simp[en],by simp,λj=>?_,λl f _=>?_⟩
  .simp only[en,eu,bm];rw[dg (by omega),nP]
  .simp[en,b7 f]
 |k::ks,[],old,_,_,h=>by simp at h
 |k::ks,x::new,old,b,c,g=>by
  have p:=b;simp only[eh] at b;cases d:hX k ks with
  |true=>simp[d] at b
  |false =>
   simp only[d] at b;have n:k<old.length:=c k (by simp)
   have i:k∉ks:=λh=>by rw[va h] at d;cases d
   obtain⟨r,o,q,m⟩:=vF (ks:=ks) (new:=new) (old:=old.set k x) b (λk' Wn=>by simpa using c k' (by simp[Wn])) (by simpa using g)
   simp only[en,lz];refine⟨by simp[r],λj k' hj=>?_,λj=>?_,λl f a=>?_⟩
   .cases j with
    |zero =>
     simp at hj;subst hj;rw[m k (by simpa using n) i,cf n]
     rfl
    |succ j =>
     simp at hj;rw[o j k' hj];simp
   .have:=q j;simp only[mi] at this;rw[this];simp[Nat.add_right_comm]
   .simp only[ew,not_or] at a;rw[m l (by simpa using f) a.2,cQ (λe=>a.1 e.symm)]
def Ev{P:an}(X:Cx P)(f:aX)(args:List D)(σ:List aW)(res:D)(σ':List aW):Prop :=
 (∃ fn,P.funcs[f]?=aa fn/\(fn.name== "runtime.NumGoroutine")=ae/\fn.body.isNone=ae) /\
 ∀ s (vs:List ak),cG σ s vs args->aJ σ s->∀ (S:au->St->Prop) (cs:List aQ),
  (∀ a v s',uv P f a v s'->dh σ' s' v res->aJ σ' s'->cC σ s σ' s'->fG X S (G a cs) s')->fG X S (G (Frame.enter P f vs.toArray .normal) cs) s
def dZ{P:an}{ι:Type}(X:Cx P)(f:aX)(args:List D)(σ:List aW)(res:ι->D)(σ':ι->List aW):Prop :=
 (∃ fn,P.funcs[f]?=aa fn/\(fn.name== "runtime.NumGoroutine")=ae/\fn.body.isNone=ae) /\
 ∀ s (vs:List ak),cG σ s vs args->aJ σ s->∀ (S:au->St->Prop) (cs:List aQ),
  (∀ i a v s',uv P f a v s'->dh (σ' i) s' v (res i)->aJ (σ' i) s'->cC σ s (σ' i) s'->fG X S (G a cs) s')->fG X S (G (Frame.enter P f vs.toArray .normal) cs) s
theorem Ev.EW{P:an}{X:Cx P}{f:aX}{args:List D}{σ:List aW}{res:D}{σ':List aW}(h:Ev X f args σ res σ'):dZ (ι:=Unit) X f args σ (λ_=>res) (λ_=>σ') :=
 ⟨h.1,λs vs hr hh S cs hS=>h.2 s vs hr hh S cs (hS ())⟩
theorem dZ.Di{P:an}{X:Cx P}{f:aX}{args:List D}{σ:List aW}{res:D}{σ':List aW}(h:dZ (ι:=Unit) X f args σ (λ_=>res) (λ_=>σ')):Ev X f args σ res σ' :=
 ⟨h.1,λs vs hr hh S cs hS=>h.2 s vs hr hh S cs (λ_=>hS)⟩
def xu(s:St)(a:List Loc):Nat->Prop:=λb=>s.own b∨((∃ L∈s.β,b∈L.bs)/\∀ L∈a,b∉L.bs)
def oc(n:Nat):Nat->List Nat
 |0=>[]
 |m+1=>n::oc (n+1) m
theorem Bb:∀ (m n j:Nat),(oc n m)[j]?=if j<m then aa (n+j) else af
 |0,n,j=>by simp[oc]
 |m+1,n,0=>by simp[oc]
 |m+1,n,j+1=>by
  simp only[oc,lK,Bb m (n+1) j,Nat.add_lt_add_iff_right];split
  .congr 1;omega
  .rfl
theorem frame{ks:List Nat}{σ σs σ1:List aW}{s d:St}{p:List Loc}(q:aJ σ s)(Y:kW ks σ=aa σs)(hβ:kW ks s.β=aa p)(hn:eh ks=ab)
  (hp:du σ1=ab) (G:aJ σ1 d) (st:cC σs { s with β:=p,own:=xu s p } σ1 d) (V:ks.length<=σ1.length) {v:ak} {res:D} (hr:dh σ1 d v res) :
  ∃ s2:St,s2.w=d.w/\dh (en ks σ1 σ) s2 v (jQ (ks++oc σ.length (σ1.length-ks.length)) res)/\aJ (en ks σ1 σ) s2/\cC σ s (en ks σ1 σ) s2/\s2.M=d.M/\s2.own=s.own/\∀ L∈s2.β,L∈d.β∨(L∈s.β/\∀ b∈L.bs,∀ L'∈p,b∉L'.bs):=by
 have O:∀ k∈ks,k<σ.length:=by
  intro k A;obtain⟨j,n,rfl⟩:=dN A;obtain⟨x,_,h2⟩:=(gJ Y).2 j _ (aR n);exact(bt.1 h2).1
 have I:∀ k∈ks,k<s.β.length:=by rw[q.len];exact O
 have P:ks.length<=d.β.length:=by rw[G.len];exact V
 obtain⟨a1,a2,a3,a4⟩:=vF (new:=σ1) (old:=σ) hn O V;obtain⟨b1,b2,b3,b4⟩:=vF (new:=d.β) (old:=s.β) hn I P;obtain⟨c1,c2⟩:=gJ Y;obtain⟨d1,d2⟩:=gJ hβ
 let H:=ks++oc σ.length (σ1.length-ks.length)
 have J:∀ j,j<σ1.length->∃ k,H[j]?=aa k/\(en ks σ1 σ)[k]?=σ1[j]?/\(en ks d.β s.β)[k]?=d.β[j]?:=by
  intro j n;rcases cr j ks.length with a|r
  .refine⟨ks[j],?_,a2 j _ (aR a),b2 j _ (aR a)⟩;simp only[H];rw[b7 a,aR a]
  .refine⟨σ.length+(j-ks.length),?_,?_,?_⟩
   .simp only[H];rw[dg r,Bb,aU (by omega)]
   .rw[a3];congr 1;omega
   .rw[<-q.len,b3];congr 1;omega
 have m:∀ l L,(en ks d.β s.β)[l]?=aa L->(∃ j,j<σ1.length/\d.β[j]?=aa L/\(∀ B,(en ks σ1 σ)[l]?=aa B->σ1[j]?=aa B)/\(∀ k,ks[j]?=aa k->k=l)/\(j≥ks.length->l=σ.length+(j-ks.length))) ∨
   (l<σ.length/\l∉ks/\s.β[l]?=aa L/\(en ks σ1 σ)[l]?=σ[l]?):=by
  intro l L c;have hll:l<(en ks d.β s.β).length:=(bt.1 c).1;rcases cr l σ.length with a|r
  .by_cases z:l∈ks
   .obtain⟨j,n,rfl⟩:=dN z;have A:=aR n;refine .inl ⟨j,by omega,by rw[<-b2 j _ A];exact c,λB t=>by rw[<-a2 j _ A];exact t,λk X=>by rw[A] at X;cases X;rfl,λh=>by omega⟩
   .exact .inr ⟨a,z,by rw[<-b4 l (by rw[q.len];exact a) z];exact c,a4 l a z⟩
  .rw[b1,G.len,q.len] at hll;refine .inl ⟨ks.length+(l-σ.length),by omega,?_,λB t=>?_,λk A=>?_,λ_=>by omega⟩
   .rw[<-b3,q.len,zf r];exact c
   .rw[<-a3,zf r];exact t
   .have:=(bt.1 A).1;omega
 have u:∀ L∈p,L∈s.β:=by
  intro L c;obtain⟨j,n,rfl⟩:=dN c;have F:j<ks.length:=by rw[<-d1];exact n
  obtain⟨x,Q,T⟩:=d2 j _ (aR F);rw[aR n] at Q;cases Q;exact bz T
 have other:∀ l L,l∉ks->s.β[l]?=aa L->∀ b∈L.bs,b<s.w.heap.size/\∀ L'∈p,b∉L'.bs:=by
  intro l L E c b f;refine⟨q.lt L (bz c) b f,λL' hU oP=>?_⟩
  obtain⟨j,n,rfl⟩:=dN hU;have F:j<ks.length:=by rw[<-d1];exact n
  obtain⟨x,Q,T⟩:=d2 j _ (aR F);rw[aR n] at Q;cases Q;have:=q.gb l ks[j] L _ c T b f oP;exact E (this▸dy F)
 have out:∀ b,b<s.w.heap.size->(∀ L∈s.β,b∉L.bs)->∀ L∈p,b∉L.bs:=λb _ h L c=>h L (u L c)
 have ex:Ext σ s (en ks σ1 σ) ⟨en ks d.β s.β,d.M,d.w,s.own⟩:=by
  refine⟨st.mem,λl B L t c=>?_⟩
  have a:l<σ.length:=(bt.1 t).1
  by_cases z:l∈ks
  .obtain⟨j,n,rfl⟩:=dN z;have A:=aR n;obtain⟨x,Q,T⟩:=c2 j _ A;obtain⟨y,y1,y2⟩:=d2 j _ A;rw[t] at T;cases T;rw[c] at y2;cases y2;obtain⟨B',L',p1,p2,p3⟩:=st.box j B L Q y1;exact⟨B',L',by rw[a2 j _ A,p1],by simp only;rw[b2 j _ A,p2],p3⟩
  .exact⟨B,L,by rw[a4 l a z,t],by simp only;rw[b4 l (by rw[q.len];exact a) z,c],.refl _ _⟩
 refine⟨⟨en ks d.β s.β,d.M,d.w,s.own⟩,rfl,?_,⟨G.mem,?_,?_,?_,?_,?_⟩,⟨st.size,?_,st.mem,?_,?_,ex.box,st.os,st.tape,st.output,rfl⟩,rfl,rfl,?_⟩
 .refine dh.nc (s:=d) (s2:=⟨en ks d.β s.β,d.M,d.w,s.own⟩) (σ2:=en ks σ1 σ) (ks:=H) rfl (λj B t=>?_) (λj L c=>?_) G.len hr
  .obtain⟨k,k1,k2,_⟩:=J j (bt.1 t).1;exact⟨k,k1,by rw[k2,t]⟩
  .obtain⟨k,k1,_,k3⟩:=J j (by rw[<-G.len];exact(bt.1 c).1)
   exact⟨k,k1,by simp only;rw[k3,c]⟩
 .simp only;rw[a1,b1,G.len,q.len]
 .intro l B L t c;rcases m l L c with⟨j,n,g,Zj,_⟩|⟨E,z,hU,lb⟩
  .exact eZ.plain (σ:=σ1) (s:=d) (s':=⟨en ks d.β s.β,d.M,d.w,s.own⟩) rfl rfl (jA hp B (bz (Zj B t))) (G.box j B L (Zj B t) g)
  .rw[lb] at t;refine(q.box l B L t hU).carry ex q.len λb f=>?_
   obtain⟨o1,R⟩:=other l L z hU b f;exact⟨st.eH b (.inr ⟨⟨L,bz hU,f⟩,R⟩),st.jq b o1 R⟩
 .intro l l' L L' c hU b f oP;rcases m l L c with⟨j,n,g,_,Sq,Vx⟩|⟨E,z,i,_⟩ <;> rcases m l' L' hU with⟨j',F,K,_,W,Z⟩|⟨zk,hm',N,_⟩
  .have e:=G.gb j j' L L' g K b f oP;subst e;rcases cr j ks.length with a|r
   .rw[<-Sq _ (aR a),<-W _ (aR a)]
   .rw[Vx r,Z r]
  .obtain⟨o1,R⟩:=other l' L' hm' N b oP;rcases st.tK L (bz g) b f with h|⟨S,h0,C⟩
   .simp only at h;omega
   .exact absurd C (R S h0)
  .obtain⟨o1,R⟩:=other l L z i b f;rcases st.tK L' (bz K) b oP with h|⟨S,h0,C⟩
   .simp only at h;omega
   .exact absurd C (R S h0)
  .exact q.gb l l' L L' i N b f oP
 .intro L c b f;obtain⟨l,E,rfl⟩:=dN c;rcases m l _ (aR E) with⟨j,n,g,_⟩|⟨_,_,i,_⟩
  .exact G.lt _ (bz g) b f
  .have:=q.lt _ (bz i) b f;have:=st.size;simp only at this ⊢;omega
 .intro b f;refine⟨?_,λL c U=>?_⟩
  .have:=(q.own b f).1;have:=st.size;simp only at this ⊢;omega
  .obtain⟨l,E,rfl⟩:=dN c;rcases m l _ (aR E) with⟨j,n,g,_⟩|⟨_,_,i,_⟩
   .have ho:d.own b:=by rw[st.own];exact .inl f
    exact(G.own b ho).2 _ (bz g) U
   .exact(q.own b f).2 _ (bz i) U
 .intro b f;exact st.eH b (.inl f)
 .intro b f Wo o;exact st.jq b f (out b f Wo) o
 .intro L c b f;obtain⟨l,E,rfl⟩:=dN c;rcases m l _ (aR E) with⟨j,n,g,_⟩|⟨_,_,i,_⟩
  .rcases st.tK _ (bz g) b f with h|⟨S,h0,C⟩
   .exact .inl h
   .exact .inr ⟨S,u S h0,C⟩
  .exact .inr ⟨_,bz i,f⟩
 .intro L c;obtain⟨l,E,rfl⟩:=dN c;rcases m l _ (aR E) with⟨j,n,g,_⟩|⟨_,z,i,_⟩
  .exact .inl (bz g)
  .exact .inr ⟨bz i,λb f=>(other l _ z i b f).2⟩
def gu:D->Option (aX×List C)
 |.e (.one (.c (.fn (.func f) [] cap)))=>aa (f,cap)
 |_=>af
theorem pU{σ:List aW}{s:St}{ρ:aq->ak}{b:aq->D}(a:∀ y,dh σ s (ρ y) (b y)):∀ l:List aq,cG σ s (l.map ρ) (l.map b)
 |[]=>trivial
 |x::r=>⟨a x,pU a r⟩
theorem cG.append{σ:List aW}{s:St}:∀ {vs vG:List ak}{ds ES:List D},cG σ s vs ds->cG σ s vG ES->cG σ s (vs++vG) (ds++ES)
 |[],_,[],_,_,h=>h
 |[],_,_::_,_,h,_=>h.elim
 |_::_,_,[],_,h,_=>h.elim
 |_::_,_,_::_,_,h,a=>⟨h.1,cG.append h.2 a⟩
def PG:A->A
 |.vec _ k n es=>.c (.sl ae k n es)
 |.c (.sl _ k n es)=>.c (.sl ae k n es)
 |a=>a
theorem EX{σ:List aW}{s:St}{v:ak}{a:A}(h:gB σ s v a):gB σ s v (PG a):=by
 cases a with
 |vec l k n es=>exact h.1
 |c x=>cases x <;> first|exact h|exact Rd.loose h
 |_=>exact h
def PH:List A->List A
 |[]=>[]
 |a::r=>PG a::PH r
theorem EY{σ:List aW}{s:St}:∀ {vs:List ak}{cs:List A},dX σ s vs cs->dX σ s vs (PH cs)
 |[],[],_=>trivial
 |[],_::_,h=>h.elim
 |_::_,[],h=>h.elim
 |_::_,_::_,h=>⟨EX h.1,EY h.2⟩
def Tg:D->D
 |.e (.one a)=>.e (.one (PG a))
 |.e (.agg cs)=>.e (.agg (PH cs))
 |d=>d
theorem My{σ:List aW}{s:St}{v:ak}{d:D}(h:dh σ s v d):dh σ s v (Tg d):=by
 cases d with
 |e x=>cases x with
  |one a=>exact EX h
  |agg cs=>obtain⟨vs,c,b⟩:=h;exact⟨vs,c,EY b⟩
 |fW xs=>exact h
 |any=>trivial
def qv:List D->List D
 |[]=>[]
 |a::r=>Tg a::qv r
theorem rM{σ:List aW}{s:St}:∀ {vs:List ak}{ds:List D},cG σ s vs ds->cG σ s vs (qv ds)
 |[],[],_=>trivial
 |[],_::_,h=>h.elim
 |_::_,[],h=>h.elim
 |_::_,_::_,h=>⟨My h.1,rM h.2⟩
def iz:List C->List D
 |[]=>[]
 |c::r=>.e (.one (.c c))::iz r
theorem na{σ:List aW}{s:St}:∀ {vs:List ak}{cs:List C},(∀ (j:Nat)(c:C),cs[j]?=aa c->∃ v,vs[j]?=aa v/\Rd s.M v c)->vs.length=cs.length->cG σ s vs (iz cs)
 |[],[],_,_=>trivial
 |[],_::_,_,h=>by simp at h
 |_::_,[],_,h=>by simp at h
 |v::vs,c::cs,h,e=>by
  obtain⟨u,a,d⟩:=h 0 c rfl;simp at a;subst a;exact⟨d,na (λj c b=>by simpa using h (j+1) c (by simpa using b)) (by simpa using e)⟩
theorem vb{α:Type}{ks:List Nat}{l r:List α}(h:kW ks l=aa r):∀ x∈r,x∈l:=by
 intro x d;obtain⟨f,b⟩:=gJ h;obtain⟨j,e,rfl⟩:=dN d;obtain⟨y,a,c⟩:=b j _ (aR (by omega))
 rw[aR e] at a;cases a;exact bz c
theorem aJ.sub{ks:List Nat}{σ f:List aW}{s:St}{a:List Loc}(hh:aJ σ s)(p:kW ks σ=aa f)(i:kW ks s.β=aa a)(v:du f=ab)(hn:eh ks=ab) :
  aJ f { s with β:=a,own:=xu s a }/\eW s { s with β:=a,own:=xu s a }:=by
 obtain⟨c1,c2⟩:=gJ p;obtain⟨d1,d2⟩:=gJ i;have d:∀ L∈a,L∈s.β:=vb i;refine⟨⟨hh.mem,by simp[c1,d1],?_,?_,?_,?_⟩,⟨rfl,λ_ _ _ h=>h,λ_ _ _=>rfl,hh.mem,?_⟩⟩
 .intro j B L r c;have hj:j<ks.length:=by rw[<-c1];exact(bt.1 r).1
  obtain⟨x,t,u⟩:=c2 j _ (aR hj);obtain⟨y,g,n⟩:=d2 j _ (aR hj);rw[r] at t;cases t;simp only at c;rw[c] at g;cases g;exact eZ.plain (σ:=σ) (s:=s) (s':={ s with β:=a,own:=xu s a }) rfl rfl (jA v B (bz r)) (hh.box _ B L u n)
 .intro j m L L' c e b hb oP;simp only at c e;have hj:j<ks.length:=by rw[<-d1];exact(bt.1 c).1
  have k:m<ks.length:=by rw[<-d1];exact(bt.1 e).1
  obtain⟨y,g,n⟩:=d2 j _ (aR hj);obtain⟨w,l,q⟩:=d2 m _ (aR k);rw[c] at g;cases g;rw[e] at l;cases l;have:=hh.gb _ _ L L' n q b hb oP;exact vE hn j m ks[j] (aR hj) (by rw[aR k,this])
 .intro L c b hb;exact hh.lt _ (d L c) b hb
 .rintro b (hb|⟨⟨L,c,hb⟩,o⟩)
  .exact⟨(hh.own b hb).1,λL c=>(hh.own b hb).2 L (d L c)⟩
  .exact⟨hh.lt L c b hb,o⟩
 .rintro b ((hb|⟨⟨L,c,hb⟩,_⟩)|⟨L,c,hb⟩)
  .exact .inl hb
  .exact .inr ⟨L,c,hb⟩
  .exact .inr ⟨L,d L c,hb⟩
theorem eW.back{σ d σ1:List aW}{s c s2:St}{a:List Loc}(hh:aJ σ s)(h1:aJ σ1 c)(st:cC d { s with β:=a,own:=xu s a } σ1 c)(g:s2.w=c.w)(f:s2.M=c.M)(k:s2.own=s.own)
  (e:∀ L∈s2.β,L∈c.β∨(L∈s.β/\∀ b∈L.bs,∀ L'∈a,b∉L'.bs)):eW c s2:=by
 refine⟨g,λb o v h=>by rw[f];exact h,λb _ o=>by rw[f],λb o v h=>by rw[f] at h;exact h1.mem b o v h,?_⟩
 rintro b (hb|⟨L,i,hb⟩)
 .left;rw[st.own];exact .inl (by rw[<-k];exact hb)
 .rcases e L i with h|⟨h,j⟩
  .exact .inr ⟨L,h,hb⟩
  .left;rw[st.own];exact .inr ⟨⟨L,h,hb⟩,j b hb⟩
theorem sM{P:an}{ι:Type}{X:Cx P}{S:au->St->Prop}{b:aQ}{k:List Item}{cs:List aQ}{a:Act}{s:St}{ops:Array av}{i:Nat}{rest:List Nat}{o:av}{ks:List Nat}{σ g:List aW}{σ1:ι->List aW}{f:aX}{d:List D}{res:ι->D}{vs:List ak}
  (hb:b.kind≠.early) (ho:ops[i]?=aa o) (hw:bk o (yielded ops a.tmps)=ab) (hh:aJ σ s) (H:∀ w,(aw a.eval o).run P w=.ok (.enter f vs.toArray) w) (C:∀ w,(aw a.eval o).events P w #[]=#[])
  (Y:dZ X f d g res σ1) (x:cG σ s vs (jP ks d)) (M:qm ks.length d=ab) (p:kW ks σ=aa g) (hp:du g=ab) (R:∀ j,du (σ1 j)=ab) (hn:eh ks=ab) (J:∀ j,ks.length<=(σ1 j).length)
  (h:∀ j v s',dh (en ks (σ1 j) σ) s' v (jQ (ks++oc σ.length ((σ1 j).length-ks.length)) (res j))->aJ (en ks (σ1 j) σ) s'->cC σ s (en ks (σ1 j) σ) s'->fG X S (G (b.aT (a.put o.dst v) (.inRegion ops rest::k)) cs) s') :
  fG X S (G (b.aT a (.inRegion ops (i::rest)::k)) cs) s:=by
 obtain⟨_,u⟩:=Y;refine .next rfl λn U=>?_
 have Q:=X.iO U;have e:=hh.rely Q;obtain⟨m,r⟩:=vC (l':=n.β) p e.len;obtain⟨y,O⟩:=e.sub p r hp hn;have q:cG σ n vs (jP ks d):=x.mono Q.stepW.ext hh.len;have z:cG g { n with β:=m,own:=xu n m } vs d:=(q.sub (s:=n) p r M).mono (σ:=g) (s:={ n with β:=m }) (σ':=g) (s':={ n with β:=m,own:=xu n m }) ⟨λ_ _ _ h=>h,λl B L hB hL=>⟨B,L,hB,hL,.refl _ _⟩⟩ y.len
 refine⟨_,n,_,rF ho hw hb (H n.w),?_,.ghost O (u _ vs z y S _ λj fr v s2 hl oa F8 oT=>?_)⟩
 .refine⟨⟨σ,σ,e,e,.refl _ _⟩,ft.seen ?_⟩;rw[C];exact .nil
 refine sI (cs:=cs) (c:=b.aT a (.inRegion ops (i::rest)::k)) F8 hl λs3 t=>?_
 have E:=F8.rely t;have A:=oT.trans t.stepW;obtain⟨s4,V,Z,W,T,K,N,F⟩:=frame e p r hn (R j) E A (J j) (oa.mono t.stepW.ext F8.len);refine .ghost (eW.back e E A V K N F) ?_;have I:=lF (b:=b) (a:=a) (k:=k) ops i rest v;rw[ho] at I;simp only[mg] at I;rw[I];exact h j v s4 Z W (Q.stepW.trans T)
theorem Iv{P:an}{X:Cx P}{S:au->St->Prop}{b:aQ}{k:List Item}{cs:List aQ}{a:Act}{s:St}{ops:Array av}{i:Nat}{rest:List Nat}{o:av}{ks:List Nat}{σ d:List aW}{σ1:List aW}{f:aX}{c:List D}{res:D}{vs:List ak}
  (y:b.kind≠.early) (z:ops[i]?=aa o) (u:bk o (yielded ops a.tmps)=ab) (t:aJ σ s) (g:∀ w,(aw a.eval o).run P w=.ok (.enter f vs.toArray) w) (j:∀ w,(aw a.eval o).events P w #[]=#[])
  (l:Ev X f c d res σ1) (e:cG σ s vs (jP ks c)) (m:qm ks.length c=ab) (q:kW ks σ=aa d) (x:du d=ab) (n:du σ1=ab) (r:eh ks=ab) (p:ks.length<=σ1.length)
  (h:∀ v s',dh (en ks σ1 σ) s' v (jQ (ks++oc σ.length (σ1.length-ks.length)) res)->aJ (en ks σ1 σ) s'->cC σ s (en ks σ1 σ) s'->fG X S (G (b.aT (a.put o.dst v) (.inRegion ops rest::k)) cs) s') :
  fG X S (G (b.aT a (.inRegion ops (i::rest)::k)) cs) s :=
 sM y z u t g j l.EW e m q x (λ_=>n) r (λ_=>p) (λ_=>h)
theorem jz{P:an}{o:av}{k:aq}{xs:Array aq}{i:Array ar}(l:o.op=.call { callee:=.value k,args:=xs,argTypes:=i }){f:aX}{fn:Func}(g:P.funcs[f]?=aa fn)(h:(fn.name== "runtime.NumGoroutine")=ae)(c:fn.body.isNone=ae)
  {a:Act} {cs:List ak} (m:a.eval k=.func (.func f) #[] cs.toArray) (w:az) :
  (aw a.eval o).run P w=.ok (.enter f (xs.toList.map a.eval++cs).toArray) w/\(aw a.eval o).events P w #[]=#[]:=by
 have j:(xs.map a.eval++cs.toArray)=(xs.toList.map a.eval++cs).toArray:=by apply il;simp
 have d:fn.name≠ "runtime.NumGoroutine":=by simpa using h
 have b:fn.body≠af:=by intro e;rw[e] at c;cases c
 constructor
 .simp[aw,l,resolve,m,Deferred.ofValue,invoke,callFunc,g,d,b,j]
 .simp[aw,l,resolve,m,Deferred.ofValue,invoke,callFunc,g,d,b]
theorem jE.Oy{P:an}{ι:Type}{X:Cx P}{N:Nat}{all rest:List av}{Q:Fr->List aW->Prop}{φ:Fr}{σ:List aW}{o:av}{B:aq}{xs:Array aq}{O:Array ar}
  (hg:∀ σ s a,cw N σ s φ a->bk o (yielded all.toArray a.tmps)=ab) (T:o.op=.call { callee:=.value B,args:=xs,argTypes:=O })
  {f:aX} {cap:List C} (A:gu (cj φ B)=aa (f,cap)) (ks:List Nat) {e:List D} {n:List aW} {σ1:ι->List aW} {res:ι->D} (z:dZ X f e n res σ1)
  (p:∀ s vs,cG σ s vs (xs.toList.map (cj φ)++iz cap)->cG σ s vs (jP ks e)) (G:qm ks.length e=ab) (H:kW ks σ=aa n) (Z:du n=ab) (L:∀ j,du (σ1 j)=ab) (hn:eh ks=ab) (E:∀ j,ks.length<=(σ1 j).length)
  (d:Option Nat) (hd:o.dst=d) (V:∀ t,d=aa t->t<N)
  (k:∀ j,jE X N all rest Q (m9 d (jQ (ks++oc σ.length ((σ1 j).length-ks.length)) (res j)) φ) (en ks (σ1 j) σ)):jE X N all (o::rest) Q φ σ:=by
 subst hd;intro s a g hh b kk cs S idx hb ly hQ;cases idx with
 |nil=>exact ly.elim
 |cons i idx =>
 obtain⟨hi,ly⟩:=ly;have x:=eP g B;unfold gu at A;split at A
 case h_2=>cases A
 case h_1 f' Mk he =>
  cases A;rw[he] at x;have m:=ga x;generalize R:a.eval B=fv at m;cases m with
  |fn fs m8 hl zk f1 f2 h1 h2 r1 r2 =>
   have I:fs=[]:=gh hl;subst I;have r:cG σ s m8 (iz cap):=na (λj c hj=>⟨f2 j,h2 j (by rw[zk];exact(bt.1 hj).1),r2 j c hj⟩) zk
   have u:cG σ s (xs.toList.map a.eval++m8) (jP ks e):=by
    exact p _ _ ((pU (eP g) xs.toList).append r)
   obtain⟨fn,y,l,h⟩:=z.1;refine sM hb hi (hg _ _ _ g) hh (λw=>(jz T y l h R w).1) (λw=>(jz T y l h R w).2) z u G H Z L hn E λj v s' hr lG st=>?_
   refine k j s' _ ?_ lG b kk cs S idx hb ly λF M W a3 q U Y K=>hQ F M W a3 q U Y (st.trans K)
   cases J:o.dst with
   |none=>exact g.mono st hh.len
   |some t=>exact(g.mono st hh.len).put (V t J) hr
theorem jE.Oz{P:an}{ι:Type}{X:Cx P}{N:Nat}{all rest:List av}{Q:Fr->List aW->Prop}{φ:Fr}{σ:List aW}{o:av}{q:aq}{xs:Array aq}{g:Array ar}
  (w:∀ σ s a,cw N σ s φ a->bk o (yielded all.toArray a.tmps)=ab) (y:o.op=.call { callee:=.value q,args:=xs,argTypes:=g })
  {f:aX} {cap:List C} (r:gu (cj φ q)=aa (f,cap)) (ks:List Nat) {b:List D} {c:List aW} {σ1:ι->List aW} {res:ι->D} (i:dZ X f b c res σ1)
  (e:qv (xs.toList.map (cj φ)++iz cap)=jP ks b) (l:qm ks.length b=ab) (p:kW ks σ=aa c) (u:du c=ab) (m:∀ j,du (σ1 j)=ab) (hn:eh ks=ab) (n:∀ j,ks.length<=(σ1 j).length)
  (d:Option Nat) (v:o.dst=d) (x:∀ t,d=aa t->t<N)
  (k:∀ j,jE X N all rest Q (m9 d (jQ (ks++oc σ.length ((σ1 j).length-ks.length)) (res j)) φ) (en ks (σ1 j) σ)):jE X N all (o::rest) Q φ σ :=
 jE.Oy w y r ks i (λs vs h=>by rw[<-e];exact rM h) l p u m hn n d v x k
theorem jE.call{P:an}{X:Cx P}{N:Nat}{all rest:List av}{Q:Fr->List aW->Prop}{φ:Fr}{σ:List aW}{o:av}{n:aq}{xs:Array aq}{g:Array ar}
  (u:∀ σ s a,cw N σ s φ a->bk o (yielded all.toArray a.tmps)=ab) (w:o.op=.call { callee:=.value n,args:=xs,argTypes:=g })
  {f:aX} {cap:List C} (p:gu (cj φ n)=aa (f,cap)) (ks:List Nat) {b:List D} {c σ1:List aW} {res:D} (h:Ev X f b c res σ1)
  (e:qv (xs.toList.map (cj φ)++iz cap)=jP ks b) (i:qm ks.length b=ab) (m:kW ks σ=aa c) (q:du c=ab) (j:du σ1=ab) (hn:eh ks=ab) (l:ks.length<=σ1.length)
  (d:Option Nat) (r:o.dst=d) (v:∀ t,d=aa t->t<N)
  (k:jE X N all rest Q (m9 d (jQ (ks++oc σ.length (σ1.length-ks.length)) res) φ) (en ks σ1 σ)):jE X N all (o::rest) Q φ σ :=
 jE.Oz u w p ks h.EW e i m q (λ_=>j) hn (λ_=>l) d r v (λ_=>k)
theorem Names.range(all:List av):Names all (bc all.toArray.size) all:=by
 have key:∀ (l:List av) (n:Nat),(∀ j o,l[j]?=aa o->all[n+j]?=aa o)->Names all (List.range' n l.length) l:=by
  intro l
  induction l with
  |nil=>intro n _;trivial
  |cons o r b =>
   intro n h;rw[db,List.range'_succ];refine⟨by simpa using h 0 o rfl,b (n+1) λj a hj=>?_⟩
   have:=h (j+1) a (by simpa using hj)
   rwa [show n+(j+1)=n+1+j by omega] at this
 have:=key all 0 (λj o h=>by simpa using h)
 rw[List.range_eq_range'];simpa using this
theorem AW.region{P:an}{X:Cx P}{N:Nat}{Q:Post}{φ:Fr}{σ:List aW}{id:Nat}{ops:Array av}(h:jE X N ops.toList ops.toList (λφ σ=>Q .normal φ σ) φ σ):AW X N (.region id ops ae) Q φ σ:=by
 intro s a f hh b k cs S hb hQ;refine .ctl hh rfl (λ_=>pQ) λe h1=>?_
 have:=h e a (f.rely h1 hh) (hh.rely h1) b k cs S (bc ops.size) hb (by simpa using Names.range ops.toList) λc σ' s' a' q g d st=>hQ .normal c σ' s' a' q g d (h1.stepW.trans st)
 simpa using this
theorem jE.nil{P:an}{X:Cx P}{N:Nat}{all:List av}{Q:Fr->List aW->Prop}{φ:Fr}{σ:List aW}(h:Q φ σ):jE X N all [] Q φ σ:=by
 intro s a f hh b k cs S idx _ c e;cases idx with
 |cons i idx=>exact c.elim
 |nil=>exact .ctl hh rfl (λ_=>iX) λd h1=>e φ σ d a h (f.rely h1 hh) (hh.rely h1) h1.stepW
theorem jE.mono{P:an}{X:Cx P}{N:Nat}{all rest:List av}{Q d:Fr->List aW->Prop}{φ:Fr}{σ:List aW}(h:jE X N all rest Q φ σ)(i:∀ φ σ,Q φ σ->d φ σ):jE X N all rest d φ σ :=
 λs a f hh b k cs S idx hb hi hQ=>h s a f hh b k cs S idx hb hi λc σ' s' a' q g e st=>hQ c σ' s' a' (i _ _ q) g e st
def iA:Nat->List D->Fr
 |_,[]=>[]
 |i,d::r=>(i,d)::iA (i+1) r
theorem lS:∀ (ds:List D)(i t:Nat),look (iA i ds) t=if i<=t then (ds[t-i]?).getD .any else .any
 |[],i,t=>by simp[iA,look]
 |d::r,i,t=>by
  simp only[iA,look]
  by_cases e:i=t
  .subst e;rw[show aA i i=ab from jI i]
   simp
  .have:aA i t=ae:=by
    cases h:aA i t
    .rfl
    .exact absurd (bE h) e
   rw[this];simp only[cond,lS r (i+1) t]
   by_cases a:i<=t
   .rw[aU (by omega),aU a,show t-i=(t-(i+1))+1 by omega]
    simp
   .rw[aO (by omega),aO a]
theorem cG.get{σ:List aW}{s:St}:∀ {vs:List ak}{ds:List D},cG σ s vs ds->vs.length=ds.length/\∀ (j:Nat),dh σ s ((vs[j]?).getD aj) ((ds[j]?).getD .any)
 |[],[],_=>⟨rfl,λj=>by simp[dh]⟩
 |[],_::_,h=>h.elim
 |_::_,[],h=>h.elim
 |v::vs,d::ds,h=>by
  obtain⟨h1,h2⟩:=cG.get h.2;refine⟨by simp[h1],λj=>?_⟩
  cases j with
  |zero=>simpa using h.1
  |succ j=>simpa using h2 j
def xw(φ:Fr):List ResultVar->Option (List D)
 |[]=>aa []
 |.tmp t::r=>match xw φ r with
  |some q=>aa (look φ t::q)
  |none=>af
 |.cell _ _::_=>af
def tL:List D->Option (List E1)
 |[]=>aa []
 |.e x::r=>match tL r with
  |some q=>aa (x::q)
  |none=>af
 |_::_=>af
def rN:List D->Option D
 |[d]=>aa d
 |ds=>match tL ds with
  |some es=>aa (.fW es)
  |none=>af
def gk(a:Act):ResultVar->Sem ak
 |ResultVar.tmp t=>pure (a.tmps.getD t aj)
 |ResultVar.cell ad t=>do loadVar t (<-asAddr (a.tmps.getD ad aj))
theorem EZ(P:an){N:Nat}{σ:List aW}{s:St}{φ:Fr}{a:Act}(f:cw N σ s φ a):∀ {rs:List ResultVar}{ds:List D},xw φ rs=aa ds ->
  ∃ vs,(∀ w,(rs.mapM (gk a)).run P w=Result.ok vs w)/\cG σ s vs ds/\cR P (rs.mapM (gk a))
 |[],ds,h=>by cases h;exact⟨[],by simp,ay,by rw[List.mapM_nil];exact .pure⟩
 |.tmp t::r,ds,h=>by
  simp only[xw] at h;cases b:xw φ r with
  |none=>simp[b] at h
  |some q =>
   simp[b] at h;subst h;obtain⟨vs,c,e,d⟩:=EZ P f b;refine⟨a.tmps.getD t aj::vs,?_,⟨f.slot t,e⟩,?_⟩
   .intro w;simp only[kA,bZ,gk,c7,cg,c]
   .rw[kA];exact .bind .pure λ_=>.bind d λ_=>.pure
 |.cell ad t::r,ds,h=>by simp[xw] at h
theorem Bc{σ:List aW}{s:St}:∀ {vs:List ak}{ds:List D}{es:List E1},tL ds=aa es->cG σ s vs ds->gI σ s vs es
 |[],[],es,h,_=>by cases h;trivial
 |[],_::_,_,_,h=>h.elim
 |_::_,[],_,_,h=>h.elim
 |v::vs,.e x::r,es,h,b=>by
  simp only[tL] at h;cases a:tL r with
  |none=>simp[a] at h
  |some q=>simp[a] at h;subst h;exact⟨b.1,Bc a b.2⟩
 |_::_,.fW _::_,es,h,_=>by simp[tL] at h
 |_::_,.any::_,es,h,_=>by simp[tL] at h
theorem Bd{σ:List aW}{s:St}{vs:List ak}{ds:List D}{d:D}(h:rN ds=aa d)(a:cG σ s vs ds):dh σ s (if h:vs.length=1 then vs[0] else .tuple vs.toArray) d:=by
 unfold rN at h;split at h
 .rename_i g
  cases h
  match vs,a with
  |[v],a=>simpa using a.1
 .rename_i b
  cases c:tL ds with
  |none=>simp[c] at h
  |some es =>
   simp[c] at h;subst h;have f:vs.length≠1:=by
    intro e;rw[(cG.get a).1] at e
    match ds,e with
    |[x],_=>exact b x rfl
   rw[dif_neg f];exact⟨vs,rfl,Bc c a⟩
def Be(P:an)(fn:Func)(φ:Fr)(d:D):Prop:=∀ {N:Nat}{σ:List aW}{s:St}{a:Act},cw N σ s φ a->∃ v,dh σ s v d/\∀ w,(∀ b o u,s.M b o=aa u->w.cell? ⟨b,o,af⟩=aa u)->(results fn a.tmps).run P w=.ok v w/\∀ e∈(results fn a.tmps).events P w #[],∃ b o u,e=⟨.cell ⟨b,o,af⟩,ae,ae⟩/\s.M b o=aa u
theorem tM{P:an}{N:Nat}{σ:List aW}{s:St}{φ:Fr}{a:Act}(f:cw N σ s φ a){fn:Func}{ds:List D}{d:D}(h:xw φ fn.results.toList=aa ds)(g:rN ds=aa d) :
  ∃ v,(∀ w,(results fn a.tmps).run P w=.ok v w)/\dh σ s v d/\cR P (results fn a.tmps):=by
 obtain⟨vs,i,b,c⟩:=EZ P f h;refine⟨_,λw=>?_,Bd g b,?_⟩
 .have e:(fn.results.mapM (gk a)).run P w=Result.ok vs.toArray w:=by
   rw[qE];simp only[Sem.run_map,i,cg]
  unfold results;rw[bZ];refine(dc (λr=>Result.andThen r _) (Eq.trans ?_ e)).trans ?_
  .congr 2
  .simp
 .unfold results;have e:cR P (fn.results.mapM (gk a)):=by
   rw[qE];exact .map c
  exact .bind e λ_=>.pure
theorem Be.of{P:an}{fn:Func}{φ:Fr}{ds:List D}{d:D}(h:xw φ fn.results.toList=aa ds)(hj:rN ds=aa d):Be P fn φ d:=by
 intro N σ s a f;obtain⟨v,h1,h2,c⟩:=tM (P:=P) f h hj;exact⟨v,h2,λw _=>⟨h1 w,λe b=>by rw[c w #[]] at b;simp at b⟩⟩
theorem aJ.kD{σ:List aW}{s:St}(h:aJ σ s):aJ (σ.map λ_=>.dead) s:=by
 refine⟨h.mem,by simp[h.len],λl B L a c=>?_,h.gb,h.lt,h.own⟩
 simp only[mT] at a;cases b:σ[l]? with
 |none=>rw[b] at a;cases a
 |some x=>rw[b] at a;cases a;trivial
structure OB (ls:List Nat)(s s':St):Prop where
 β:s'.β=s.β
 M:s'.M=s.M
 own:s'.own=s.own
 size:s.w.heap.size<=s'.w.heap.size
 eH:∀ b,(s.own b∨∃ (l:Nat) (L:Loc),s.β[l]?=aa L/\l∉ls/\b∈L.bs)->s'.w.heap[b]?=s.w.heap[b]?
 mem:∀ b o v,s.M b o=aa v->s'.w.cell? ⟨b,o,af⟩=aa v
 os:s'.w.os=s.w.os
 tape:s'.w.tape=s.w.tape
 output:s'.w.output=s.w.output
theorem cm.unR{s s':St}(h:cm s s')(ls:List Nat):OB ls s s' :=
 ⟨h.β,h.M,h.own,h.size,λb hb=>h.eH b (hb.imp id λ⟨l,L,h1,_,a⟩=>⟨L,bz h1,a⟩),h.mem,h.os,h.tape,h.output⟩
theorem OB.cat{l:Nat}{ls:List Nat}{s d s2:St}(h:OB [l] s d)(k:OB ls d s2):OB (l::ls) s s2:=by
 refine⟨k.β.trans h.β,k.M.trans h.M,k.own.trans h.own,eG h.size k.size,λb hb=>?_,λb o v e=>k.mem b o v (by rw[h.M];exact e),k.os.trans h.os,k.tape.trans h.tape,k.output.trans h.output⟩
 rw[k.eH b,h.eH b (hb.imp id λ⟨l',L,h1,h2,c⟩=>⟨l',L,h1,λa=>h2 (by simp at a;simp[a]),c⟩)]
 rw[h.own,h.β];exact hb.imp id λ⟨l',L,h1,h2,c⟩=>⟨l',L,h1,λa=>h2 (j9 _ a),c⟩
theorem IA{P:an}{w:az}{r:Nat}(a:w.heap[r]?=aa (.deferred (aa []))) :
  (Instr.takeDeferred r).run P w=.ok [] { w with heap:=w.heap.setIfInBounds r (.deferred af) }/\(Instr.takeDeferred r).events P w #[]=#[⟨.obj r,ae,ae⟩,⟨.obj r,ab,ae⟩]:=by
 have b:(getObj r).run P w=.ok (.deferred (aa [])) w:=by simp only[getObj,Sem.run,a]
 have c:(setObj r (.deferred af)).run P w=.ok () { w with heap:=w.heap.setIfInBounds r (.deferred af) }:=by simp only[setObj,Sem.run,a]
 have e:∀ es,(getObj r).events P w es=es.push ⟨.obj r,ae,ae⟩:=λes=>by simp only[getObj,Sem.events,Sem.runT,a];rfl
 have d:∀ es,(setObj r (.deferred af)).events P w es=es.push ⟨.obj r,ab,ae⟩:=λes=>by simp only[setObj,Sem.events,Sem.runT,a];rfl
 constructor
 .simp[Instr.takeDeferred,b,c]
 .simp[Instr.takeDeferred,b,e,d]
variable {P:an}{X:Cx P}{S:au->St->Prop}{cs:List aQ}{main:Bool}
theorem MA{a:aQ}{r:Nat}{ds:List Deferred}{w:az}(c:a.mode=.returning)(d:a.defers={ target:=.collected r,args:=#[] }::ds)(e:w.heap[r]?=aa (.deferred (aa []))) :
  aK P main (G a cs) w=.go (G { a with defers:=ds } cs) { w with heap:=w.heap.setIfInBounds r (.deferred af) } (seen P a.fn #[⟨.obj r,ae,ae⟩,⟨.obj r,ab,ae⟩]):=by
 obtain⟨f,b⟩:=IA (P:=P) e;simp[G,aK,unwind,c,d,f,b,GStep.after]
def vL(s:St):List Deferred->List Nat->Prop
 |[],[]=>True
 |d::ds,l::ls=>(∃ r:Nat,s.β[l]?=aa ⟨.int .i64 r,[r]⟩/\s.w.heap[r]?=aa (.deferred (aa []))/\(∀ o,s.M r o=af)/\d={ target:=.collected r,args:=#[] })/\l∉ls/\vL s ds ls
 |_,_=>False
theorem oJ.taken{σ:List aW}{s:St}(hh:aJ σ s):∀ {ds:List Deferred}{ls:List Nat},oJ σ s ds ls->vL s ds ls
 |[],[],_=>trivial
 |[],_::_,r=>r.elim
 |_::_,[],r=>r.elim
 |d::ds,l::ls,⟨⟨h1,L,r,h2,f,b⟩,g,h⟩=>by
  obtain⟨r',k1,c,a⟩:=hh.box l _ L h1 h2;subst k1;simp at f;have e:r'=r:=by omega
  subst e;exact⟨⟨r',h2,c,a,b⟩,g,oJ.taken hh h⟩
theorem vL.mono{s s':St}{b:Nat}(h:OB [b] s s'):∀ {ds:List Deferred}{ls:List Nat},b∉ls->vL s ds ls->vL s' ds ls
 |[],[],_,_=>trivial
 |[],_::_,_,r=>r.elim
 |_::_,[],_,r=>r.elim
 |d::ds,l::ls,a,⟨⟨r,h1,h2,f,c⟩,g,i⟩=>by
  simp only[ew,not_or] at a;refine⟨⟨r,by rw[h.β];exact h1,by rw[h.eH r (.inr ⟨l,_,h1,by simp;exactλe=>a.1 e.symm,by simp⟩)];exact h2,λo=>by rw[h.M];exact f o,c⟩,g,vL.mono h a.2 i⟩
theorem og:∀ (ls:List Nat)(f:aQ)(s:St)(σ:List aW),aJ σ s->(∀ B∈σ,B=.dead)->f.mode=.returning->vL s f.defers ls ->
  (∀ s',OB ls s s'->fG X S (G { f with defers:=[] } cs) s')->fG X S (G f cs) s
 |[],f,s,σ,x,p,E,q,k=>by
  have u:f.defers=[]:=by
   cases u:f.defers with
   |nil=>rfl
   |cons d ds=>rw[u] at q;exact q.elim
  have:=k s ((cm.refl x).unR _);have e:{ f with defers:=[] }=f:=by cases f;simp_all
  rwa [e] at this
 |l::ls,f,s,σ,x,p,E,q,k=>by
  cases u:f.defers with
  |nil=>rw[u] at q;exact q.elim
  |cons d ds =>
   rw[u] at q;obtain⟨⟨r,A,U,T,N⟩,O,R⟩:=q;subst N;refine .next rfl λi F=>?_
   have g:=X.iO F;have c:=x.rely g;have J:i.β[l]?=aa ⟨.int .i64 r,[r]⟩:=by rw[g.β];exact A
   have I:i.w.heap[r]?=aa (.deferred (aa [])):=by rw[g.eH r (.inr ⟨_,bz A,by simp⟩)];exact U
   have D:∀ o,i.M r o=af:=λo=>by rw[g.M];exact T o
   let s2:St:={ i with w:={ i.w with heap:=i.w.heap.setIfInBounds r (.deferred af) } }
   have K:∀ b,b≠r->s2.w.heap[b]?=i.w.heap[b]?:=λb a=>by
    show (i.w.heap.setIfInBounds r _)[b]?=_;rw[kX (λe=>a e.symm)]
   have j:∀ b o v,i.M b o=aa v->s2.w.cell? ⟨b,o,af⟩=aa v:=by
    intro b o v z;have n:b≠r:=by rintro rfl;rw[D] at z;cases z
    rw[<-c.mem b o v z];simp only[aY];rw[K b n]
   have y:aJ σ s2:=by
    refine⟨j,c.len,λl' B L V t=>?_,c.gb,λL t b a=>?_,λb a=>⟨?_,(c.own b a).2⟩⟩
    .rw[p B (bz V)];trivial
    .have:=c.lt L t b a;simpa[s2] using this
    .have:=(c.own b a).1;simpa[s2] using this
   have m:∃ L∈i.β,r∈L.bs:=⟨_,bz J,by simp⟩
   have st:Step σ i σ s2:=by
    refine⟨by simp[s2],λb _ a=>K b ?_,λ_ _ _ h=>h,λ_ _ _ _=>rfl,λL t b a=>.inr ⟨L,t,a⟩,λ_ B L h Q=>⟨B,L,h,Q,.refl _ _⟩,rfl,rfl,rfl,rfl⟩
    rintro rfl;obtain⟨L,t,C⟩:=m;exact a L t C
   have un:OB [l] s s2:=by
    refine⟨g.β,g.M,g.own,eG g.size (by simp[s2]),λb a=>?_,λb o v z=>j b o v (by rw[g.M];exact z),g.os,g.tape,g.output⟩
    have n:b≠r:=by
     rintro rfl;rcases a with a|⟨l',L',H,p2,p3⟩
     .exact(x.own b a).2 _ (bz A) (by simp)
     .exact p2 (by simp;exact x.gb l' l L' _ H A b p3 (by simp))
    rw[K b n];exact g.eH b (a.imp id λ⟨l',L',H,_,p3⟩=>⟨L',bz H,p3⟩)
   refine⟨_,s2,_,MA E u I,⟨⟨σ,σ,c,y,st⟩,ft.seen (.two ?_ ?_)⟩,?_⟩
   .exact⟨rfl,.inr m⟩
   .exact⟨rfl,.inr m⟩
   refine og ls { f with defers:=ds } s2 σ y p E (R.mono un O) λs' hu=>?_
   exact k s' (un.cat hu)
end Go.AM
namespace Go.AM
open Go.Conc (G)
def a9(n:Nat)(f g:Nat->List C):Prop:=∀ i,i<n->f i=g i
theorem Flat.C7{M:Mem}{k n:Nat}{es es':Nat->List C}{vs:List ak}(h:Flat M k n es vs)(a:a9 n es es'):Flat M k n es' vs :=
 ⟨h.len,λi hi=>by rw[<-a i hi];exact h.width i hi,λi hi j c hj=>h.rd i hi j c (by rw[a i hi];exact hj)⟩
def Xu:C->C->Option (List Prop)
 |.int k n,.int k' n'=>match Gr k k' with|true=>aa [n=n']|false=>af
 |.bool b,.bool b'=>aa [b=b']
 |.str s,.str s'=>aa [s=s']
 |.sl t k n es,.sl t' k' n' es'=>match aA k k' with
  |true=>match t,t' with
   |false,ab=>af
   |_,_=>aa [n=n',a9 n es es']
  |false=>match t,t' with
   |true,_=>aa [n=0,n'=0]
   |_,_=>af
 |.val x,.val y=>aa [x=y]
 |x,y=>aa [x=y]
theorem Qo{M:Mem}{v:ak}{x y:C}{ps:List Prop}(h:Xu x y=aa ps)(c:ai ps)(r:Rd M v x):Rd M v y:=by
 unfold Xu at h;split at h
 .rename_i k n k' n'
  cases d:Gr k k' <;> simp[d] at h
  subst h;cases zU d;cases (show n=n' from c)
  exact r
 .cases h;rename_i b f;cases (show b=f from c);exact r
 .cases h;rename_i b f;cases (show b=f from c);exact r
 .rename_i t k n es t' k' n' es'
  cases d:aA k k' with
  |true =>
   simp only[d] at h;have e:=bE d;subst e;cases t <;> cases t' <;> simp at h
   all_goals (subst h;obtain⟨rfl,g⟩:=(show n=n'/\a9 n es es' from c);first|exact r.C7 g|exact r.loose.C7 g)
  |false =>
   simp only[d] at h;cases t <;> simp at h
   subst h;obtain⟨rfl,rfl⟩:=(show n=0/\n'=0 from c)
   obtain⟨a,cap,vs,rfl,_,_,i,_⟩:=r.flat;have:=i rfl;subst this;exact Rd.jM
 .cases h;rename_i x y;cases (show x=y from c);exact r
 .cases h;cases c;exact r
def TO:A->A->Option (List Prop)
 |.c x,.c y=>Xu x y
 |.vec _ k n es,.c (.sl ae k' n' es')=>match aA k k' with|true=>aa [n=n',a9 n es es']|false=>af
 |.vec l k n es,.vec l' k' n' es'=>match aA l l' with
  |true=>match aA k k' with|true=>aa [n=n',a9 n es es']|false=>af
  |false=>af
 |.ptr l o,.ptr l' o'=>match aA l l' with|true=>(match aA o o' with|true=>aa []|false=>af)|false=>af
 |.ref l,.ref l'=>match aA l l' with|true=>aa []|false=>af
 |.bp l w,.bp l' w'=>match aA l l' with|true=>aa [w=w']|false=>af
 |_,.any=>aa []
 |_,_=>af
theorem Jj{σ:List aW}{s:St}{v:ak}{x y:A}{ps:List Prop}(h:TO x y=aa ps)(d:ai ps)(r:gB σ s v x):gB σ s v y:=by
 unfold TO at h;split at h
 .exact Qo h d r
 .rename_i k n es k' n' es'
  cases b:aA k k' <;> simp[b] at h
  subst h;have e:=bE b;subst e;obtain⟨rfl,f⟩:=(show n=n'/\a9 n es es' from d)
  exact r.1.C7 f
 .rename_i l k n es l' k' n' es'
  cases a:aA l l' <;> simp[a] at h
  cases b:aA k k' <;> simp[b] at h
  subst h;have e:=bE b;have c:=bE a;subst e c;obtain⟨rfl,f⟩:=(show n=n'/\a9 n es es' from d)
  exact⟨r.1.C7 f,r.2.1,r.2.2⟩
 .rename_i l o l' o'
  cases a:aA l l' <;> simp[a] at h
  cases b:aA o o' <;> simp[b] at h
  have e:=bE b;have c:=bE a;subst e c;exact r
 .rename_i l l'
  cases a:aA l l' <;> simp[a] at h
  have c:=bE a;subst c;exact r
 .rename_i l w l' w'
  cases a:aA l l' <;> simp[a] at h
  have c:=bE a;subst c;subst h;cases (show w=w' from d)
  exact r
 .exact gB.cell r
 .cases h
def kl:List Prop->List Prop->List Prop
 |[],q=>q
 |p::r,q=>p::kl r q
theorem ai.cat{p q:List Prop}:ai (kl p q)↔ai p/\ai q:=by
 induction p with
 |nil=>simp[kl,ai]
 |cons x r a=>simp only[kl,ai.cons,a,and_assoc]
def OR:List A->List A->Option (List Prop)
 |[],[]=>aa []
 |a::al,b::bs=>match TO a b with
  |some p=>match OR al bs with
   |some q=>aa (kl p q)
   |none=>af
  |none=>af
 |_,_=>af
theorem DD{σ:List aW}{s:St}:∀ {vs:List ak}{xs ys:List A}{ps:List Prop},OR xs ys=aa ps->ai ps->dX σ s vs xs->dX σ s vs ys
 |[],[],[],_,_,_,_=>trivial
 |_::_,[],_,_,_,_,h=>h.elim
 |[],_::_,_,_,_,_,h=>h.elim
 |[],[],_::_,_,h,_,_=>by simp[OR] at h
 |_::_,_::_,[],_,h,_,_=>by simp[OR] at h
 |v::vs,a::al,b::bs,ps,h,e,f=>by
  simp only[OR] at h;cases c:TO a b with
  |none=>simp[c] at h
  |some p =>
   cases d:OR al bs with
   |none=>simp[c,d] at h
   |some q =>
    simp[c,d] at h;subst h;rw[ai.cat] at e;exact⟨Jj c e.1 f.1,DD d e.2 f.2⟩
def TP:E1->E1->Option (List Prop)
 |.one a,.one b=>TO a b
 |.agg al,.agg bs=>OR al bs
 |_,_=>af
theorem Jk{σ:List aW}{s:St}{v:ak}{x y:E1}{ps:List Prop}(h:TP x y=aa ps)(a:ai ps)(r:mc σ s v x):mc σ s v y:=by
 cases x <;> cases y <;> simp only[TP,reduceCtorEq] at h
 .exact Jj h a r
 .obtain⟨vs,c,b⟩:=r;exact⟨vs,c,DD h a b⟩
def DG:List E1->List E1->Option (List Prop)
 |[],[]=>aa []
 |a::al,b::bs=>match TP a b with
  |some p=>match DG al bs with
   |some q=>aa (kl p q)
   |none=>af
  |none=>af
 |_,_=>af
theorem Fj{σ:List aW}{s:St}:∀ {vs:List ak}{xs ys:List E1}{ps:List Prop},DG xs ys=aa ps->ai ps->gI σ s vs xs->gI σ s vs ys
 |[],[],[],_,_,_,_=>trivial
 |_::_,[],_,_,_,_,h=>h.elim
 |[],_::_,_,_,_,_,h=>h.elim
 |[],[],_::_,_,h,_,_=>by simp[DG] at h
 |_::_,_::_,[],_,h,_,_=>by simp[DG] at h
 |v::vs,a::al,b::bs,ps,h,e,f=>by
  simp only[DG] at h;cases c:TP a b with
  |none=>simp[c] at h
  |some p =>
   cases d:DG al bs with
   |none=>simp[c,d] at h
   |some q =>
    simp[c,d] at h;subst h;rw[ai.cat] at e;exact⟨Jk c e.1 f.1,Fj d e.2 f.2⟩
def Bf:D->D->Option (List Prop)
 |.e x,.e y=>TP x y
 |.fW xs,.fW ys=>DG xs ys
 |_,.any=>aa []
 |_,_=>af
theorem oU{σ:List aW}{s:St}{v:ak}{x y:D}{ps:List Prop}(h:Bf x y=aa ps)(a:ai ps)(r:dh σ s v x):dh σ s v y:=by
 cases x <;> cases y <;> simp only[Bf,reduceCtorEq] at h
 .exact Jk h a r
 .trivial
 .obtain⟨vs,c,b⟩:=r;exact⟨vs,c,Fj h a b⟩
 .trivial
 .trivial
def r6(φ:Fr):Fr->Option (List Prop)
 |[]=>aa []
 |(i,d)::r=>match Bf (look φ i) d with
  |some p=>match r6 φ r with
   |some q=>aa (kl p q)
   |none=>af
  |none=>af
theorem dK{φ:Fr}:∀ {a:Fr}{ps:List Prop},r6 φ a=aa ps->ai ps->r7 φ a
 |[],_,_,_=>λ_ _ _ _ _=>trivial
 |(i,d)::r,ps,h,f=>by
  simp only[r6] at h;cases b:Bf (look φ i) d with
  |none=>simp[b] at h
  |some p =>
   cases c:r6 φ r with
   |none=>simp[b,c] at h
   |some q =>
    simp[b,c] at h;subst h;rw[ai.cat] at f;intro σ s v t g;simp only[look];cases j:aA i t with
    |true =>
     have e:=bE j;subst e;exact oU b f.1 g
    |false=>exact dK c f.2 σ s v t g
def km(σ:List aW):Bool:=match du σ with|true=>nj σ|false=>ae
theorem sZ{σ:List aW}(h:km σ=ab):du σ=ab/\nj σ=ab:=by
 unfold km at h;split at h
 .rename_i a;exact⟨a,h⟩
 .cases h
theorem oJ.yb{σ:List aW}{s:St}:∀ {ds:List Deferred}{ls:List Nat},oJ σ s ds ls->∀ l∈ls,σ[l]?=aa .rC
 |[],[],_,l,hl=>by simp at hl
 |[],_::_,r,_,_=>r.elim
 |_::_,[],r,_,_=>r.elim
 |d::ds,b::ls,⟨⟨h1,_⟩,_,a⟩,l,hl=>by
  rcases ew.1 hl with rfl|hl
  .exact h1
  .exact oJ.yb a l hl
def cn(fn:Func)(a:Nat)(res:D)(σ':List aW):Post:=λe φ σ1 =>
 (e=.ret∨e=.normal)/\∃ ks ds d ps,xw φ fn.results.toList=aa ds/\rN ds=aa d/\Bf d (jQ ks res)=aa ps/\ai ps/\uy ks.length res=ab /\
  kW ks σ1=aa σ'/\km σ'=ab/\eh ks=ab/\(∀ j,j<a->ks[j]?=aa j)
def Bg(P:an)(fn:Func)(a:Nat)(res:D)(σ':List aW):Post:=λe φ σ1 =>
 (e=.ret∨e=.normal)/\∃ ks d ps,Be P fn φ d/\Bf d (jQ ks res)=aa ps/\ai ps/\uy ks.length res=ab /\
  kW ks σ1=aa σ'/\km σ'=ab/\eh ks=ab/\(∀ j,j<a->ks[j]?=aa j)
theorem cn.toJ{P:an}{fn:Func}{a:Nat}{res:D}{σ':List aW}{e:Exit}{φ:Fr}{σ1:List aW}(h:cn fn a res σ' e φ σ1):Bg P fn a res σ' e φ σ1:=by
 obtain⟨c,ks,ds,d,ps,h1,h2,b⟩:=h;exact⟨c,ks,d,ps,Be.of h1 h2,b⟩
theorem dZ.Jl{P:an}{ι:Type}{X:Cx P}{f:aX}{fn:Func}{c:Code}{args:List D}{σ:List aW}{σ':ι->List aW}{res:ι->D}(Y:P.funcs[f]?=aa fn)(H:(fn.name== "runtime.NumGoroutine")=ae)(hb:fn.body=aa c)(hlen:args.length<=fn.ntmps)
  (h:∀ s a,cw fn.ntmps σ s (iA 0 args) a->aJ σ s->∀ (b:aQ) (k:List Item) (cs:List aQ) (S:au->St->Prop),b.kind≠.early->b.roundOf=af ->
  (∀ e A σ1 s' a',(∃ j,Bg P fn σ.length (res j) (σ' j) e A σ1)->cw fn.ntmps σ1 s' A a'->aJ σ1 s'->cC σ s σ1 s'->ends X S b k cs e a' s')->fG X S (G (b.aT a (.code c::k)) cs) s):dZ X f args σ res σ':=by
 refine⟨⟨fn,Y,H,by rw[hb];rfl⟩,λs vs hr hh S cs hS=>?_⟩
 obtain⟨hl,hg⟩:=cG.get hr
 let b:aQ:={ fn:=f,tmps:=#[],todo:=[],defers:=[],mode:=.run,kind:=.normal,roundOf:=af }
 have z:Frame.enter P f vs.toArray .normal=b.aT { tmps:=vs.toArray++Array.replicate (fn.ntmps-vs.toArray.size) aj,defers:=[] } [.code c]:=by
  simp[Frame.enter,Frame.aT,Y,hb,b]
 rw[z];refine h s { tmps:=vs.toArray++Array.replicate (fn.ntmps-vs.toArray.size) aj,defers:=[] } ⟨by simp;omega,⟨[],ay⟩,λt=>?_⟩ hh b [] cs S (by simp[b]) rfl ?_
 .rw[lS];simp only[iK,bO,lu];have:=hg t;rcases cr t vs.length with qu|Pv
  .have e:(vs.toArray++Array.replicate (fn.ntmps-vs.toArray.size) aj).getD t aj=(vs[t]?).getD aj:=by
    simp only[cT];rw[uL (by simpa using qu)]
    simp
   rw[e];exact this
  .rw[eU (by omega)]
   trivial
 .rintro e A σ1 s1 a1 ⟨W,he,ks,d,ps,h1,h3,h4,h5,V,TQ,h8,h9⟩ f' R st;obtain⟨h7,Z⟩:=sZ TQ;have fin:∀ (fr:aQ) s2,cm s1 s2->fr.fn=f->fr.tmps=a1.tmps->fr.defers=a1.defers->fr.mode=.returning->fr.kind=.normal->fG X S (G fr cs) s2:=by
   intro fr s2 nN e1 e2 e3 e4 e5;have f2:=f'.rely nN R;have m:=R.rely nN;have g:=st.trans nN.stepW;obtain⟨v,r2,r1⟩:=h1 f2;obtain⟨i,r⟩:=vC (l':=s2.β) V m.len;have r4:=(oU h3 h4 r2).sub V r h5;obtain⟨c1,c2⟩:=gJ V;obtain⟨d1,d2⟩:=gJ r;have C:∀ L∈i,L∈s2.β:=vb r;have K:aJ (σ' W) { s2 with β:=i }:=by
    obtain⟨E,_⟩:=m.sub V r h7 h8;refine⟨E.mem,E.len,λj B L O q=>?_,E.gb,E.lt,λb hb=>⟨(m.own b hb).1,λL q=>(m.own b hb).2 L (C L q)⟩⟩
    exact eZ.plain (σ:=σ' W) (s:={ s2 with β:=i,own:=xu s2 i }) (s':={ s2 with β:=i }) rfl rfl (jA h7 B (bz O)) (E.box j B L O q)
   have Jm:cC σ s (σ' W) { s2 with β:=i }:=by
    refine⟨g.size,g.eH,g.mem,g.jq,λL q b hb=>g.tK _ (C L q) b hb,λl B L O q=>?_,g.os,g.tape,g.output,g.own⟩
    have hl:l<σ.length:=(bt.1 O).1;obtain⟨B',L',p1,p2,p3⟩:=g.box l B L O q;obtain⟨x,x1,J⟩:=c2 l l (h9 l hl);obtain⟨y,T,U⟩:=d2 l l (h9 l hl);rw[p1] at J;cases J;rw[p2] at U;cases U;exact⟨B',L',x1,T,p3⟩
   obtain⟨ls,Q⟩:=f2.defers;refine og ls fr s2 _ m.kD (by simp) e4 (by rw[e3];exact Q.taken m) λF n=>?_
   have p:cm { s2 with β:=i } { F with β:=i }:=by
    refine⟨rfl,n.M,n.own,n.size,λb hb=>n.eH b (hb.imp id ?_),n.mem,n.os,n.tape,n.output⟩
    rintro⟨L,q,hb⟩;obtain⟨j,hj,rfl⟩:=dN q;have N:j<ks.length:=by rw[<-d1];exact hj
    obtain⟨y,T,U⟩:=d2 j _ (aR N);obtain⟨x,x1,J⟩:=c2 j _ (aR N);rw[aR hj] at T;cases T;refine⟨_,_,U,λhc=>?_,hb⟩
    rw[Q.yb _ hc] at J;cases J;exact lH Z _ (bz x1) rfl
   have hG:eW F { F with β:=i }:=⟨rfl,λ_ _ _ h=>h,λ_ _ _=>rfl,λb o v hv=>n.mem b o v (by rw[<-n.M];exact hv),λb hb=>hb.imp id λ⟨L,q,hb⟩=>⟨L,by rw[n.β];exact C L q,hb⟩⟩
   refine .ghost hG (hS W _ v _ ⟨e1,e4,rfl,e5,fn,by show P.funcs[fr.fn]?=_;rw[e1];exact Y,λw hw=>?_⟩ (r4.mono p.stepW.ext K.len) (K.rely p) (Jm.trans p.stepW))
   show (results fn fr.tmps).run P w=_/\∀ e∈(results fn fr.tmps).events P w #[],_;rw[e2];have I:∀ b o u,s2.M b o=aa u->w.cell? ⟨b,o,af⟩=aa u:=λb o u h=>hw b o u (by show F.M b o=aa u;rw[n.M];exact h)
   refine⟨(r1 w I).1,λe he=>?_⟩
   obtain⟨b,o,u,q1,q2⟩:=(r1 w I).2 e he;exact⟨b,o,u,q1,by show F.M b o=aa u;rw[n.M];exact q2⟩
  rcases he with rfl|rfl
  .intro pre;exact .ctl R rfl (λ_=>zn rfl) λs2 nN=>fin _ s2 nN rfl rfl (hJ _) rfl rfl
  .exact .ctl R rfl (λ_=>zo rfl) λs2 nN=>fin _ s2 nN rfl rfl (hJ _) rfl rfl
theorem dZ.OQ{P:an}{ι:Type}{X:Cx P}{f:aX}{fn:Func}{c:Code}{args:List D}{σ:List aW}{σ':ι->List aW}{res:ι->D}(l:P.funcs[f]?=aa fn)(g:(fn.name== "runtime.NumGoroutine")=ae)(hb:fn.body=aa c)(i:args.length<=fn.ntmps)
  (h:∀ s a,cw fn.ntmps σ s (iA 0 args) a->aJ σ s->∀ (b:aQ) (k:List Item) (cs:List aQ) (S:au->St->Prop),b.kind≠.early->b.roundOf=af ->
  (∀ e d σ1 s' a',(∃ j,cn fn σ.length (res j) (σ' j) e d σ1)->cw fn.ntmps σ1 s' d a'->aJ σ1 s'->cC σ s σ1 s'->ends X S b k cs e a' s')->fG X S (G (b.aT a (.code c::k)) cs) s):dZ X f args σ res σ' :=
 dZ.Jl l g hb i λs a f hh b k cs S h1 h2 hQ=>h s a f hh b k cs S h1 h2 λe d σ1 s' a' ⟨j,q⟩=>hQ e d σ1 s' a' ⟨j,q.toJ⟩
theorem dZ.PK{P:an}{ι:Type}{X:Cx P}{f:aX}{fn:Func}{c:Code}{args:List D}{σ:List aW}{σ':ι->List aW}{res:ι->D}(i:P.funcs[f]?=aa fn)(d:(fn.name== "runtime.NumGoroutine")=ae)(hb:fn.body=aa c)(g:args.length<=fn.ntmps)
  (h:AW X fn.ntmps c (λe φ σ1=>∃ j,Bg P fn σ.length (res j) (σ' j) e φ σ1) (iA 0 args) σ):dZ X f args σ res σ' :=
 dZ.Jl i d hb g λs a f hh b k cs S m _ l=>h s a f hh b k cs S m l
theorem dZ.intro{P:an}{ι:Type}{X:Cx P}{f:aX}{fn:Func}{c:Code}{args:List D}{σ:List aW}{σ':ι->List aW}{res:ι->D}(i:P.funcs[f]?=aa fn)(d:(fn.name== "runtime.NumGoroutine")=ae)(hb:fn.body=aa c)(g:args.length<=fn.ntmps)
  (h:AW X fn.ntmps c (λe φ σ1=>∃ j,cn fn σ.length (res j) (σ' j) e φ σ1) (iA 0 args) σ):dZ X f args σ res σ' :=
 dZ.OQ i d hb g λs a f hh b k cs S m _ l=>h s a f hh b k cs S m l
theorem Ev.intro{P:an}{X:Cx P}{f:aX}{fn:Func}{c:Code}{args:List D}{σ σ':List aW}{res:D}(d:P.funcs[f]?=aa fn)(a:(fn.name== "runtime.NumGoroutine")=ae)(hb:fn.body=aa c)(b:args.length<=fn.ntmps)
  (h:AW X fn.ntmps c (cn fn σ.length res σ') (iA 0 args) σ):Ev X f args σ res σ' :=
 (dZ.intro d a hb b (AW.mono h λ_ _ _ q=>⟨(),q⟩)).Di
end Go.AM
namespace Go.AM
inductive It where
 |code (c:Code)
 |blk (id:Nat)
 |ops (all rest:List av)
def AK{P:an}(X:Cx P)(N:Nat)(Qf:Post):List It->Post
 |[],e,φ,σ=>Qf e φ σ
 |.code c::K,.normal,φ,σ=>AW X N c (AK X N Qf K) φ σ
 |.code _::K,e,φ,σ=>AK X N Qf K e φ σ
 |.blk id::K,.exit HY,φ,σ=>if HY=id then AK X N Qf K .normal φ σ else AK X N Qf K (.exit HY) φ σ
 |.blk _::K,e,φ,σ=>AK X N Qf K e φ σ
 |.ops all rest::K,.normal,φ,σ=>jE X N all rest (AK X N Qf K .normal) φ σ
 |.ops _ _::K,e,φ,σ=>AK X N Qf K e φ σ
section
variable {P:an}{X:Cx P}{N:Nat}{Qf:Post}{K:List It}{φ:Fr}{σ:List aW}
theorem AK.of_code{c:Code}(h:AK X N Qf [.code c] .normal φ σ):AW X N c Qf φ σ:=h
theorem AK.skip(h:AK X N Qf K .normal φ σ):AK X N Qf (.code .skip::K) .normal φ σ:=AW.skip h
theorem AK.seq{x y:Code}(h:AK X N Qf (.code x::.code y::K) .normal φ σ):AK X N Qf (.code (.seq x y)::K) .normal φ σ:=by
 refine AW.seq (AW.mono h ?_);intro e a σ' q;cases e <;> exact q
theorem AK.block{id:Nat}{c:Code}(h:AK X N Qf (.code c::.blk id::K) .normal φ σ):AK X N Qf (.code (.block id c)::K) .normal φ σ:=by
 refine AW.block (AW.mono h ?_);intro e a σ' q;cases e <;> exact q
theorem AK.QG{id:Nat}(h:AK X N Qf K .normal φ σ):AK X N Qf (.blk id::K) .normal φ σ:=h
theorem AK.region{id:Nat}{ops:Array av}(h:AK X N Qf (.ops ops.toList ops.toList::K) .normal φ σ):AK X N Qf (.code (.region id ops ae)::K) .normal φ σ:=AW.region h
theorem AK.QH{all:List av}(h:AK X N Qf K .normal φ σ):AK X N Qf (.ops all []::K) .normal φ σ:=jE.nil h
theorem AK.r5:∀ {K:List It},Qf .ret φ σ->AK X N Qf K .ret φ σ
 |[],h=>h
 |.code _::K,h=>AK.r5 (K:=K) h
 |.blk _::K,h=>AK.r5 (K:=K) h
 |.ops _ _::K,h=>AK.r5 (K:=K) h
theorem AK.ret(h:Qf .ret φ σ):AK X N Qf (.code .ret::K) .normal φ σ:=AW.ret (AK.r5 h)
def kO(id:Nat):List It->Option (List It)
 |[]=>af
 |.blk i::K=>match aA id i with|true=>aa K|false=>kO id K
 |_::K=>kO id K
theorem AK.wc{id:Nat}:∀ {K a:List It},kO id K=aa a->AK X N Qf a .normal φ σ->AK X N Qf K (.exit id) φ σ
 |[],_,h,_=>by cases h
 |.blk i::K,a,h,q=>by
  simp only[kO] at h;cases hb:aA id i with
  |true =>
   simp[hb] at h;subst h;have e:=bE hb;simp only[AK,e,bO];exact q
  |false =>
   simp[hb] at h;have b:id≠i:=λe=>by rw[e,jI] at hb;cases hb
   simp only[AK,b,bH];exact AK.wc h q
 |.code _::K,a,h,q=>AK.wc (K:=K) h q
 |.ops _ _::K,a,h,q=>AK.wc (K:=K) h q
theorem AK.exit{id:Nat}{a:List It}(b:kO id K=aa a)(h:AK X N Qf a .normal φ σ):AK X N Qf (.code (.exit id)::K) .normal φ σ:=AW.exit (AK.wc b h)
theorem AK.cond{c:aq}{x y:Code}{b:Bool}{t:Nat}(f:c=.tmp t)(hl:look φ t=.e (.one (.c (.bool b))))
  (d:b=ab->AK X N Qf (.code x::K) .normal φ σ) (a:b=ae->AK X N Qf (.code y::K) .normal φ σ):AK X N Qf (.code (.cond c x y)::K) .normal φ σ:=AW.cond f hl d a
theorem AK.loop{S:Type}{c:Code}(I:S->Prop)(fr:S->Fr)(st:S->List aW)(b:S->Nat)(x:S)(h:I x)(f:r7 φ (fr x))(d:st x=σ)
  (round:∀ x,I x->AK X N (λe a σ'=>match e with
   |.normal=>∃ y,I y/\b y<b x/\r7 a (fr y)/\σ'=st y
   |e=>AK X N Qf K e a σ') [.code c] .normal (fr x) (st x)):AK X N Qf (.code (.loop c)::K) .normal φ σ:=by
 refine AW.loop I fr st b x h f d λy g=>AW.mono (round y g) ?_
 intro e a σ' q;cases e <;> exact q
end
def dj{α a:Type}:List α->(List α->Option a)->Option a
 |[],k=>k []
 |x::r,k=>dj r λq=>k (x::q)
theorem cZ{α a:Type}(l:List α)(k:List α->Option a):dj l k=k l:=by
 induction l generalizing k with
 |nil=>rfl
 |cons x r b=>simp[dj,b]
def zK(φ:Fr)(all:List av)(j:Nat):Option (Option Bool) :=
 match fZ j all with
 |some oj=>match oj.dst with
  |some d=>match look φ d with
   |.e (.one (.c (.bool ab)))=>aa (aa ab)
   |.e (.one (.c (.bool ae)))=>aa (aa ae)
   |.fW []=>aa af
   |_=>af
  |none=>af
 |none=>af
theorem pY{N:Nat}{φ:Fr}{all:List av}{j:Nat}{r:Option Bool}(h:zK φ all j=aa r){σ:List aW}{s:St}{a:Act}(f:cw N σ s φ a):yielded all.toArray a.tmps j=r:=by
 unfold zK at h;rw[fi] at h;unfold yielded;cases n:all[j]? with
 |none=>simp[n] at h
 |some oj =>
  simp only[n] at h;simp only[iR,n,mg];cases o:oj.dst with
  |none=>simp[o] at h
  |some d =>
   simp only[o] at h;simp only[mg];have e:=f.slot d;have key:∀ v,a.tmps.getD d aj=v->v≠aj->a.tmps[d]?=aa v:=by
    intro v c l;simp only[cT] at c;cases k:a.tmps[d]? with
    |none=>rw[k] at c;exact absurd c.symm l
    |some u=>rw[k] at c;simp at c;rw[c]
   split at h
   .rename_i g
    cases h;rw[g] at e;have b:=ga e;generalize c:a.tmps.getD d aj=v at b;cases b;rw[key _ c (by simp[aj])]
   .rename_i g
    cases h;rw[g] at e;have b:=ga e;generalize c:a.tmps.getD d aj=v at b;cases b;rw[key _ c (by simp[aj])]
   .rename_i g
    cases h;rw[g] at e;obtain⟨vs,i,p⟩:=e;have m:vs=[]:=by cases vs with
     |nil=>rfl
     |cons _ _=>exact p.elim
    subst m;simp only[cT] at i;cases k:a.tmps[d]? with
    |none=>rfl
    |some u =>
     rw[k] at i;simp at i;subst i;rfl
   .cases h
def VD(T:List (Nat×TI))(φ:Fr)(σ:List aW)(o:av):Option (D×List aW×List Prop) :=
 match o.op with
 |.move x|.assign x=>aa (cj φ x,σ,[])
 |.pick c a b=>match cj φ c with
  |.e (.one (.c (.bool ab)))=>aa (cj φ a,σ,[])
  |.e (.one (.c (.bool ae)))=>aa (cj φ b,σ,[])
  |_=>af
 |.binOp op _ x y _=>match cj φ x,cj φ y with
  |.e (.one (.c a)),.e (.one (.c b))=>match ME op a b with
   |some (c,obs)=>aa (.e (.one (.c c)),σ,obs)
   |none=>af
  |_,_=>af
 |.unOp op _ x=>match cj φ x with
  |.e (.one (.c a))=>match VC op a with
   |some c=>aa (.e (.one (.c c)),σ,[])
   |none=>af
  |_=>af
 |.extract x j=>match cj φ x with
  |.fW xs=>match fZ j xs with
   |some e=>aa (.e e,σ,[])
   |none=>af
  |_=>af
 |.alloc E=>match bL T E with
  |some i=>dj (σ++[.cells E (i.zero.map A.c)]) λσ'=>aa (.e (.one (.ptr σ.length 0)),σ',[])
  |none=>af
 |.box E x=>match mW (cj φ x) with
  |some cs=>dj (σ++[.cells E cs]) λσ'=>aa (.e (.one (.ptr σ.length 0)),σ',[])
  |none=>af
 |.load t x=>match bL T t with
  |some i=>match cj φ x with
   |.e (.one (.ptr l off))=>match fZ l σ with
    |some (.cells _ cs)=>match nh i (im off cs) with
     |some e=>aa (.e e,σ,[])
     |none=>af
    |_=>af
   |.e (.one (.c (.rp cs)))=>match nh i (cs.map A.c) with
    |some e=>aa (.e e,σ,[])
    |none=>af
   |_=>af
  |none=>af
 |.store t x y=>match bL T t with
  |some i=>match cj φ x with
   |.e (.one (.ptr l off))=>match fZ l σ with
    |some (.cells E cs)=>match mW (cj φ y) with
     |some new=>match aA new.length i.size with
      |true=>match fg off new cs with
       |some m8=>dj (en.sL l (.cells E m8) σ) λσ'=>aa (.any,σ',[])
       |none=>af
      |false=>af
     |none=>af
    |_=>af
   |_=>af
  |none=>af
 |.fieldAddr t x f=>match jR T t f with
  |some (k,_)=>match cj φ x with
   |.e (.one (.ptr l off))=>aa (.e (.one (.ptr l (off+k))),σ,[])
   |.e (.one (.c (.rp cs)))=>aa (.e (.one (.c (.rp (im k cs)))),σ,[])
   |_=>af
  |none=>af
 |.field t x f=>match jR T t f with
  |some (k,j)=>match cj φ x with
   |.e (.agg cs)=>match nh j (im k cs) with
    |some e=>aa (.e e,σ,[])
    |none=>af
   |_=>af
  |none=>af
 |.nilCheck x=>match cj φ x with
  |.e (.one (.ptr l off))=>aa (.e (.one (.ptr l off)),σ,[])
  |.e (.one (.c (.rp cs)))=>aa (.e (.one (.c (.rp cs))),σ,[])
  |_=>af
 |.build t parts=>match zI T (cj φ) t parts.toList with
  |some cs=>aa (.e (.agg cs),σ,[])
  |none=>af
 |.buildSlice t n parts=>match Dc T (cj φ) t n parts.toList with
  |some (k,es)=>aa (.e (.one (.c (.sl ab k n λi=>es.getD i []))),σ,[])
  |none=>af
 |_=>af
theorem Ds{P:an}{T:List (Nat×TI)}(m:dk P T){φ:Fr}{σ σ':List aW}{o:av}{x:D}{obs:List Prop}(h:VD T φ σ o=aa (x,σ',obs))(B:ai obs):bR P o (cj φ) σ x σ':=by
 unfold VD at h;split at h
 .rename_i y d
  cases h;exact bR.move d
 .rename_i y d
  cases h;exact bR.assign d
 .rename_i c a b d
  split at h
  .rename_i g;cases h;exact bR.pick d g
  .rename_i g;cases h;exact bR.pick d g
  .cases h
 .rename_i op t y z ty d
  split at h
  .rename_i a b r s
   split at h
   .rename_i c u g;cases h;exact bR.binOp d r s g B
   .cases h
  .cases h
 .rename_i op t y d
  split at h
  .rename_i a r
   split at h
   .rename_i c g;cases h;exact bR.unOp d r g
   .cases h
  .cases h
 .rename_i y j d
  split at h
  .rename_i xs hx
   split at h
   .rename_i e A;cases h;exact bR.extract d hx (dY A)
   .cases h
  .cases h
 .rename_i E d
  split at h
  .rename_i i hi;rw[cZ] at h;cases h;exact bR.alloc m d hi
  .cases h
 .rename_i E y d
  split at h
  .rename_i cs g;rw[cZ] at h;cases h;exact bR.box d g
  .cases h
 .rename_i t y d
  split at h
  .rename_i i hi
   split at h
   .rename_i l off hx
    split at h
    .rename_i E cs hB
     split at h
     .rename_i e p;cases h;exact bR.E9 m d hx (dY hB) hi p
     .cases h
    .cases h
   .rename_i cs hx
    split at h
    .rename_i e p;cases h;exact bR.IW m d hx hi p
    .cases h
   .cases h
  .cases h
 .rename_i t y z d
  split at h
  .rename_i i hi
   split at h
   .rename_i l off hx
    split at h
    .rename_i E cs hB
     split at h
     .rename_i new hn
      split at h
      .rename_i s
       split at h
       .rename_i v w
        rw[cZ,lz] at h;cases h;exact bR.store m d hx (dY hB) hi hn (bE s) w
       .cases h
      .cases h
     .cases h
    .cases h
   .cases h
  .cases h
 .rename_i t y f d
  split at h
  .rename_i k j q
   split at h
   .rename_i l off hx;cases h;exact bR.rW m d hx q
   .rename_i cs hx;cases h;exact bR.tO m d hx q
   .cases h
  .cases h
 .rename_i t y f d
  split at h
  .rename_i k j q
   split at h
   .rename_i cs hx
    split at h
    .rename_i e p;cases h;exact bR.field m d hx q p
    .cases h
   .cases h
  .cases h
 .rename_i y d
  split at h
  .rename_i l off hx;cases h;exact bR.tP d hx
  .rename_i cs hx;cases h;exact bR.vU d hx
  .cases h
 .rename_i t parts d
  split at h
  .rename_i cs g;cases h;exact bR.build m d g
  .cases h
 .rename_i t n parts d
  split at h
  .rename_i k es g;cases h;exact bR.buildSlice m d g
  .cases h
 .cases h
def iP(N:Nat):Option Nat->Bool
 |some d=>bw (d+1) N
 |none=>ab
theorem iY{N:Nat}{d:Option Nat}(h:iP N d=ab):∀ t,d=aa t->t<N:=by
 intro t a;subst a;exact dn h
theorem dJ{all:List av}{o:av}(h:o.guard=af){a:Act}:bk o (yielded all.toArray a.tmps)=ab:=by simp[bk,h]
section
variable {P:an}{T:List (Nat×TI)}{o:av}{g:aq->D}{σ:List aW}
def uB(g:aq->D):Option aq->Option (Option Int)
 |none=>aa af
 |some x=>match g x with
  |.e (.one (.c (.int _ j)))=>aa (aa j)
  |_=>af
theorem jh{s:St}{ρ:aq->ak}(a:∀ y,dh σ s (ρ y) (g y)){x:Option aq}{b:Option Int}(h:uB g x=aa b):(x.map ρ=af/\b=af)∨∃ k j,x.map ρ=aa (.int k j)/\b=aa j:=by
 cases x with
 |none=>cases h;exact .inl ⟨rfl,rfl⟩
 |some y =>
  right
  simp only[uB] at h;split at h
  .rename_i k j c
   cases h;have:=a y;rw[c] at this;have:=ga this;generalize d:ρ y=v at this;cases this;exact⟨k,j,by simp[d],rfl⟩
  .cases h
def cE(d:Nat):Option Int->Nat
 |none=>d
 |some j=>j.toNat
def iU(n:Nat):Option Int->Option Int->List Prop
 |none,af=>[]
 |some l,af=>[0<=l,l<=n]
 |none,aa h=>[0<=h,h<=n]
 |some l,aa h=>[0<=l,l<=h,h<=n]
theorem n6{isS:Bool}{n cap:Nat}(p:n<=cap){lo hi:Option ak}{l h:Option Int}(m:(lo=af/\l=af)∨∃ k j,lo=aa (.int k j)/\l=aa j)(i:(hi=af/\h=af)∨∃ k j,hi=aa (.int k j)/\h=aa j)
  (c:ai (iU n l h)) (w:az):(Instr.sliceBounds isS n cap lo hi af).run P w=.ok (cE 0 l,cE n h,cap) w/\cE 0 l<=cE n h/\cE n h<=n:=by
 rcases m with⟨rfl,rfl⟩|⟨f,l,rfl,rfl⟩ <;> rcases i with⟨rfl,rfl⟩|⟨d,h,rfl,rfl⟩
 .exact⟨by simp[Instr.sliceBounds,cE],by simp[cE],by simp[cE]⟩
 .obtain⟨a,b⟩:0<=h/\h<=(n:Int):=c;refine⟨?_,by simp[cE],by simp only[cE];omega⟩
  simp[Instr.sliceBounds,cE,run_sliceBound (P:=P) w d h cap _ a (by omega)]
 .obtain⟨a,b⟩:0<=l/\l<=(n:Int):=c;refine⟨?_,by simp only[cE];omega,by simp[cE]⟩
  simp[Instr.sliceBounds,cE,run_sliceBound (P:=P) w f l n _ a b]
 .obtain⟨a,b,q⟩:0<=l/\l<=h/\h<=(n:Int):=c;have e:((h.toNat:Nat):Int)=h:=uS (by omega)
  refine⟨?_,by simp only[cE];omega,by simp only[cE];omega⟩
  simp[Instr.sliceBounds,cE,run_sliceBound (P:=P) w d h cap _ (by omega) (by omega),run_sliceBound (P:=P) w f l h.toNat _ a (by omega)]
theorem eO(w:az)(k:IntKind) (i:Int)(y:Nat)(code:BoundsCode)(b:0<=i)(a:i<=(y:Int))(es:Array Event):(Instr.sliceBound (.int k i) y code).events P w es=es:=by
 simp[Instr.sliceBound,asIntOf,b,a]
theorem pS{isS:Bool}{n cap:Nat}{lo hi:Option ak}{l h:Option Int}(q:n<=cap)(p:(lo=af/\l=af)∨∃ k j,lo=aa (.int k j)/\l=aa j)(m:(hi=af/\h=af)∨∃ k j,hi=aa (.int k j)/\h=aa j)
  (f:ai (iU n l h)) (w:az) (es:Array Event):(Instr.sliceBounds isS n cap lo hi af).events P w es=es:=by
 have s:∀ (isS:Bool) (v:Option ak) (d:Nat) (w:az) (es:Array Event),v=af->(Instr.sliceBounds isS n cap af af af).events P w es=es:=λisS v d w es _=>by simp[Instr.sliceBounds]
 rcases p with⟨rfl,rfl⟩|⟨i,l,rfl,rfl⟩ <;> rcases m with⟨rfl,rfl⟩|⟨c,h,rfl,rfl⟩
 .simp[Instr.sliceBounds]
 .obtain⟨a,b⟩:0<=h/\h<=(n:Int):=f;simp[Instr.sliceBounds,eO (P:=P) w c h cap _ a (by omega)]
 .obtain⟨a,b⟩:0<=l/\l<=(n:Int):=f;simp[Instr.sliceBounds,eO (P:=P) w i l n _ a b]
 .obtain⟨a,b,r⟩:0<=l/\l<=h/\h<=(n:Int):=f;have e:((h.toNat:Nat):Int)=h:=uS (by omega)
  simp[Instr.sliceBounds,run_sliceBound (P:=P) w c h cap _ (by omega) (by omega),eO (P:=P) w c h cap _ (by omega) (by omega),eO (P:=P) w i l h.toNat _ a (by omega)]
def rT(s:List UInt8):Option Int->Option Int->List UInt8
 |none,af=>s
 |some l,af=>s.drop l.toNat
 |none,aa h=>s.take h.toNat
 |some l,aa h=>(s.take h.toNat).drop l.toNat
theorem bR.IS(y:dk P T){t:ar}{x:aq}{lo hi:Option aq}(h:o.op=.slice t x lo hi af){i:TI}(m:bL T t=aa i)(z:i.desc=.string){s:List UInt8}{l u:Option Int}
  (A:g x=.e (.one (.c (.str s)))) (hl:uB g lo=aa l) (r:uB g hi=aa u) (v:ai (iU s.length l u)):bR P o g σ (.e (.one (.c (.str (rT s l u))))) σ:=by
 refine .quiet λst ρ hh hr=>?_
 have h1:=hr x;rw[A] at h1
 replace h1:=ga h1
 generalize f:ρ x=vx at h1;cases h1 with
 |@str sb _ q p =>
 have b:sb.size=s.length:=by rw[<-q];exact gZ.symm
 obtain⟨hb,j,d⟩:=n6 (P:=P) (isS:=ae) (n:=sb.size) (cap:=sb.size) (ba _) (jh hr hl) (jh hr r) (by rw[b];exact v) st.w
 have a:=(y t i m).run_underlying (w:=st.w);rw[z] at a;have k:=pS (P:=P) (isS:=ae) (n:=sb.size) (cap:=sb.size) (ba _) (jh hr hl) (jh hr r) (by rw[b];exact v) st.w
 refine⟨.string (sb.extract (cE 0 l) (cE sb.size u)),?_,Rd.str ?_ ?_,by simp[aw,h,f,Instr.sliceAt,a,Instr.slice,k]⟩
 .simp[aw,h,f,Instr.sliceAt,a,Instr.slice,hb]
 .rw[Lib.extract_data,q,b];rw[b] at j d;cases l <;> cases u <;> simp only[rT,cE] at j d ⊢
  .simp
  .simp
  .rw[pz (by simp)]
  .rw[List.drop_take]
 .cases l <;> cases u <;> simp only[rT,gF,bn] <;> omega
def jb(l:Nat)(f:Nat->List C):Nat->List C:=λi=>f (l+i)
def PV(tt:Bool):Option Int->Bool
 |none=>tt
 |some _=>ae
theorem bR.MM(y:dk P T){t:ar}{x:aq}{lo hi:Option aq}(h:o.op=.slice t x lo hi af){i k:TI}{E:ar}(q:bL T t=aa i)(N:i.desc=.slice E)(H:bL T E=aa k){tt:Bool}{n:Nat}{es:Nat->List C}{l u:Option Int}
  (K:∀ s v,dh σ s v (g x)->Rd s.M v (.sl tt k.size n es)) (hl:uB g lo=aa l) (z:uB g hi=aa u) (B:ai (iU n l u)) :
  bR P o g σ (.e (.one (.c (.sl (PV tt u) k.size (cE n u-cE 0 l) (jb (cE 0 l) es))))) σ:=by
 refine .quiet λst ρ hh hr=>?_
 have h1:=K st _ (hr x);obtain⟨a,cap,vs,r,m,F,I,Q,R⟩:=h1.flat;rw[r] at h1;obtain⟨hb,J,L⟩:=n6 (P:=P) (isS:=ab) m (jh hr hl) (jh hr z) B st.w;have d:=(y t i q).run_underlying (w:=st.w);rw[N] at d;refine⟨.slice (if cap=cE 0 l then a else a.map (·.add (cE 0 l*k.size))) (cE n u-cE 0 l) (cap-cE 0 l),?_,?_,by simp[aw,h,r,Instr.sliceAt,d,Instr.slice,hb,pS (P:=P) (isS:=ab) m (jh hr hl) (jh hr z) B st.w]⟩
 .simp[aw,h,r,Instr.sliceAt,d,Instr.slice,hb,(y E k H).run_sizeOf]
 .cases h1 with
  |sl b off f _ _ _ O G hm' Qc =>
   refine Rd.sl b (off+cE 0 l*k.size) (λi j=>f (cE 0 l+i) j) (by omega) (by omega) ?_ (λi hi=>O _ (by omega)) (λA=>?_) (λi hi j c hj=>?_) (λi hi j c hj=>Qc _ (by omega) j c hj)
   .intro p;cases u with
    |none=>simp only[PV] at p;have:=I p;simp only[cE];omega
    |some u=>cases p
   .rw[aO (by omega),G (by omega)]
    simp[di]
   .have:=hm' (cE 0 l+i) (by omega) j c hj
    rw[show off+cE 0 l*k.size+i*k.size+j=off+(cE 0 l+i)*k.size+j by rw[ey];omega]
    exact this
theorem bR.MK(m:dk P T){b dst:ar}{x:aq}(h:o.op=.convert b dst x){i i2:TI}{k k':IntKind}{j:Int}(hi:bL T b=aa i)(l:bL T dst=aa i2)(p:i2.desc=.int k')(q:g x=.e (.one (.c (.int k j))))(n:bD k' j) :
  bR P o g σ (.e (.one (.c (.int k' j)))) σ:=by
 refine .quiet λst ρ hh hr=>?_
 have h1:=hr x;rw[q] at h1
 replace h1:=ga h1
 generalize d:ρ x=vx at h1;cases h1;have f:=(m b i hi).run_underlying (w:=st.w);have a:=(m dst i2 l).run_underlying (w:=st.w);rw[p] at a;exact⟨.int k' j,by simp[aw,h,d,convert,f,a,Conv.intToInt,mx n],Rd.int n,by simp[aw,h,d,convert,f,a,Conv.intToInt]⟩
theorem bR.ML(l:dk P T){b dst:ar}{x:aq}(h:o.op=.convert b dst x){i i2:TI}{s:List UInt8}(hi:bL T b=aa i)(k:bL T dst=aa i2)(m:i2.desc=.string)(n:g x=.e (.one (.c (.str s)))) :
  bR P o g σ (.e (.one (.c (.str s)))) σ:=by
 refine .quiet λst ρ hh hr=>?_
 have h1:=hr x;rw[n] at h1;have f:=ga h1;generalize d:ρ x=vx at f;cases f;have j:=(l b i hi).run_underlying (w:=st.w);have a:=(l dst i2 k).run_underlying (w:=st.w);rw[m] at a;exact⟨_,by simp[aw,h,d,convert,j,a];rfl,by rw[<-d];exact h1,by simp[aw,h,d,convert,j,a]⟩
def vR(f:Nat->List C):Nat->Nat->Option (List UInt8)
 |_,0=>aa []
 |i,n+1=>match f i with
  |[.int .u8 v]=>match vR f (i+1) n with
   |some r=>aa (UInt8.ofNat v.toNat::r)
   |none=>af
  |_=>af
theorem yk{M:Mem}{f:Nat->List C}:∀ {n i:Nat}{r:List UInt8}{vs:List ak},vR f i n=aa r->vs.length=n->(∀ j,j<n->∀ c,(f (i+j))[0]?=aa c->∃ v,vs[j]?=aa v/\Rd M v c) ->
  ∃ xs:List Int,vs=xs.map (Value.int .u8)/\r=xs.map (λx=>UInt8.ofNat x.toNat)
 |0,i,r,vs,h,a,_=>by cases h;exact⟨[],by simpa using a,rfl⟩
 |n+1,i,r,[],h,a,_=>by simp at a
 |n+1,i,r,v::vs,h,a,b=>by
  simp only[vR] at h;split at h
  .rename_i x p
   split at h
   .rename_i q m
    cases h;obtain⟨u,d,e⟩:=b 0 (by omega) (.int .u8 x) (by simp[p])
    simp at d;subst d;cases e;obtain⟨xs,l,k⟩:=yk (vs:=vs) m (by simpa using a) (λj t c s=>by
     have:=b (j+1) (by omega) c (by rw[show i+(j+1)=i+1+j by omega];exact s)
     simpa using this)
    exact⟨x::xs,by simp[l],by simp[k]⟩
   .cases h
  .cases h
theorem oC{P:an}(w:az){F:ak->ByteArray->Sem (ForInStep ByteArray)}(a:∀ x s,F (.int .u8 x) s=pure (.yield (s.push (UInt8.ofNat x.toNat)))):∀ (xs:List Int)(s:ByteArray),
  (forIn (m:=Sem) (xs.map (Value.int .u8)) s F).run P w=.ok ⟨s.data++(xs.map λx=>UInt8.ofNat x.toNat).toArray⟩ w
 |[],s=>by simp
 |x::xs,s=>by
  simp only[jJ,List.forIn_cons,a,bZ,c7,cg];rw[oC w a xs]
  congr 2
  apply il
  simp[ByteArray.push]
end
end Go.AM
namespace Go.AM
open Go.Conc (G)
def OA{P:an}(X:Cx P)(N:Nat)(all:List av)(o:av)(φ:Fr)(σ:List aW)(x:D)(σ':List aW):Prop :=
 ∀ s a,cw N σ s φ a->aJ σ s->∀ (b:aQ) (k:List Item) (cs:List aQ) (S:au->St->Prop) (i:Nat) (rest:List Nat),b.kind≠.early->all.toArray[i]?=aa o ->
  (∀ v s',dh σ' s' v x->aJ σ' s'->cC σ s σ' s'->fG X S (G (b.aT (a.put o.dst v) (.inRegion all.toArray rest::k)) cs) s')->fG X S (G (b.aT a (.inRegion all.toArray (i::rest)::k)) cs) s
section
variable {P:an}{X:Cx P}{N:Nat}{all rest:List av}{φ m:Fr}{σ σ':List aW}{o:av}{x:D}
theorem OA.lJ(q:∀ σ s a,cw N σ s φ a->bk o (yielded all.toArray a.tmps)=ab)(h:bR P o (cj φ) σ x σ'):OA X N all o φ σ x σ':=by
 intro s a f hh b k cs S i rest hb hi hK;refine zO hb hi (q _ _ _ f) λg c=>?_
 have d:=hh.rely c;obtain⟨r,s',h1,h2,e,j,p⟩:=h g a.eval d (eP (f.rely c hh));have l:=c.stepW.trans (j.oA d);have n:qG g s' ((aw a.eval o).events P g.w #[]):=⟨⟨σ,σ',d,e,j⟩,p⟩;cases r with
 |value v=>exact⟨_,s',v,h1,.inl rfl,n,hK v s' h2 e l⟩
 |skip=>simp only[Qs] at h2;subst h2;exact⟨_,s',aj,h1,.inr ⟨rfl,rfl⟩,n,hK aj s' ay e l⟩
 |_=>exact h2.elim
theorem OA.pass(e:∀ σ s a,cw N σ s φ a->bk o (yielded all.toArray a.tmps)=ae):OA X N all o φ σ (.fW []) σ:=by
 intro s a f hh b k cs S i rest hb hi hK;exact .ctl hh rfl (λ_=>Mm hi (e _ _ _ f)) λd c=>hK aj d ⟨[],rfl,ay⟩ (hh.rely c) c.stepW
theorem jE.wi{Q:Fr->List aW->Prop}(h:OA X N all o φ σ x σ')(g:∀ t,o.dst=aa t->t<N)(k:jE X N all rest Q (m9 o.dst x φ) σ'):jE X N all (o::rest) Q φ σ:=by
 intro s a f hh b kk cs S idx hb ly hQ;cases idx with
 |nil=>exact ly.elim
 |cons i idx =>
 refine h s a f hh b kk cs S i idx hb ly.1 λv s' hv lG st=>k s' _ ?_ lG b kk cs S idx hb ly.2 λc σ2 s2 a2 q d h2 oT=>hQ c σ2 s2 a2 q d h2 (st.trans oT)
 cases e:o.dst with
 |none=>exact f.mono st hh.len
 |some t=>exact(f.mono st hh.len).put (g t e) hv
end
abbrev dC:=List D->List aW->Option (D×List aW×List Prop)
def yf:List (Nat×dC)->Nat->Option dC
 |[],_=>af
 |(i,g)::r,f=>cond (aA i f) (aa g) (yf r f)
def eb{P:an}(X:Cx P)(f:aX)(g:dC):Prop:=∀ args σ res σ' obs,g args σ=aa (res,σ',obs)->ai obs->Ev X f args σ res σ'
def b5{P:an}(X:Cx P)(CT:List (Nat×dC)):Prop:=∀ f g,yf CT f=aa g->eb X f g
theorem b5.nil{P:an}{X:Cx P}:b5 X []:=λ_ _ h=>by cases h
theorem b5.cons{P:an}{X:Cx P}{f:aX}{g:dC}{CT:List (Nat×dC)}(h:eb X f g)(r:b5 X CT):b5 X ((f,g)::CT):=by
 intro a g2 h2;simp only[yf] at h2;cases hb:aA f a with
 |true=>rw[hb] at h2;cases h2;rw[<-bE hb];exact h
 |false=>rw[hb] at h2;exact r a g2 h2
def ZG:A->List Nat->List Nat
 |.ptr l _,ks=>cond (hX l ks) ks (ks++[l])
 |.vec l _ _ _,ks=>cond (hX l ks) ks (ks++[l])
 |.ref l,ks=>cond (hX l ks) ks (ks++[l])
 |.bp l _,ks=>cond (hX l ks) ks (ks++[l])
 |_,ks=>ks
def ZH:List A->List Nat->List Nat
 |[],ks=>ks
 |a::r,ks=>ZH r (ZG a ks)
def bxD:D->List Nat->List Nat
 |.e (.one a),ks=>ZG a ks
 |.e (.agg cs),ks=>ZH cs ks
 |_,ks=>ks
def TR:List D->List Nat->List Nat
 |[],ks=>ks
 |a::r,ks=>TR r (bxD a ks)
def Bm(l:Nat):List Nat->Nat->Option Nat
 |[],_=>af
 |k::r,i=>match aA k l with|true=>aa i|false=>Bm l r (i+1)
theorem r8{l:Nat}:∀ {ks:List Nat}{i j:Nat},Bm l ks i=aa j->i<=j/\ks[j-i]?=aa l
 |[],_,_,h=>by cases h
 |k::r,i,j,h=>by
  simp only[Bm] at h;cases a:aA k l with
  |true=>rw[a] at h;cases h;exact⟨ba _,by simp[bE a]⟩
  |false =>
   rw[a] at h;obtain⟨c,b⟩:=r8 h;refine⟨by omega,?_⟩
   rw[show j-i=(j-(i+1))+1 by omega]
   simpa using b
def SC(ks:List Nat):A->Option A
 |.ptr l o=>match Bm l ks 0 with|some i=>aa (.ptr i o)|none=>af
 |.ref l=>match Bm l ks 0 with|some i=>aa (.ref i)|none=>af
 |.bp l w=>match Bm l ks 0 with|some i=>aa (.bp i w)|none=>af
 |.vec _ _ _ _=>af
 |.c x=>aa (.c x)
 |.any=>aa .any
def VL(ks:List Nat):List A->Option (List A)
 |[]=>aa []
 |a::r=>match SC ks a with
  |some b=>match VL ks r with
   |some q=>aa (b::q)
   |none=>af
  |none=>af
def Xw(ks:List Nat):D->Option D
 |.e (.one a)=>match SC ks a with|some b=>aa (.e (.one b))|none=>af
 |.e (.agg cs)=>match VL ks cs with|some b=>aa (.e (.agg b))|none=>af
 |.fW _=>af
 |.any=>aa .any
def Gs(ks:List Nat):List D->Option (List D)
 |[]=>aa []
 |a::r=>match Xw ks a with
  |some b=>match Gs ks r with
   |some q=>aa (b::q)
   |none=>af
  |none=>af
theorem Jn{ks:List Nat}{a b:A}(h:SC ks a=aa b):oI ks b=a/\F9 ks.length b=ab:=by
 cases a with
 |ptr l o =>
  simp only[SC] at h;split at h
  .rename_i i hi
   cases h;obtain⟨_,d⟩:=r8 hi;simp only[lu] at d;have e:i<ks.length:=(bt.1 d).1;exact⟨by simp[oI,fi,d],ra e⟩
  .cases h
 |ref l =>
  simp only[SC] at h;split at h
  .rename_i i hi
   cases h;obtain⟨_,d⟩:=r8 hi;simp only[lu] at d;have e:i<ks.length:=(bt.1 d).1;exact⟨by simp[oI,fi,d],ra e⟩
  .cases h
 |bp l w =>
  simp only[SC] at h;split at h
  .rename_i i hi
   cases h;obtain⟨_,d⟩:=r8 hi;simp only[lu] at d;have e:i<ks.length:=(bt.1 d).1;exact⟨by simp[oI,fi,d],ra e⟩
  .cases h
 |vec l k n es=>cases h
 |c x=>cases h;exact⟨rfl,rfl⟩
 |any=>cases h;exact⟨rfl,rfl⟩
theorem Jo{ks:List Nat}:∀ {a b:List A},VL ks a=aa b->Ba ks b=a/\Ga ks.length b=ab
 |[],b,h=>by cases h;exact⟨rfl,rfl⟩
 |a::r,b,h=>by
  simp only[VL] at h;split at h
  .rename_i x g
   split at h
   .rename_i q f
    cases h;obtain⟨i,c⟩:=Jn g;obtain⟨e,d⟩:=Jo f;exact⟨by simp[Ba,i,e],by simp[Ga,c,d]⟩
   .cases h
  .cases h
theorem Qt{ks:List Nat}{a b:D}(h:Xw ks a=aa b):jQ ks b=a/\uy ks.length b=ab:=by
 unfold Xw at h;split at h
 .rename_i a
  split at h
  .rename_i x d;cases h;obtain⟨e,c⟩:=Jn d;exact⟨by simp[jQ,zx,e],by simp[uy,Iu,c]⟩
  .cases h
 .rename_i cs
  split at h
  .rename_i x d;cases h;obtain⟨e,c⟩:=Jo d;exact⟨by simp[jQ,zx,e],by simp[uy,Iu,c]⟩
  .cases h
 .cases h
 .cases h;exact⟨rfl,rfl⟩
theorem Fo{ks:List Nat}:∀ {a b:List D},Gs ks a=aa b->jP ks b=a/\qm ks.length b=ab
 |[],b,h=>by cases h;exact⟨rfl,rfl⟩
 |a::r,b,h=>by
  simp only[Gs] at h;split at h
  .rename_i x g
   split at h
   .rename_i q f
    cases h;obtain⟨i,c⟩:=Qt g;obtain⟨e,d⟩:=Fo f;exact⟨by simp[jP,i,e],by simp[qm,c,d]⟩
   .cases h
  .cases h
def IN(CT:List (Nat×dC))(φ:Fr)(σ:List aW)(a:aq)(xs:List aq):Option (D×List aW×List Prop) :=
 match gu (cj φ a) with
 |none=>af
 |some (f,cap)=>match yf CT f with
  |none=>af
  |some g =>
   let args:=qv (xs.map (cj φ)++iz cap)
   let ks:=TR args []
   match Gs ks args with
   |none=>af
   |some Jp=>match kW ks σ with
    |none=>af
    |some σs=>match g Jp σs with
     |none=>af
     |some (res,σ1,obs)=>match du σs,du σ1,eh ks,bw ks.length σ1.length with
      |true,ab,ab,ab=>aa (jQ (ks++oc σ.length (σ1.length-ks.length)) res,en ks σ1 σ,obs)
      |_,_,_,_=>af
theorem OA.OS{P:an}{X:Cx P}{N:Nat}{all:List av}{φ:Fr}{σ:List aW}{o:av}{CT:List (Nat×dC)}(hC:b5 X CT){B:aq}{xs:Array aq}{L:Array ar}
  (R:∀ σ s a,cw N σ s φ a->bk o (yielded all.toArray a.tmps)=ab) (O:o.op=.call { callee:=.value B,args:=xs,argTypes:=L }) {f:aX} {cap:List C} (A:gu (cj φ B)=aa (f,cap)) {g:dC} (K:yf CT f=aa g)
  {ks:List Nat} {d:List D} {n σ1:List aW} {res:D} {obs:List Prop} (F:Gs ks (qv (xs.toList.map (cj φ)++iz cap))=aa d) (H:kW ks σ=aa n) (u:g d n=aa (res,σ1,obs))
  (Q:du n=ab) (J:du σ1=ab) (hn:eh ks=ab) (E:ks.length<=σ1.length) (v:ai obs):OA X N all o φ σ (jQ (ks++oc σ.length (σ1.length-ks.length)) res) (en ks σ1 σ):=by
 obtain⟨p,G⟩:=Fo F;intro s a l hh b kk cs S i rest hb hi hK;have y:=hC f g K _ _ _ _ _ u v;have t:=eP l B;unfold gu at A;split at A
 case h_2=>cases A
 case h_1 f' Mk he =>
  cases A;rw[he] at t;have k:=ga t;generalize M:a.eval B=fv at k;cases k with
  |fn fs m8 hl zk f1 f2 h1 h2 r1 r2 =>
   have I:fs=[]:=gh hl;subst I;have q:cG σ s m8 (iz cap):=na (λj c hj=>⟨f2 j,h2 j (by rw[zk];exact(bt.1 hj).1),r2 j c hj⟩) zk
   have r:cG σ s (xs.toList.map a.eval++m8) (jP ks d):=by
    rw[p];exact rM ((pU (eP l) xs.toList).append q)
   obtain⟨fn,z,h,e⟩:=y.1;exact Iv hb hi (R _ _ _ l) hh (λw=>(jz O z h e M w).1) (λw=>(jz O z h e M w).2) y r G H Q J hn E hK
theorem OA.call{P:an}{X:Cx P}{N:Nat}{all:List av}{φ:Fr}{σ σ':List aW}{o:av}{CT:List (Nat×dC)}(hC:b5 X CT){l:aq}{xs:Array aq}{d:Array ar}{x:D}{obs:List Prop}
  (q:∀ σ s a,cw N σ s φ a->bk o (yielded all.toArray a.tmps)=ab) (r:o.op=.call { callee:=.value l,args:=xs,argTypes:=d })
  (b:IN CT φ σ l xs.toList=aa (x,σ',obs)) (c:ai obs):OA X N all o φ σ x σ':=by
 unfold IN at b;split at b
 .cases b
 rename_i f cap hf
 split at b
 .cases b
 rename_i g j
 simp only at b;split at b
 .cases b
 rename_i h k
 split at b
 .cases b
 rename_i p i
 split at b
 .cases b
 rename_i res σ1 Xx Qu
 split at b
 case h_2=>cases b
 rename_i n e hn Qh
 cases b;exact OA.OS hC q r hf j k i Qu n e hn (dn Qh) c
theorem BA{d:D}(h:uy 0 d=ab):jQ [] d=d:=by
 have g:∀ {a:A},F9 0 a=ab->oI [] a=a:=by
  intro a b;cases a <;> simp only[F9] at b <;> first|rfl|(simp at b)
 have j:∀ {l:List A},Ga 0 l=ab->Ba [] l=l:=by
  intro l
  induction l with
  |nil=>intro _;rfl
  |cons a r f =>
   intro h;simp only[Ga] at h;cases b:F9 0 a with
   |false=>simp[b] at h
   |true=>simp only[b] at h;simp[Ba,g b,f h]
 have i:∀ {a:E1},Iu 0 a=ab->zx [] a=a:=by
  intro a b;cases a with
  |one a=>simp[zx,g b]
  |agg cs=>simp[zx,j b]
 have c:∀ {l:List E1},xr 0 l=ab->x4 [] l=l:=by
  intro l
  induction l with
  |nil=>intro _;rfl
  |cons a r f =>
   intro h;simp only[xr] at h;cases b:Iu 0 a with
   |false=>simp[b] at h
   |true=>simp only[b] at h;simp[x4,i b,f h]
 cases d with
 |e x=>simp[jQ,i h]
 |fW xs=>simp[jQ,c h]
 |any=>rfl
def Bj(CT:List (Nat×dC))(φ:Fr)(a:aq)(xs:List aq):Option (D×List Prop) :=
 match gu (cj φ a) with
 |none=>af
 |some (f,cap)=>match yf CT f with
  |none=>af
  |some g=>match Gs [] (qv (xs.map (cj φ)++iz cap)) with
   |none=>af
   |some Jp=>match g Jp [] with
    |some (res,[],obs)=>match uy 0 res with
     |true=>aa (res,obs)
     |false=>af
    |_=>af
theorem OA.Bj{P:an}{X:Cx P}{N:Nat}{all:List av}{φ:Fr}{σ:List aW}{o:av}{CT:List (Nat×dC)}(hC:b5 X CT){k:aq}{xs:Array aq}{d:Array ar}{x:D}{obs:List Prop}
  (l:∀ σ s a,cw N σ s φ a->bk o (yielded all.toArray a.tmps)=ab) (n:o.op=.call { callee:=.value k,args:=xs,argTypes:=d })
  (b:AM.Bj CT φ k xs.toList=aa (x,obs)) (c:ai obs):OA X N all o φ σ x σ:=by
 unfold AM.Bj at b;split at b
 .cases b
 rename_i f cap hf
 split at b
 .cases b
 rename_i g i
 split at b
 .cases b
 rename_i h j
 split at b
 case h_2=>cases b
 rename_i res Xx Qu
 split at b
 case h_2=>cases b
 rename_i e
 cases b;have:=OA.OS (σ:=σ) hC l n hf i j rfl Qu rfl rfl rfl (ba _) c;simpa[oc,BA e,en] using this
structure HT (N:Nat)(σ:List aW)(s:St)(V:Nat->D)(a:Act):Prop where
 size:a.tmps.size=N
 defers:∃ ls,oJ σ s a.defers ls
 slot:∀ t,dh σ s (a.tmps.getD t aj) (V t)
theorem HT.IB{N:Nat}{σ:List aW}{s:St}{V:Nat->D}{φ:Fr}{a:Act}(f:HT N σ s V a)(h:∀ t σ s v,dh σ s v (V t)->dh σ s v (look φ t)):cw N σ s φ a :=
 ⟨f.size,f.defers,λt=>h t _ _ _ (f.slot t)⟩
def de(e:Edge):Bool:=Region.binds .any e
structure vM {P:an}(X:Cx P)(N:Nat)(ops:Array av)(φ:Fr)(S:Nat->List aW)(x:Nat->D)(p:Nat->Fr)(free c:Nat->Bool)(q:Nat->Nat->Prop)(idx:Nat->Option Nat)(m:Fr):Prop where
 eQ:P.follows Departure.mixedOrders=ab
 back:∀ i o,ops[i]?=aa o->∀ e∈o.after,de e=ab->e.on<i
 IC:∀ i o d,ops[i]?=aa o->o.dst=aa d->idx d=aa i/\d<N
 xx:∀ d i,idx d=aa i->∃ o,ops[i]?=aa o/\o.dst=aa d
 quiet:∀ i,c i=ae->S (i+1)=S i
 one:∀ i o,ops[i]?=aa o->free i=ae->OA X N ops.toList o (p i) (S i) (x i) (S (i+1))
 all:∀ i o,ops[i]?=aa o->free i=ab->c i=ae/\∀ k,OA X N ops.toList o (p i) (S k) (x i) (S k)
 cl:∀ L:Nat->Prop,(∀ i o,ops[i]?=aa o->L i->∀ e∈o.after,de e=ab->L e.on)->∀ i j,q i j->(L i->L j)/\∃ o,ops[i]?=aa o/\((∀ e∈o.after,de e=ab->L e.on)->L j)
 comp:∀ i f,i<ops.size->f<ops.size->c f=ab->i≠f->free i=ae->(f<i/\q i f)∨(i<f/\q f i)
 Sw:∀ i o,ops[i]?=aa o->∀ t σ s v,dh σ s v (match idx t with|some j=>(if ∃ e∈o.after,de e=ab/\e.on=j then x j else if ∃ oj,ops[j]?=aa oj/\∃ e∈oj.after,de e=ab/\e.on=i then look φ t else .any)|none=>look φ t)->dh σ s v (look (p i) t)
 fin:∀ t σ s v,dh σ s v (match idx t with|some j=>x j|none=>look φ t)->dh σ s v (look m t)
open Classical in
noncomputable def gn(φ:Fr)(x:Nat->D)(idx:Nat->Option Nat)(L:Array Bool)(t:Nat):D :=
 match idx t with
 |some j=>if L.getD j ae=ab then x j else look φ t
 |none=>look φ t
theorem mem_ready{ops:Array av}{L:Array Bool}{i:Nat}:i∈aZ .any ops L↔∃ o,ops[i]?=aa o/\L.getD i ab=ae/\∀ e∈o.after,de e=ab->L.getD e.on ae=ab:=by
 unfold aZ;simp only[lq,pH,bG,iS]
 constructor
 .rintro⟨b,f,a⟩;rw[dm b] at a;simp only[jl,dG,Array.all_eq_true',lN,iS] at a;refine⟨ops[i],dm b,f,λe j d=>?_⟩
  rcases a e j with h|h
  .unfold de at d;rw[d] at h;cases h
  .exact h
 .rintro⟨o,b,f,a⟩;have g:i<ops.size:=(gE.1 b).1;refine⟨g,f,?_⟩;rw[b];simp only[jl,dG,Array.all_eq_true',lN,iS];intro e j;cases d:Region.binds .any e with
  |false=>exact .inl rfl
  |true=>exact .inr (a e j d)
section
variable {P:an}{X:Cx P}{N:Nat}{ops:Array av}{φ m:Fr}{S:Nat->List aW}{x:Nat->D}{p:Nat->Fr}{free c:Nat->Bool}{q:Nat->Nat->Prop}{idx:Nat->Option Nat}
theorem vM.chain(h:vM X N ops φ S x p free c q idx m){i:Nat}:∀ {k:Nat},i<=k->(∀ g,i<=g->g<k->c g=ae)->S k=S i
 |0,b,_=>by rw[show i=0 by omega]
 |k+1,b,a=>by
  rcases cr k i with hl|hl
  .rw[show i=k+1 by omega]
  .rw[h.quiet k (a k hl (by omega)),h.chain (k:=k) hl (λg h1 h2=>a g h1 (by omega))]
theorem vM.last(h:vM X N ops φ S x p free c q idx m){L:Array Bool}(b:∀ i,i<ops.size->L.getD i ae=ab){k:Nat}{s0 s:St}{a:Act}(w:k<=ops.size)
  (n:∀ f,f<ops.size->c f=ab->(L.getD f ae=ab↔f<k)) (d:HT N (S k) s (gn φ x idx L) a) (hh:aJ (S k) s) (st:cC (S 0) s0 (S k) s) :
  cw N (S ops.size) s m a/\aJ (S ops.size) s/\cC (S 0) s0 (S ops.size) s:=by
 have l:S ops.size=S k:=h.chain w (λg h1 h2=>by
  cases r:c g with
  |false=>rfl
  |true=>have:=(n g h2 r).1 (b g h2);omega)
 rw[<-l] at d hh st;refine⟨d.IB λt σ s v e=>h.fin t σ s v ?_,hh,st⟩
 unfold gn at e;cases hi:idx t with
 |none=>simpa[hi] using e
 |some j =>
  simp only[hi] at e ⊢;obtain⟨o,u,_⟩:=h.xx _ _ hi;rw[aU (b j (gE.1 u).1)] at e;exact e
theorem eF{L:Array Bool}{i j:Nat}(hi:i<L.size):(L.setIfInBounds i ab).getD j ae=ab↔j=i∨L.getD j ae=ab:=by
 simp only[cT]
 by_cases e:i=j
 .subst e;rw[mO hi];simp
 .rw[kX e]
  constructor
  .exact .inr
  .rintro(rfl|h)
   .exact absurd rfl e
   .exact h
theorem count_set:∀ {l:List Bool}{i:Nat},l[i]?=aa ae->((l.set i ab).filter (λb=>!b)).length+1=(l.filter (λb=>!b)).length
 |[],_,h=>by simp at h
 |b::r,0,h=>by simp at h;subst h;simp
 |b::r,i+1,h=>by
  simp at h;have:=count_set (l:=r) h;cases b <;> simp[List.set_cons_succ] <;> omega
theorem vN(t:Nat)(L:Array Bool):Region.linearise.go .any ops 0 t L []=[]:=by simp[Region.linearise.go]
theorem oX(n t:Nat)(L:Array Bool):Region.linearise.go .any ops (n+1) t L []=match (aZ .any ops L)[t % (aZ .any ops L).length]? with
  |some i=>i::Region.linearise.go .any ops n (t / (aZ .any ops L).length) (L.setIfInBounds i ab) []
  |none=>[]:=by
 simp only[Region.linearise.go]
 change (match (aZ .any ops L)[t % (aZ .any ops L).length]? with
   |some i=>Region.linearise.go .any ops n (t / (aZ .any ops L).length) (L.setIfInBounds i ab) [i]
   |none=>[].reverse)=_
 cases (aZ .any ops L)[t % (aZ .any ops L).length]? with
 |none=>rfl
 |some i=>simp only[];rw[linearise_go_acc,List.reverse_singleton,y9]
theorem vM.arr(h:vM X N ops φ S x p free c q idx m){SS:au->St->Prop}{b:aQ}{kk:List Item}{cs:List aQ}(hb:b.kind≠.early){s0:St}
  (hQ:∀ s a,cw N (S ops.size) s m a->aJ (S ops.size) s->cC (S 0) s0 (S ops.size) s->fG X SS (G (b.aT a kk) cs) s) :
  ∀ (l:Nat) (L:Array Bool),L.size=ops.size->(L.toList.filter (λb=>!b)).length<=l ->
   (∀ i o,ops[i]?=aa o->L.getD i ae=ab->∀ e∈o.after,de e=ab->L.getD e.on ae=ab) ->
   ∀ (k:Nat) (s:St) (a:Act),k<=ops.size->(∀ f,f<ops.size->c f=ab->(L.getD f ae=ab↔f<k))->HT N (S k) s (gn φ x idx L) a->aJ (S k) s->cC (S 0) s0 (S k) s ->
   ∀ t,fG X SS (G (b.aT a (.inRegion ops (Region.linearise.go .any ops l t L [])::kk)) cs) s:=by
 have fin:∀ (s:St) (a:Act),cw N (S ops.size) s m a->aJ (S ops.size) s->cC (S 0) s0 (S ops.size) s->fG X SS (G (b.aT a (.inRegion ops []::kk)) cs) s :=
  λs a a1 a2 a3=>.ctl a2 rfl (λ_=>iX) λs1 C3=>hQ s1 a (a1.rely C3 a2) (a2.rely C3) (a3.trans C3.stepW)
 intro l
 induction l with
 |zero =>
  intro L hs hf Z k s a hk H r hh st;have J:∀ i,i<ops.size->L.getD i ae=ab:=by
   intro i hi;have hm:L[i]'(by omega)∈L.toList:=by simp
   cases hb:L[i]'(by omega) with
   |true=>simp[cT,dm (by omega:i<L.size),hb]
   |false =>
    have:L[i]'(by omega)∈L.toList.filter (λb=>!b):=lq.2 ⟨hm,by simp[hb]⟩
    have:=uN this;omega
  intro t;rw[vN];obtain⟨a1,a2,a3⟩:=h.last J hk H r hh st;exact fin s a a1 a2 a3
 |succ l ih =>
  intro L hs hf Z k s a hk H r hh st;intro t;rw[oX];cases U:(aZ .any ops L)[t % (aZ .any ops L).length]? with
  |none =>
   have hr:aZ .any ops L=[]:=by
    cases hr:aZ .any ops L with
    |nil=>rfl
    |cons y ys =>
     rw[hr] at U;have Q:t % (y::ys).length<(y::ys).length:=ik _ (by simp)
     simp at U;simp at Q;omega
   have J:∀ i,i<ops.size->L.getD i ae=ab:=by
    intro i
    induction i using Nat.strongRecOn with
    |_ i Wr =>
     intro hi;cases hb:L.getD i ae with
     |true=>rfl
     |false =>
      have hm:i∈aZ .any ops L:=mem_ready.2 ⟨ops[i],dm hi,by
       simpa[cT,dm (by omega:i<L.size)] using hb,λe C hbe=>by
       have:=h.back i _ (dm hi) e C hbe;exact Wr _ this (by omega)⟩
      rw[hr] at hm;simp at hm
   obtain⟨a1,a2,a3⟩:=h.last J hk H r hh st;exact fin s a a1 a2 a3
  |some i =>
   have hi:=bz U;obtain⟨o,W,Zl,R⟩:=mem_ready.1 hi;have Q:i<ops.size:=(gE.1 W).1;have E:¬L.getD i ae=ab:=by
    simp only[cT,dm (by omega:i<L.size),dG] at Zl ⊢
    simp[Zl]
   have Th:=h.cl (λj=>L.getD j ae=ab) Z
   have M:∀ g,q g i->¬L.getD g ae=ab:=λg hg hL=>E ((Th g i hg).1 hL)
   have Zm:∀ g,q i g->L.getD g ae=ab:=λg hg=>by
    obtain⟨_,o',F,hq⟩:=Th i g hg;rw[W] at F;cases F;exact hq R
   have PM:(L.setIfInBounds i ab).size=ops.size:=by simp[hs]
   have Y:((L.setIfInBounds i ab).toList.filter (λb=>!b)).length<=l:=by
    have h1:L.toList[i]?=aa ae:=by
     rw[rh,dm (by omega:i<L.size)]
     simpa[cT,dm (by omega:i<L.size)] using E
    have:=count_set h1;rw[uK];omega
   have Ws:∀ j o',ops[j]?=aa o'->(L.setIfInBounds i ab).getD j ae=ab->∀ e∈o'.after,de e=ab->(L.setIfInBounds i ab).getD e.on ae=ab:=by
    intro j o' F hj e C hb;rw[eF (by omega)] at hj ⊢
    rcases hj with rfl|hj
    .rw[W] at F;cases F;exact .inr (R e C hb)
    .exact .inr (Z j o' F hj e C hb)
   have Ti:cw N (S k) s (p i) a:=r.IB λt σ s v T=>h.Sw i o W t σ s v (by
    unfold gn at T;cases w:idx t with
    |none=>simpa[w] using T
    |some j =>
     simp only[w] at T ⊢;split
     .rename_i hex
      obtain⟨e,C,hb,rfl⟩:=hex;rw[aU (R e C hb)] at T;exact T
     .split
      .rename_i hex
       obtain⟨oj,A,e,C,hb,heq⟩:=hex;have Vx:¬L.getD j ae=ab:=λhL=>E (by have:=Z j oj A hL e C hb;rwa [heq] at this)
       rw[aO Vx] at T;exact T
      .trivial)
   have E3:∀ (σ':List aW) (s':St) (v:ak),cC (S k) s σ' s'->dh σ' s' v (x i)->HT N σ' s' (gn φ x idx (L.setIfInBounds i ab)) (a.put o.dst v):=by
    intro σ' s' v z T;cases hd:o.dst with
    |none =>
     refine⟨r.size,r.defers.imp λ_ h1=>h1.mono z.ext,λt=>?_⟩
     have u:=(r.slot t).mono z.ext hh.len;simp only[Act.put];unfold gn at u ⊢;cases w:idx t with
     |none=>simpa[w] using u
     |some j =>
      simp only[w] at u ⊢;obtain⟨oj,A,K⟩:=h.xx _ _ w;have zD:j≠i:=by rintro rfl;rw[W] at A;cases A;rw[hd] at K;cases K
      have:((L.setIfInBounds i ab).getD j ae=ab)↔L.getD j ae=ab:=by rw[eF (by omega)];simp[zD]
      simp only[this];exact u
    |some d =>
     obtain⟨Wt,Wu⟩:=h.IC i o d W hd;refine⟨by simp[Act.put,r.size],r.defers.imp λ_ h1=>h1.mono z.ext,λt=>?_⟩
     simp only[Act.put]
     by_cases e:d=t
     .subst e;have Wv:d<a.tmps.size:=by rw[r.size];exact Wu
      simp only[cT,mO Wv,dG];unfold gn;simp only[Wt];rw[aU ((eF (by omega)).2 (.inl rfl))]
      exact T
     .have u:=(r.slot t).mono z.ext hh.len;simp only[cT] at u ⊢;rw[kX e];unfold gn at u ⊢;cases w:idx t with
      |none=>simpa[w] using u
      |some j =>
       simp only[w] at u ⊢;obtain⟨oj,A,K⟩:=h.xx _ _ w;have zD:j≠i:=by rintro rfl;rw[W] at A;cases A;rw[hd] at K;cases K;exact e rfl
       have:((L.setIfInBounds i ab).getD j ae=ab)↔L.getD j ae=ab:=by rw[eF (by omega)];simp[zD]
       simp only[this];exact u
   have I:∀ (k':Nat),k'<=ops.size->OA X N ops.toList o (p i) (S k) (x i) (S k')->(∀ f,f<ops.size->c f=ab->((L.setIfInBounds i ab).getD f ae=ab↔f<k')) ->
     fG X SS (G (b.aT a (.inRegion ops (i::Region.linearise.go .any ops l (t / (aZ .any ops L).length) (L.setIfInBounds i ab) [])::kk)) cs) s:=by
    intro k' Wn hoa Ww;have:=hoa s a Ti hh b kk cs SS i (Region.linearise.go .any ops l (t / (aZ .any ops L).length) (L.setIfInBounds i ab) []) hb (by simpa using W)
    simp only[nT] at this;exact this λv s' T lG z=>ih _ PM Y Ws k' s' _ Wn Ww (E3 _ _ _ z T) lG (st.trans z) _
   have same:c i=ae->∀ f,f<ops.size->c f=ab->((L.setIfInBounds i ab).getD f ae=ab↔f<k):=by
    intro hq f LW O;rw[eF (by omega),<-H f LW O]
    constructor
    .rintro(rfl|h1)
     .rw[hq] at O;cases O
     .exact h1
    .exact .inr
   cases n:free i with
   |true =>
    obtain⟨hq,Wx⟩:=h.all i o W n;exact I k hk (Wx k) (same hq)
   |false =>
    have B:=h.one i o W n;have Tj:S i=S k:=by
     rcases Nat.le_total k i with hle|hle
     .refine h.chain hle λg h1 h2=>?_
      cases C:c g with
      |false=>rfl
      |true =>
       exfalso;rcases h.comp i g Q (by omega) C (by omega) n with⟨_,hc⟩|⟨hc,_⟩
       .have:=(H g (by omega) C).1 (Zm g hc);omega
       .omega
     .refine(h.chain hle λg h1 h2=>?_).symm
      cases C:c g with
      |false=>rfl
      |true =>
       exfalso;have Zn:=(H g (by omega) C).2 h2
       by_cases OC:g=i
       .subst OC;exact E Zn
       .rcases h.comp i g Q (by omega) C (λe=>OC e.symm) n with⟨hc,_⟩|⟨_,hc⟩
        .omega
        .exact M g hc Zn
    rw[Tj] at B;cases Tk:c i with
    |false =>
     rw[h.quiet i Tk,Tj] at B;exact I k hk B (same Tk)
    |true =>
     refine I (i+1) (by omega) B λf LW O=>?_
     rw[eF (by omega)]
     by_cases V:f=i
     .subst V;simp
     .simp only[V,false_or];rcases h.comp i f Q LW O (λe=>V e.symm) n with⟨h1,hc⟩|⟨h1,hc⟩
      .exact⟨λ_=>by omega,λ_=>Zm f hc⟩
      .exact⟨λhL=>absurd hL (M f hc),λh2=>by omega⟩
end
end Go.AM
namespace Go.AM
def Jx(P:an):List TypeDesc->List Field->Nat->Prop
 |[],[],_=>True
 |d::ds,f::fs,i=>f.name≠ "_"/\f.offset=i/\P.underlying f.type=aa d/\(match d with|.int _|.string|.bool=>True|_=>False)/\Jx P ds fs (i+1)
 |_,_,_=>False
def TT(d:Nat)(xs ys:Array ak)(f:Field)(_:Option Bool×Unit):Sem (ForInStep (Option Bool×Unit)) :=
 if f.name= "_" then pure (ForInStep.yield (af,()))
 else do
  let a<-part f.type xs f.offset
  let b<-part f.type ys f.offset
  let r<-Op.equalIn d f.type a b
  if r=ae then pure (ForInStep.done (aa ae,())) else pure (ForInStep.yield (af,()))
theorem oq{P:an}(w:az)(d:Nat)(xs ys:Array ak):∀ {ds:List TypeDesc}{fs:List Field}{i:Nat}{vs ws:List ak}{b:Bool},Jx P ds fs i->jU ds vs ws=aa b->(∀ j v,vs[j]?=aa v->xs[i+j]?=aa v)->(∀ j v,ws[j]?=aa v->ys[i+j]?=aa v) ->
  (Op.eqFields (d+1) xs ys fs).run P w=.ok b w/\∀ es,(forIn fs (af,()) (TT (d+1) xs ys)).events P w es=es
 |[],[],i,[],[],b,_,h,_,_=>by cases h;simp[Op.eqFields]
 |[],[],i,_::_,_,b,_,h,_,_=>by cases h
 |[],[],i,[],_::_,b,_,h,_,_=>by cases h
 |[],_::_,i,_,_,b,s,_,_,_=>s.elim
 |_::_,[],i,_,_,b,s,_,_,_=>s.elim
 |t::ds,f::fs,i,[],_,b,_,h,_,_=>by cases h
 |t::ds,f::fs,i,_::_,[],b,_,h,_,_=>by cases h
 |t::ds,f::fs,i,v::vs,u::us,b,⟨G,K,n,L,M⟩,h,J,H=>by
  simp only[jU] at h;cases c:qN t v u with
  |none=>simp[c] at h
  |some a =>
   cases A:jU ds vs us with
   |none=>simp[c,A] at h
   |some b' =>
    simp[c,A] at h;subst h;obtain⟨N,E⟩:=oq w d xs ys M A (λj v C=>by have:=J (j+1) v (by simpa using C);rwa [show i+1+j=i+(j+1) by omega]) (λj v C=>by have:=H (j+1) v (by simpa using C);rwa [show i+1+j=i+(j+1) by omega])
    have l:xs[i]?=aa v:=by simpa using J 0 v rfl
    have m:ys[i]?=aa u:=by simpa using H 0 u rfl
    have p:(isAgg f.type).run P w=.ok ae w:=by
     unfold isAgg underlying;cases t <;> simp at L <;> simp[n]
    have r:∀ (e:Array ak) (z:ak),e[i]?=aa z->(part f.type e f.offset).run P w=.ok z w:=by
     intro e z F;unfold part;simp[p,K,F]
    have q:∀ (e:Array ak) (z:ak),e[i]?=aa z->∀ es,(part f.type e f.offset).events P w es=es:=by
     intro e z F es;unfold part;simp[p,K,F]
    have B:∀ es,(Op.equalIn (d+1) f.type v u).events P w es=es:=by
     intro es;unfold qN at c;split at c <;> first
      |(cases c;done)
      |(unfold Op.equalIn;simp[underlying,n];done)
      |(unfold Op.equalIn;simp[underlying,n];split <;> rfl)
    have I:(Op.equalIn (d+1) f.type v u).run P w=.ok a w:=by
     unfold qN at c;split at c
     .rename_i k k1 x Q y
      split at c
      .rename_i O;subst O;cases c;exact run_equalIn_int w d f.type k1 k x y n
      .cases c
     .cases c;exact run_equalIn_string w d f.type _ _ n
     .cases c;exact run_equalIn_bool w d f.type _ _ n
     .cases c
    refine⟨?_,λes=>?_⟩
    .rw[Op.eqFields.eq_2,aU G];simp only[bZ,r xs v l,r ys u m,I,cg];cases a
     .simp
     .simp[N]
    .rw[List.forIn_cons];simp only[TT,G,bH,aP,bZ,r xs v l,r ys u m,I,cg,aV,q xs v l,q ys u m,B];cases a
     .simp
     .simpa using E es
theorem jV{P:an}{t:ar}{fs:List Field}{ds:List TypeDesc}(f:P.underlying t=aa (.struct fs.toArray))(e:P.stoodInHeld t=ae)(l:P.eqGuardType P.depth t=ae)(i:Jx P ds fs 0) :
  P.eqGuardType P.depth t=ae/\∀ (w:az) (vs ws:List ak) (b:Bool),jU ds vs ws=aa b->(Op.equal t (.agg vs.toArray) (.agg ws.toArray)).run P w=.ok b w/\∀ es,(Op.equal t (.agg vs.toArray) (.agg ws.toArray)).events P w es=es:=by
 refine⟨l,λw vs ws b h=>?_⟩
 have d:P.fieldsOf t=fs.toArray:=by unfold Program.fieldsOf;rw[f]
 have key:=oq w 9998 vs.toArray ws.toArray i h (λj v c=>by simpa using c) (λj v c=>by simpa using c)
 refine⟨?_,λes=>?_⟩
 rotate_left
 .show (Op.equalIn (9999+1) t _ _).events P w es=es;have k:=key.2 es;unfold Op.equalIn;simp[underlying,f,e];show Result.evThen ((forIn fs (af,()) (TT 9999 vs.toArray ws.toArray)).run P w) ((forIn fs (af,()) (TT (9998+1) vs.toArray ws.toArray)).events P w es) _=es;rw[k];cases (forIn fs (af,()) (TT 9999 vs.toArray ws.toArray)).run P w with
  |ok a w'=>obtain⟨o,_⟩:=a;cases o <;> rfl
  |halt x w'=>rfl
 show (Op.equalIn (9999+1) t _ _).run P w=_;rw[run_equalIn_agg w 9999 t _ _ (by rw[d];exact f) e,d]
 exact key.1
 all_goals exact oq w 9998 _ _ i h (λj v c=>by simpa using c) (λj v c=>by simpa using c)
def OI:List TypeDesc->List A->List A->Option Bool
 |[],[],[]=>aa ab
 |.int _::ds,.c (.int k a)::cs,.c (.int k' b)::es=>match Gr k k' with
  |true=>match OI ds cs es with
   |some r=>aa ((a==b)&&r)
   |none=>af
  |false=>af
 |.string::ds,.c (.str a)::cs,.c (.str b)::es=>match OI ds cs es with
  |some r=>aa ((a==b)&&r)
  |none=>af
 |.bool::ds,.c (.bool a)::cs,.c (.bool b)::es=>match OI ds cs es with
  |some r=>aa ((a==b)&&r)
  |none=>af
 |_,_,_=>af
theorem DK{σ:List aW}{s:St}:∀ {ds:List TypeDesc}{cs es:List A}{b:Bool}{vs ws:List ak},OI ds cs es=aa b->dX σ s vs cs->dX σ s ws es->jU ds vs ws=aa b:=by
 intro ds
 induction ds with
 |nil =>
  intro cs es b vs ws h e c;cases cs <;> cases es <;> simp only[OI,reduceCtorEq] at h
  cases vs <;> cases ws <;> first|exact e.elim|exact c.elim|(simpa[jU] using h)
 |cons d ds ih =>
  intro cs es b vs ws h e c;unfold OI at h;split at h
  .exact absurd (by assumption:d::ds=[]) (by simp)
  .rename_i n i k a j k' b' es' heq
   cases heq;split at h
   .rename_i m
    cases zU m;split at h
    .rename_i r f
     cases h;cases vs with
     |nil=>exact e.elim
     |cons v vs=>cases ws with
      |nil=>exact c.elim
      |cons w ws =>
       obtain⟨v1,l⟩:=e;obtain⟨w1,w2⟩:=c;cases (show Rd s.M v (.int k a) from v1)
       cases (show Rd s.M w (.int k b') from w1)
       simp[jU,qN,ih f l w2]
    .cases h
   .cases h
  .rename_i i a j b' es' heq
   cases heq;split at h
   .rename_i r f
    cases h;cases vs with
    |nil=>exact e.elim
    |cons v vs=>cases ws with
     |nil=>exact c.elim
     |cons w ws =>
      obtain⟨v1,l⟩:=e;obtain⟨w1,w2⟩:=c;cases (show Rd s.M v (.str a) from v1) with
      |str hx _ =>
      cases (show Rd s.M w (.str b') from w1) with
      |str hy _ =>
      simp only[jU,qN,ih f l w2];subst hx hy;simp[ByteArray.toList_eq]
   .cases h
  .rename_i i a j b' es' heq
   cases heq;split at h
   .rename_i r f
    cases h;cases vs with
    |nil=>exact e.elim
    |cons v vs=>cases ws with
     |nil=>exact c.elim
     |cons w ws =>
      obtain⟨v1,l⟩:=e;obtain⟨w1,w2⟩:=c;cases (show Rd s.M v (.bool a) from v1)
      cases (show Rd s.M w (.bool b') from w1)
      simp[jU,qN,ih f l w2]
   .cases h
  .cases h
section
variable {P:an}{T:List (Nat×TI)}{o:av}{g:aq->D}{σ:List aW}
def lU:BinOp->Bool->Option Bool
 |.eql,b=>aa b
 |.neq,b=>aa (!b)
 |_,_=>af
theorem tX{op:BinOp}{t:ar}{x y:ak}{w:az}{b c:Bool}(a:match x,y with|.agg _,.agg _=>True|.bool _,.bool _=>True|_,_=>False)(d:(Op.equal t x y).run P w=.ok b w)(h:lU op b=aa c) :
  (binOp op t x y).run P w=.ok (.bool c) w:=by
 cases op <;> simp only[lU,reduceCtorEq,cV] at h
 .subst h;cases x <;> cases y <;> simp only at a <;> simp[binOp,d]
 .subst h;cases x <;> cases y <;> simp only at a <;> simp[binOp,d]
theorem o8{op:BinOp}{t:ar}{x y:ak}{w:az}{b c:Bool}(d:match x,y with|.agg _,.agg _=>True|.bool _,.bool _=>True|_,_=>False)(e:(Op.equal t x y).run P w=.ok b w)(a:∀ es,(Op.equal t x y).events P w es=es)(h:lU op b=aa c)(es:Array Event) :
  (binOp op t x y).events P w es=es:=by
 cases op <;> simp only[lU,reduceCtorEq,cV] at h <;> (cases x <;> cases y <;> simp only at d <;> simp[binOp,a])
theorem wx(op:BinOp)(t:ar)(x y:aq)(xs ys:Array ak)(w:az)(a:P.eqGuardType P.depth t=ae)(es:Array Event):(eqGuard op t x y (.agg xs) (.agg ys)).events P w es=es:=by
 cases op <;> simp[eqGuard,a]
theorem bR.structEq(u:dk P T){op:BinOp}{t ty:ar}{x y:aq}(h:o.op=.binOp op t x y ty){i:TI}(hi:bL T t=aa i)(m:i.eq≠[]){cs es:List A}{b c:Bool}(z:g x=.e (.agg cs))(v:g y=.e (.agg es))
  (n:OI i.eq cs es=aa b) (q:lU op b=aa c):bR P o g σ (.e (.one (.c (.bool c)))) σ:=by
 refine .quiet λs ρ hh hr=>?_
 have h1:=hr x;have h2:=hr y;rw[z] at h1;rw[v] at h2;obtain⟨vs,r,j⟩:=h1;obtain⟨k,p,d⟩:=h2;obtain⟨l,heq⟩:=(u t i hi).eqs m;have a:=tX (x:=.agg vs.toArray) (y:=.agg k.toArray) ay (heq s.w vs k b (DK n j d)).1 q;have f:=o8 (x:=.agg vs.toArray) (y:=.agg k.toArray) ay (heq s.w vs k b (DK n j d)).1 (heq s.w vs k b (DK n j d)).2 q;refine⟨.bool c,?_,Rd.bool,by simp only[aw,h,r,p,aP,run_eqGuard_agg s.w op t x y _ _ l,wx op t x y _ _ s.w l,aV,bZ,cg,a,f,Sem.events_pure]⟩
 simp only[aw,h,r,p,bZ,run_eqGuard_agg s.w op t x y _ _ l,cg,a,c7]
theorem bR.P0(p:dk P T){op:BinOp}{t ty:ar}{x y:aq}(h:o.op=.binOp op t x y ty){i:TI}(hi:bL T t=aa i)(q:i.desc=.bool){a b c:Bool}(u:g x=.e (.one (.c (.bool a))))(r:g y=.e (.one (.c (.bool b))))
  (n:lU op (a==b)=aa c):bR P o g σ (.e (.one (.c (.bool c)))) σ:=by
 refine .quiet λs ρ hh hr=>?_
 have h1:=hr x;have h2:=hr y;rw[u] at h1;rw[r] at h2
 replace h1:=ga h1
 replace h2:=ga h2
 generalize j:ρ x=vx at h1;generalize k:ρ y=vy at h2;cases h1;cases h2;have m:P.underlying t=aa .bool:=by rw[(p t i hi).Tf,q]
 have d:=tX (P:=P) (w:=s.w) (x:=.bool a) (y:=.bool b) ay (run_equal_bool s.w t a b m) n;have l:∀ es,(Op.equal t (.bool a) (.bool b)).events P s.w es=es:=λes=>by
  show (Op.equalIn (9999+1) t _ _).events P s.w es=es;unfold Op.equalIn;simp[underlying,m]
 have f:=o8 (P:=P) (w:=s.w) (x:=.bool a) (y:=.bool b) ay (run_equal_bool s.w t a b m) l n;refine⟨.bool c,?_,Rd.bool,by simp only[aw,h,j,k,aP,eqGuard_at_bool,Sem.events_pure,c7,aV,bZ,cg,d,f]⟩
 simp only[aw,h,j,k,bZ,eqGuard_at_bool,c7,cg,d]
theorem bR.Tv{t ty:ar}{x y:aq}(h:o.op=.binOp .xor t x y ty){a b:Int}(p:g x=.e (.one (.c (.int .i64 a))))(n:g y=.e (.one (.c (.int .i64 b))))(q:0<=a)(h1:0<=b) :
  bR P o g σ (.e (.one (.c (.int .i64 ((a.toNat ^^^ b.toNat:Nat):Int))))) σ:=by
 refine .quiet λs ρ hh hr=>?_
 have e1:=hr x;have e2:=hr y;rw[p] at e1;rw[n] at e2
 replace e1:=ga e1
 replace e2:=ga e2
 generalize j:ρ x=vx at e1;generalize k:ρ y=vy at e2;cases e1 with|int ha =>
 cases e2 with|int hb =>
 have m:a.toNat ^^^ b.toNat<2 ^ 63:=by
  apply Nat.xor_lt_two_pow <;> simp only[bD] at ha hb <;> omega
 have i:bD .i64 ((a.toNat ^^^ b.toNat:Nat):Int):=by simp only[bD];omega
 refine⟨.int .i64 ((a.toNat ^^^ b.toNat:Nat):Int),?_,.int i,?_⟩
 rotate_left
 .simp only[aw,h,j,k,aP,gD,jO,aV,Go.binOp,cW,fH,bH,Op.intBits,bZ,cg,c7,Sem.events_pure]
 have f:((BitVec.ofInt 64 a) ^^^ (BitVec.ofInt 64 b)).toNat=a.toNat ^^^ b.toNat:=by
  rw[BitVec.toNat_xor,BitVec.toNat_ofInt,BitVec.toNat_ofInt];simp only[bD] at ha hb
  congr 1 <;> omega
 have d:(BitVec.ofInt IntKind.i64.bits a ^^^ BitVec.ofInt IntKind.i64.bits b).toNat=a.toNat ^^^ b.toNat:=f;have l:(Go.binOp .xor t (.int .i64 a) (.int .i64 b)).run P s.w=.ok (.int .i64 ((a.toNat ^^^ b.toNat:Nat):Int)) s.w:=by
  simp only[Go.binOp,cW,fH,bH,Op.intBits,c7];rw[d,mx i]
 simp only[aw,h,j,k,bZ,gD,cg,l,c7]
theorem bR.Gc(H:dk P T){k dst:ar}{x:aq}(h:o.op=.convert k dst x){i i2 ie:TI}{E:ar}(hi:bL T k=aa i)(G:bL T dst=aa i2)(V:i.desc=.slice E)(J:i2.desc=.string)(W:bL T E=aa ie)(F:ie.desc=.int .u8)
  {tt:Bool} {n:Nat} {es:Nat->List C} {r:List UInt8} (S:∀ s v,dh σ s v (g x)->Rd s.M v (.sl tt 1 n es)) (hb:vR es 0 n=aa r):bR P o g σ (.e (.one (.c (.str r)))) σ:=by
 refine .n5 λs ρ hh hr=>?_
 have h1:=S s _ (hr x);obtain⟨vs,K,b⟩:=dO (P:=P) hh h1;obtain⟨a,cap,R,y,N,Q,_⟩:=h1.flat;have L:n<=9223372036854775807:=by omega
 have q:vs.length=n:=by rw[K.len];omega
 obtain⟨xs,e1,e2⟩:=yk (M:=s.M) (vs:=vs) hb q (λj hj c O=>by
  obtain⟨v,U,p2⟩:=K.rd j hj 0 c (by simpa using O)
  exact⟨v,by simpa using U,p2⟩)
 have I:=(H k i hi).run_underlying (w:=s.w);have f:=(H dst i2 G).run_underlying (w:=s.w);have m:=(H E ie W).run_underlying (w:=s.w);rw[V] at I;rw[J] at f;rw[F] at m;have B:r.length<=9223372036854775807:=by
  rw[e2,iw];have:xs.length=n:=by rw[<-q,e1,iw]
  omega
 have p:∃ z:ByteArray,(Conv.bytesToString (.slice a n cap)).run P s.w=.ok (.string z) s.w/\z.data.toList=r:=by
  cases a with
  |none =>
   have t:r=[]:=by
    have:vs=[]:=by
     rw[y] at b;have h2:=b.1;simp[Builtin.firstCells] at h2;simpa using h2
    rw[this] at e1;have:xs=[]:=by simpa using e1.symm
    rw[e2,this];rfl
   exact⟨ByteArray.empty,by simp[Conv.bytesToString],by rw[t];rfl⟩
  |some ad =>
   rw[y] at b;have h2:=b.1;simp only[Builtin.firstCells,pL] at h2;refine⟨⟨#[]++(xs.map λx=>UInt8.ofNat x.toNat).toArray⟩,?_,by rw[e2];simp⟩
   simp only[Conv.bytesToString,bZ,h2,cg,e1];rw[List.forIn_toArray,oC (P:=P) s.w (λ_ _=>rfl) xs ByteArray.empty]
   rfl
 obtain⟨z,u,A⟩:=p;refine⟨.string z,?_,Rd.str A B,?_⟩
 rotate_left
 .intro e d;simp only[aw,h,y,aP,convert,I,f,aV,cg,m,u,bZ,events_underlying,Sem.events_pure] at d;cases a with
  |none=>simp[Conv.bytesToString] at d
  |some ad =>
   have l:=gX (P:=P) hh (h1.C7 (λ_ _=>rfl)) (w:=s.w) rfl
   rw[y] at b l;have h2:=b.1;simp only[Builtin.firstCells,pL] at h2 l;unfold Conv.bytesToString at d;simp only at d;rw[aP,h2,aV,cR.bind (P:=P) ?_ λ_=>.pure] at d
   .exact sG (l e d)
   .rw[List.forIn_toArray];refine cR.IK (λx s=>?_) _ _
    split
    .exact .pure
    .exact .bind .stuck λ_=>.pure
 simp only[aw,h,y,bZ,convert,I,f,cg,m,u,c7]
end
end Go.AM
