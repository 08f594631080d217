/- Part 1. No condition. -/
import Derived.Tactics2
import Derived.Conc.Own
import Derived.Conc.Events
import Derived.Conc.Listed
import Derived.Laws.CopyRow
import Derived.Laws.AppendOwn
import Derived.Laws.Rows
import Derived.Laws.Strings
import Derived.Laws.Cells
import Derived.Lib.Strings
import Derived.Laws.Slices
import Derived.Orders
import Derived.Laws.StructEq
set_option linter.all false
set_option maxHeartbeats 8000000
open Go renaming Value → ak
open Option renaming some → aa
open Go renaming Program → aq
open Go renaming TypeId → ar
open Bool renaming true → ab
open Go renaming Goroutine → au
open Go renaming Frame → aR
open Go renaming Oper → aw
open Go renaming FuncId → aW
open Go.Region renaming wanted → bj
open Go renaming execOp → ay
open Go renaming Operand → an
open Option renaming none → af
open Bool renaming false → ae
open Go renaming undef → aj
open Go.World renaming cell? → a9
open List renaming getD_eq_getElem?_getD → ai
open Go.Sem renaming events_bind → aO
open Go.Result renaming evThen_ok → aU
open Go renaming World → az
open Go renaming stepG → aK
open List renaming range → bh
open Nat renaming beq → aG
open Nat renaming ble → bo
open Go.Region renaming ready → bd
open Go.Op renaming bytesLess → bl
namespace Go
section
set_option linter.defProp false
set_option linter.deprecated false
def av:=@_root_.trivial
def br:=@_root_.List.getElem?_eq_getElem
def ba:=@_root_.decide_eq_true_eq
def aC:=@_root_.and_true
def aF:=@_root_.true_and
def bJ:=@_root_.decide_eq_false_iff_not
def bz:=@_root_.Int.toNat_natCast
def bU:=@_root_.Nat.eq_of_beq_eq_true
def bT:=@_root_.List.mem_of_getElem?
def cp:=@_root_.List.getElem?_eq_some_iff
def bg:=@_root_.Nat.le_refl
def bP:=@_root_.List.length_append
def bt:=@_root_.Nat.zero_add
def bL:=@_root_.Bool.and_eq_true
def b8:=@_root_.Go.Result.andThen_ok
def dC:=@_root_.Array.getD_eq_getD_getElem?
def b6:=@_root_.List.take_length
def c7:=@_root_.Nat.le_of_ble_eq_true
def cE:=@_root_.Nat.lt_of_lt_of_le
def bX:=@_root_.Go.Sem.run_bind
def aY:=@_root_.if_neg
def cj:=@_root_.decide_eq_true
def dm:=@_root_.beq_eq_false_iff_ne
def bc:=@_root_.if_pos
def de:=@_root_.Option.some.injEq
def er:=@_root_.List.length_singleton
def dT:=@_root_.List.getElem_of_mem
def et:=@_root_.Nat.mul_le_mul_right
def fQ:=@_root_.Array.getElem?_eq_getElem
def gh:=@_root_.List.getElem?_append_right
def cG:=@_root_.Nat.lt_or_ge
def dH:=@_root_.beq_self_eq_true
def hX:=@_root_.List.eq_nil_of_length_eq_zero
def fH:=@_root_.List.getElem?_set_self
def cW:=@_root_.Go.Sem.run_pure
def hY:=@_root_.Array.getElem?_eq_some_iff
def dv:=@_root_.Bool.not_true
def eu:=@_root_.decide_eq_false
def dJ:=@_root_.Bool.true_and
def b9:=@_root_.if_false
def ft:=@_root_.not_true_eq_false
def eZ:=@_root_.List.length_cons
def jD:=@_root_.List.getElem?_append_left
def fI:=@_root_.Option.getD_some
def iI:=@_root_.List.getElem?_toArray
def gO:=@_root_.List.getElem?_take
def iJ:=@_root_.List.mem_of_mem_take
def iK:=@_root_.List.getElem?_set_ne
def cq:=@_root_.if_true
def kV:=@_root_.List.pairwise_iff_getElem
def e9:=@_root_.List.mem_cons
def eK:=@_root_.Nat.le_trans
def jh:=@_root_.Array.length_toList
def gA:=@_root_.List.mem_append
def kW:=@_root_.List.getElem?_cons_zero
def j1:=@_root_.List.take_append_drop
def j3:=@_root_.List.length_filter_le
def iL:=@_root_.List.ext_getElem?
def ji:=@_root_.Bool.not_eq_true'
def hZ:=@_root_.List.length_nil
def jE:=@_root_.Bool.false_eq_true
def dn:=@_root_.congrArg
def mI:=@_root_.Array.getElem?_replicate
def ia:=@_root_.Bool.not_false
def mJ:=@_root_.List.getElem?_cons_succ
def qq:=@_root_.List.findIdx?_eq_some_iff_getElem
def jk:=@_root_.Nat.not_lt_zero
def jl:=@_root_.List.foldl_cons
def j4:=@_root_.List.take_add_one
def lM:=@_root_.List.mem_iff_getElem
def j5:=@_root_.List.append_assoc
def kX:=@_root_.List.mem_singleton
def kY:=@_root_.bne_self_eq_false
def gB:=@_root_.Nat.zero_le
def j6:=@_root_.Option.map_some
def gQ:=@_root_.Nat.add_mul
def gi:=@_root_.beq_iff_eq
def iM:=@_root_.Nat.beq_refl
def iN:=@_root_.Nat.add_zero
def vl:=@_root_.Array.getElem?_setIfInBounds_self_of_lt
def sI:=@_root_.Array.getElem?_setIfInBounds_ne
def ib:=@_root_.decide_true
def kZ:=@_root_.List.length_map
def k6:=@_root_.List.append_nil
def qt:=@_root_.Array.mapM_eq_mapM_toList
def ic:=@_root_.bne_iff_ne
def oH:=@_root_.Array.toArray_toList
def cT:=@_root_.ne_eq
def k7:=@_root_.Prod.mk.injEq
def nz:=@_root_.List.getElem?_map
def mK:=@_root_.Bool.or_eq_true
def nA:=@_root_.Option.bind_some
def oI:=@_root_.Nat.eq_zero_or_pos
def k8:=@_root_.Nat.succ_mul
def sJ:=@_root_.Nat.lt_succ_iff_lt_or_eq
def jF:=@_root_.Nat.mod_lt
def sK:=@_root_.Option.map_eq_some_iff
def oJ:=@_root_.List.length_drop
def oK:=@_root_.List.getElem_mem
def oL:=@_root_.Bool.not_eq_true
def lz:=@_root_.List.mapM_cons
def nB:=@_root_.List.getElem?_drop
def qU:=@_root_.List.findIdx?_eq_none_iff
def mc:=@_root_.List.mem_filter
def md:=@_root_.Bool.eq_iff_iff
def nC:=@_root_.not_false_eq_true
def ku:=@_root_.decide_false
def pA:=@_root_.Nat.div_lt_of_lt_mul
def nD:=@_root_.List.foldl_append
def pB:=@_root_.bne_eq_false_iff_eq
def qV:=@_root_.Nat.le_mul_of_pos_right
def uI:=@_root_.List.find?_eq_some_iff_getElem
def pC:=@_root_.Nat.add_sub_cancel
def qW:=@_root_.Nat.ble_eq_true_of_le
def qX:=@_root_.List.getElem?_eq_none
def qY:=@_root_.Bool.and_eq_false_iff
def gg:=@_root_.true_or
def ky:=@_root_.Nat.not_lt
def me:=@_root_.Nat.sub_zero
def pD:=@_root_.Nat.div_add_mod'
def pE:=@_root_.List.ext_getElem
def pF:=@_root_.List.drop_length
def uJ:=@_root_.List.drop_eq_getElem_cons
def qZ:=@_root_.List.flatMap_append
def q8:=@_root_.Int.toNat_of_nonneg
def pG:=@_root_.UInt8.toNat_inj
def pH:=@_root_.List.length_set
def ra:=@_root_.Int.emod_lt_of_pos
def rb:=@_root_.Bool.not_eq_false'
def uK:=@_root_.Nat.add_sub_cancel_left
def nE:=@_root_.Nat.mul_comm
def uL:=@_root_.List.take_of_length_le
def pI:=@_root_.Bool.false_and
def uM:=@_root_.Array.mem_of_getElem?
def rf:=@_root_.List.not_mem_nil
def uN:=@_root_.List.mem_cons_of_mem
def rh:=@_root_.List.map_append
def ri:=@_root_.Int.emod_nonneg
def uO:=@_root_.Nat.mul_le_mul_left
def uP:=@_root_.List.filter_eq_self
def pJ:=@_root_.List.mem_map
def rj:=@_root_.List.mem_range
def uQ:=@_root_.List.find?_eq_none
def uR:=@_root_.List.getElem?_set
def zf:=@_root_.List.set_eq_of_length_le
def rl:=@_root_.List.map_cons
def pK:=@_root_.Go.Sem.run_ite
def rm:=@_root_.Nat.sub_self
def zg:=@_root_.List.range_succ_eq_map
def zh:=@_root_.Array.getElem?_eq_none
def uS:=@_root_.Option.some.inj
def zi:=@_root_.List.contains_iff_mem
def zj:=@_root_.Array.getElem?_toList
def zk:=@_root_.Array.getElem?_modify
def nF:=@_root_.and_self
def zl:=@_root_.Nat.pow_le_pow_right
def mf:=@_root_.Ne.symm
def zm:=@_root_.Nat.add_sub_cancel'
def uT:=@_root_.Nat.add_assoc
end
end Go
namespace Go.AM
inductive C where
  | int (k:IntKind) (n:Int)
  | bool (b:Bool)
  | str (s:List UInt8)
  | sl (tight:Bool) (k n:Nat) (es:Nat->List C)
  | rp (cs:List C)
  | kh
  | ifs (t:ar) (c:C)
  | Jn (t:ar) (cs:List C)
  | nN
  | fn (f:Fn) (first cap:List C)
  | zt
  | val (x:ak)
inductive BP where
  | sl (g k o n:Nat)
  | el (g k i f:Nat)
def BP.g:BP->Nat
  | .sl g _ _ _=>g
  | .el g _ _ _=>g
def BP.K:BP->ak->ak->Prop
  | .sl _ k o n,lv,v=>∃ a a0 cap c0,v=.slice a n cap/\n<=cap/\o+cap=c0/\c0<=9223372036854775807/\lv=.slice a0 0 c0/\(0<cap->∃ b,a0=aa ⟨b,0,af⟩/\a=aa ⟨b,o*k,af⟩)
  | .el _ k i f,lv,v=>∃ b c0,lv=.slice (aa ⟨b,0,af⟩) 0 c0/\v=.pointer (aa ⟨b,i*k+f,af⟩)
inductive A where
  | c (x:C)
  | ptr (l off:Nat)
  | vec (l k n:Nat) (es:Nat->List C)
  | ref (l:Nat)
  | bp (l:Nat) (w:BP)
  | any
abbrev A.v (x:ak):A:=.c (.val x)
inductive E1 where
  | one (a:A)
  | agg (cs:List A)
inductive D where
  | e (x:E1)
  | eJ (xs:List E1)
  | any
abbrev Fr:=List (Nat×D)
def look:Fr->Nat->D
  | [],_=>.any
  | (i,d)::r,t=>cond (aG i t) d (look r t)
inductive aV where
  | cells (E:ar) (cs:List A)
  | vec (E:ar) (k n:Nat) (es:Nat->List C)
  | dz (H:ak->(Nat->Option Obj)->Prop)
  | dead
  | loop (N:Nat) (φ:Fr) (r:Loop)
  | qS
  | buf (E:ar) (k n:Nat) (es:Nat->List C)
@[simp] def aV.gr:aV->Bool
  | .vec _ _ _ _=>ab
  | .buf _ _ _ _=>ab
  | _=>ae
structure Loc where
  v:ak
  bs:List Nat
abbrev Mem:=Nat->Nat->Option ak
structure St where
  β:List Loc
  M:Mem
  w:az
  own:Nat->Prop
def bu:IntKind->Int->Prop
  | .i8,n=>-128<=n/\n<=127
  | .i16,n=>-32768<=n/\n<=32767
  | .i32,n=>-2147483648<=n/\n<=2147483647
  | .i64,n=>-9223372036854775808<=n/\n<=9223372036854775807
  | .u8,n=>0<=n/\n<=255
  | .u16,n=>0<=n/\n<=65535
  | .u32,n=>0<=n/\n<=4294967295
  | .u64,n=>0<=n/\n<=18446744073709551615
def cX:ak->Bool
  | .agg _|.tuple _=>ae
  | _=>ab
def BP.K.cell {w:BP} {lv v:ak} (h:w.K lv v):cX v=ab:=by
  cases w with
  | sl=>obtain⟨_,_,_,_,rfl,_⟩:=h;rfl
  | el=>obtain⟨_,_,_,rfl⟩:=h;rfl
inductive Rd (M:Mem):ak->C->Prop
  | int {k:IntKind} {n:Int} (h:bu k n):Rd M (.int k n) (.int k n)
  | bool {b:Bool}:Rd M (.bool b) (.bool b)
  | str {s:ByteArray} {l:List UInt8} (h:s.data.toList=l) (hl:l.length<=9223372036854775807):Rd M (.string s) (.str l)
  | sl {a:Option Addr} {n cap:Nat} {tight:Bool} {k:Nat} {es:Nat->List C} (b off:Nat) (f:Nat->Nat->ak)
      (GM:n<=cap) (hb:cap<=9223372036854775807) (ht:tight=ab->cap=n) (hk:∀ i,i<n->(es i).length=k)
      (ha:0<n->a=aa ⟨b,off,af⟩)
      (hm:∀ i,i<n->∀ j c,(es i)[j]?=aa c->M b (off+i*k+j)=aa (f i j))
      (hr:∀ i,i<n->∀ j c,(es i)[j]?=aa c->Rd M (f i j) c):Rd M (.slice a n cap) (.sl tight k n es)
  | rp {cs:List C} (b off:Nat) (f:Nat->ak)
      (hm:∀ j c,cs[j]?=aa c->M b (off+j)=aa (f j))
      (hr:∀ j c,cs[j]?=aa c->Rd M (f j) c):Rd M (.pointer (aa ⟨b,off,af⟩)) (.rp cs)
  | kh:Rd M (.pointer af) .kh
  | ifs {t:ar} {v:ak} {c:C} (h:Rd M v c) (hc:cX v=ab):Rd M (.iface t v) (.ifs t c)
  | Jn {t:ar} {vs:List ak} {cs:List C} (hl:vs.length=cs.length)
      (f:Nat->ak) (hf:∀ j,j<vs.length->vs[j]?=aa (f j)) (hr:∀ j c,cs[j]?=aa c->Rd M (f j) c):Rd M (.iface t (.agg vs.toArray)) (.Jn t cs)
  | nN:Rd M .nilIface .nN
  | fn {g:Fn} {first cap:List C} (fs cs:List ak) (hl:fs.length=first.length) (Bb:cs.length=cap.length) (f1 f2:Nat->ak)
      (h1:∀ j,j<fs.length->fs[j]?=aa (f1 j)) (h2:∀ j,j<cs.length->cs[j]?=aa (f2 j))
      (r1:∀ j c,first[j]?=aa c->Rd M (f1 j) c) (r2:∀ j c,cap[j]?=aa c->Rd M (f2 j) c):Rd M (.func g fs.toArray cs.toArray) (.fn g first cap)
  | zt:Rd M .nilFunc .zt
  | val {x:ak} (h:cX x=ab):Rd M x (.val x)
theorem Rd.fX {M:Mem} {v x:ak} (h:Rd M v (.val x)):v=x:=by cases h;rfl
def Rd.cell {M:Mem} {v:ak} {c:C} (h:Rd M v c):cX v=ab:=by cases h <;> first|rfl|assumption
def Rd.mono {M M':Mem} (d:∀ b o v,M b o=aa v->M' b o=aa v) {v:ak} {c:C} (h:Rd M v c):Rd M' v c:=by
  induction h with
  | int h=>exact .int h
  | bool=>exact .bool
  | str h hl=>exact .str h hl
  | sl b off f a hb ht hk ha hm hr ih =>
    exact .sl b off f a hb ht hk ha (λi hi j c hj=>d _ _ _ (hm i hi j c hj)) (λi hi j c hj=>ih i hi j c hj)
  | rp b off f hm hr ih=>exact .rp b off f (λj c hj=>d _ _ _ (hm j c hj)) (λj c hj=>ih j c hj)
  | kh=>exact .kh
  | ifs h g ih=>exact .ifs ih g
  | Jn hl f e hr ih=>exact .Jn hl f e (λj c hj=>ih j c hj)
  | nN=>exact .nN
  | fn fs cs hl Bb f1 f2 h1 h2 r1 r2 ih1 ih2=>exact .fn fs cs hl Bb f1 f2 h1 h2 (λj c hj=>ih1 j c hj) (λj c hj=>ih2 j c hj)
  | zt=>exact .zt
  | val h=>exact .val h
def gv (σ:List aV) (s:St) (v:ak):A->Prop
  | .c x=>Rd s.M v x
  | .ptr l off=>(∀ B,σ[l]?=aa B->B.gr=ae)/\∃ L b,s.β[l]?=aa L/\L.v=.pointer (aa ⟨b,0,af⟩)/\v=.pointer (aa ⟨b,off,af⟩)
  | .vec l k n es=>Rd s.M v (.sl ae k n es)/\l<σ.length/\∀ E k' n' es',σ[l]?=aa (aV.vec E k' n' es')->n<=n'/\(n'=n->∃ L,s.β[l]?=aa L/\v=L.v)
  | .ref l=>(∀ B,σ[l]?=aa B->B.gr=ae)/\∃ L,s.β[l]?=aa L/\v=L.v/\cX v=ab
  | .bp l w=>∃ a,w.K a v/\l<σ.length/\∀ E k n es,σ[l]?=aa (aV.buf E k n es)->w.g<=n/\(w.g=n->∃ L,s.β[l]?=aa L/\L.v=a)
  | .any=>cX v=ab
def dM (σ:List aV) (s:St):List ak->List A->Prop
  | [],[]=>True
  | v::vs,a::al=>gv σ s v a/\dM σ s vs al
  | _,_=>False
def mT (σ:List aV) (s:St) (v:ak):E1->Prop
  | .one a=>gv σ s v a
  | .agg cs=>∃ vs:List ak,v=.agg vs.toArray/\dM σ s vs cs
def gI (σ:List aV) (s:St):List ak->List E1->Prop
  | [],[]=>True
  | v::vs,a::al=>mT σ s v a/\gI σ s vs al
  | _,_=>False
def c8 (σ:List aV) (s:St) (v:ak):D->Prop
  | .e x=>mT σ s v x
  | .eJ xs=>∃ vs:List ak,v=.tuple vs.toArray/\gI σ s vs xs
  | .any=>True
def cw (σ:List aV) (s:St):List ak->List D->Prop
  | [],[]=>True
  | v::vs,a::al=>c8 σ s v a/\cw σ s vs al
  | _,_=>False
structure Flat (M:Mem) (k n:Nat) (es:Nat->List C) (vs:List ak):Prop where
  len:vs.length=n*k
  width:∀ i,i<n->(es i).length=k
  rd:∀ i,i<n->∀ (j:Nat) (c:C),(es i)[j]?=aa c->∃ v,vs[i*k+j]?=aa v/\Rd M v c
def Flat.mono {M M':Mem} (a:∀ b o v,M b o=aa v->M' b o=aa v) {k n:Nat} {es:Nat->List C} {vs:List ak} (h:Flat M k n es vs):Flat M' k n es vs :=
  ⟨h.len,h.width,λi hi j c hj=>let ⟨v,h1,h2⟩:=h.rd i hi j c hj;⟨v,h1,h2.mono a⟩⟩
def eO (σ:List aV) (s:St):aV->Loc->Prop
  | .cells E cs,L=>∃ b vs,L=⟨.pointer (aa ⟨b,0,af⟩),[b]⟩/\s.w.heap[b]?=aa (.cells (List.toArray vs) E (0,0))/\dM σ s vs cs/\∀ o,s.M b o=af
  | .vec E k n es,L=>Rd s.M L.v (.sl ae k n es) /\
      (((L.bs=[]/\n=0)/\Rd s.M L.v (.sl ab k n es)) ∨
       ∃ b cap vs,L=⟨.slice (aa ⟨b,0,af⟩) n cap,[b]⟩/\s.w.heap[b]?=aa (.cells (List.toArray vs) E (0,0))/\vs.length=cap*k/\∀ o,n*k<=o->s.M b o=af)
  | .dz H,L=>∃ c,H L.v c/\(∀ (b:Nat) (o:Obj),c b=aa o->s.w.heap[b]?=aa o)/\(∀ b,b∈L.bs↔(c b).isSome=ab)/\∀ b∈L.bs,∀ o,s.M b o=af
  | .dead,_=>True
  | .loop N φ r,L=>∃ l tmps fn df,L=⟨.func (.yield l) #[] #[],[l]⟩/\s.w.heap[l]?=aa (.loop { r with tmps:=tmps,fn:=fn,defers:=df })/\tmps.size=N/\(∀ t,c8 σ s (tmps.getD t aj) (look φ t))/\∀ o,s.M l o=af
  | .qS,L=>∃ r:Nat,L=⟨.int .i64 r,[r]⟩/\s.w.heap[r]?=aa (.deferred (aa []))/\∀ o,s.M r o=af
  | .buf E k n es,L=>(n=0/\L=⟨.slice af 0 0,[]⟩)∨∃ b a vs zs,L=⟨.slice (aa ⟨b,0,af⟩) 0 a,[b]⟩/\s.w.heap[b]?=aa (.cells (List.toArray (vs++zs)) E (0,0))/\(vs++zs).length=a*k/\n<=a/\a<=9223372036854775807/\Flat s.M k n es vs/\∀ o,s.M b o=af
structure aJ (σ:List aV) (s:St):Prop where
  mem:∀ b o v,s.M b o=aa v->s.w.cell? ⟨b,o,af⟩=aa v
  len:s.β.length=σ.length
  box:∀ (l:Nat) (B:aV) (L:Loc),σ[l]?=aa B->s.β[l]?=aa L->eO σ s B L
  gd:∀ (l l':Nat) (L L':Loc),s.β[l]?=aa L->s.β[l']?=aa L'->∀ b∈L.bs,b∈L'.bs->l=l'
  lt:∀ L∈s.β,∀ b∈L.bs,b<s.w.heap.size
  own:∀ b,s.own b->b<s.w.heap.size/\∀ L∈s.β,b∉L.bs
def ig:aV->Loc->aV->Loc->Prop
  | .vec _ _ n _,L,.vec _ _ a _,L'=>(a=n->L'.v=L.v)/\n<=a
  | .vec _ _ _ _,_,.dead,_=>True
  | .vec _ _ _ _,_,_,_=>False
  | .buf _ _ n _,L,.buf _ _ a _,L'=>(a=n->L'.v=L.v)/\n<=a
  | .buf _ _ _ _,_,.dead,_=>True
  | .buf _ _ _ _,_,_,_=>False
  | _,_,.vec _ _ _ _,_=>False
  | _,_,.buf _ _ _ _,_=>False
  | .dead,L,.dead,L'=>L'.v=L.v
  | .dead,_,_,_=>False
  | .qS,L,.qS,L'=>L'.v=L.v
  | .qS,_,_,_=>False
  | _,_,.qS,_=>False
  | _,L,_,L'=>L'.v=L.v
structure Ext (σ:List aV) (s:St) (σ':List aV) (s':St):Prop where
  mem:∀ b o v,s.M b o=aa v->s'.M b o=aa v
  box:∀ (l:Nat) (B:aV) (L:Loc),σ[l]?=aa B->s.β[l]?=aa L->∃ B' L',σ'[l]?=aa B'/\s'.β[l]?=aa L'/\ig B L B' L'
structure Step (σ:List aV) (s:St) (σ':List aV) (s':St):Prop where
  size:s.w.heap.size<=s'.w.heap.size
  eL:∀ b,b<s.w.heap.size->(∀ L∈s.β,b∉L.bs)->s'.w.heap[b]?=s.w.heap[b]?
  mem:∀ b o v,s.M b o=aa v->s'.M b o=aa v
  jA:∀ b,b<s.w.heap.size->(∀ L∈s.β,b∉L.bs)->∀ o,s'.M b o=s.M b o
  xx:∀ L'∈s'.β,∀ b∈L'.bs,s.w.heap.size<=b∨∃ L∈s.β,b∈L.bs
  box:∀ (l:Nat) (B:aV) (L:Loc),σ[l]?=aa B->s.β[l]?=aa L->∃ B' L',σ'[l]?=aa B'/\s'.β[l]?=aa L'/\ig B L B' L'
  os:s'.w.os=s.w.os
  tape:s'.w.tape=s.w.tape
  output:s'.w.output=s.w.output
  own:s'.own=s.own
structure cB (σ:List aV) (s:St) (σ':List aV) (s':St):Prop where
  size:s.w.heap.size<=s'.w.heap.size
  eL:∀ b,s.own b->s'.w.heap[b]?=s.w.heap[b]?
  mem:∀ b o v,s.M b o=aa v->s'.M b o=aa v
  jA:∀ b,b<s.w.heap.size->(∀ L∈s.β,b∉L.bs)->∀ o,s'.M b o=s.M b o
  xx:∀ L'∈s'.β,∀ b∈L'.bs,s.w.heap.size<=b∨∃ L∈s.β,b∈L.bs
  box:∀ (l:Nat) (B:aV) (L:Loc),σ[l]?=aa B->s.β[l]?=aa L->∃ B' L',σ'[l]?=aa B'/\s'.β[l]?=aa L'/\ig B L B' L'
  os:s'.w.os=s.w.os
  tape:s'.w.tape=s.w.tape
  output:s'.w.output=s.w.output
  own:s'.own=s.own
structure cg (s s':St):Prop where
  β:s'.β=s.β
  M:s'.M=s.M
  own:s'.own=s.own
  size:s.w.heap.size<=s'.w.heap.size
  eL:∀ b,(s.own b∨∃ L∈s.β,b∈L.bs)->s'.w.heap[b]?=s.w.heap[b]?
  mem:∀ b o v,s.M b o=aa v->s'.w.cell? ⟨b,o,af⟩=aa v
  os:s'.w.os=s.w.os
  tape:s'.w.tape=s.w.tape
  output:s'.w.output=s.w.output
def ov (s:St) (e:Event):Prop :=
  match e.loc with
  | .cell a=>e.sync=ae/\a.spot=af/\(False∨((∃ L∈s.β,a.block∈L.bs)/\(e.write=ab->s.M a.block a.off=af))∨(e.write=ae/\∃ v,s.M a.block a.off=aa v))
  | .obj r=>e.sync=ae/\(False∨∃ L∈s.β,r∈L.bs)
  | .mark m=>m=.noRoom∨∃ f,m=.extern f
  | _=>False
def eX (s:St) (es:Array Event):Prop:=∀ e∈es,ov s e
def eX.nil {s:St}:eX s #[]:=by intro e h;grind
def ig.refl (B:aV) (L:Loc):ig B L B L:=by cases B <;> simp[ig]
def ig.trans {B B' WH:aV} {L L' Zz:Loc} (h:ig B L B' L') (a:ig B' L' WH Zz):ig B L WH Zz:=by
  cases B <;> cases B' <;> cases WH <;> simp_all [ig]
  all_goals
    grind
def Step.refl (σ:List aV) (s:St):Step σ s σ s :=
  ⟨bg _,λ_ _ _=>rfl,λ_ _ _ h=>h,λ_ _ _ _=>rfl,λL h b hb=>.inr ⟨L,h,hb⟩,λ_ B L h a=>⟨B,L,h,a,.refl _ _⟩,rfl,rfl,rfl,rfl⟩
def Step.trans {σ σ1 σ2:List aV} {s c s2:St} (h:Step σ s σ1 c) (k:Step σ1 c σ2 s2):Step σ s σ2 s2:=by
  have out:∀ b,b<s.w.heap.size->(∀ L∈s.β,b∉L.bs)->∀ L∈c.β,b∉L.bs:=by
    intro b hb hn L a d;rcases h.xx L a b d with h1|⟨u,g,p⟩
    · omega
    grind
  refine⟨eK h.size k.size,?_,λb o v q=>k.mem _ _ _ (h.mem _ _ _ q),?_,?_,?_,k.os.trans h.os,k.tape.trans h.tape,k.output.trans h.output,k.own.trans h.own⟩
  · intro b hb hn
    rw[k.eL b (cE hb h.size) (out b hb hn),h.eL b hb hn]
  · intro b hb hn o
    rw[k.jA b (cE hb h.size) (out b hb hn),h.jA b hb hn]
  · intro L a b hb
    rcases k.xx L a b hb with h1|⟨L1,e,f⟩
    · exact .inl (eK h.size h1)
    grind
  · intro l B L i a
    obtain⟨B1,L1,h1,h2,n⟩:=h.box l B L i a;obtain⟨j,t,k1,r,m⟩:=k.box l B1 L1 h1 h2;exact⟨j,t,k1,r,n.trans m⟩
def cB.refl (σ:List aV) (s:St):cB σ s σ s :=
  ⟨bg _,λ_ _=>rfl,λ_ _ _ h=>h,λ_ _ _ _=>rfl,λL h b hb=>.inr ⟨L,h,hb⟩,λ_ B L h a=>⟨B,L,h,a,.refl _ _⟩,rfl,rfl,rfl,rfl⟩
def cB.trans {σ σ1 σ2:List aV} {s c s2:St} (h:cB σ s σ1 c) (k:cB σ1 c σ2 s2):cB σ s σ2 s2:=by
  have out:∀ b,b<s.w.heap.size->(∀ L∈s.β,b∉L.bs)->∀ L∈c.β,b∉L.bs:=by
    intro b hb hn L a d;rcases h.xx L a b d with h1|⟨u,g,p⟩
    · omega
    grind
  refine⟨eK h.size k.size,?_,λb o v q=>k.mem _ _ _ (h.mem _ _ _ q),?_,?_,?_,k.os.trans h.os,k.tape.trans h.tape,k.output.trans h.output,k.own.trans h.own⟩
  · intro b hb
    rw[k.eL b (by rw[h.own];exact hb),h.eL b hb]
  · intro b hb hn o
    rw[k.jA b (cE hb h.size) (out b hb hn),h.jA b hb hn]
  · intro L a b hb
    rcases k.xx L a b hb with h1|⟨L1,e,f⟩
    · exact .inl (eK h.size h1)
    grind
  · intro l B L i a
    obtain⟨B1,L1,h1,h2,n⟩:=h.box l B L i a;obtain⟨j,t,k1,r,m⟩:=k.box l B1 L1 h1 h2;exact⟨j,t,k1,r,n.trans m⟩
def Step.ox {σ σ':List aV} {s s':St} (hh:aJ σ s) (h:Step σ s σ' s'):cB σ s σ' s' :=
  ⟨h.size,λb hb=>h.eL b (hh.own b hb).1 (hh.own b hb).2,h.mem,h.jA,h.xx,h.box,h.os,h.tape,h.output,h.own⟩
def cB.ext {σ σ':List aV} {s s':St} (h:cB σ s σ' s'):Ext σ s σ' s':=⟨h.mem,h.box⟩
def cg.refl {σ:List aV} {s:St} (hh:aJ σ s):cg s s:=⟨rfl,rfl,rfl,bg _,λ_ _=>rfl,hh.mem,rfl,rfl,rfl⟩
def cg.stepW {σ:List aV} {s s':St} (h:cg s s'):cB σ s σ s' :=
  ⟨h.size,λb hb=>h.eL b (.inl hb),λb o v d=>by rw[h.M];exact d,λ_ _ _ _=>by rw[h.M],λL a b hb=>.inr ⟨L,by rw[<-h.β];exact a,hb⟩,
    λl B L c a=>⟨B,L,c,by rw[h.β];exact a,.refl _ _⟩,h.os,h.tape,h.output,h.own⟩
def Step.ext {σ σ':List aV} {s s':St} (h:Step σ s σ' s'):Ext σ s σ' s':=⟨h.mem,h.box⟩
section mono
variable {σ σ':List aV} {s s':St}
def Ext.Nd (h:Ext σ s σ' s') {l:Nat} {L:Loc} (b:s.β[l]?=aa L) (hl:s.β.length=σ.length) (hn:∀ B,σ[l]?=aa B->B.gr=ae) :
    (∀ B,σ'[l]?=aa B->B.gr=ae)/\∃ L',s'.β[l]?=aa L'/\L'.v=L.v:=by
  have a:l<σ.length:=by grind
  obtain⟨B',L',k1,e,d⟩:=h.box l (σ[l]) L (br a) b;have c:=hn _ (br a);generalize σ[l]=B at *;rw[k1];cases B <;> cases B' <;> simp_all [ig,aV.gr]
def gv.mono (h:Ext σ s σ' s') (hl:s.β.length=σ.length) {v:ak} {a:A} (r:gv σ s v a):gv σ' s' v a:=by
  cases a with
  | c x=>exact Rd.mono h.mem r
  | any=>exact r
  | ptr l off =>
    obtain⟨hn,L,b,h1,h2,j⟩:=r;obtain⟨g,L',k1,m⟩:=h.Nd h1 hl hn;exact⟨g,L',b,k1,by grind,j⟩
  | vec l k n es =>
    obtain⟨i,d,p⟩:=r;obtain⟨B',L',k1,m,f⟩:=h.box l (σ[l]) (s.β[l]'(by omega)) (br d) (br (by omega))
    have e:l<σ'.length:=(cp.1 k1).1;refine⟨Rd.mono h.mem i,e,λE k' g es' he=>?_⟩
    rw[he] at k1;cases k1;have q:=br d;generalize σ[l]=B at *;cases B with
    | vec E0 k0 n0 VG =>
      obtain⟨o,t⟩:=f
      grind
    | _=>simp[ig] at f
  | ref l =>
    obtain⟨hn,L,h1,h2,j⟩:=r;obtain⟨g,L',k1,m⟩:=h.Nd h1 hl hn;exact⟨g,L',k1,by grind,j⟩
  | bp l w =>
    obtain⟨lv,i,d,p⟩:=r;obtain⟨B',L',k1,m,f⟩:=h.box l (σ[l]) (s.β[l]'(by omega)) (br d) (br (by omega))
    have e:l<σ'.length:=(cp.1 k1).1;refine⟨lv,i,e,λE k' g es' he=>?_⟩
    rw[he] at k1;cases k1;have q:=br d;generalize σ[l]=B at *;cases B with
    | buf E0 k0 n0 VG =>
      obtain⟨o,t⟩:=f
      grind
    | _=>simp[ig] at f
def dM.mono (h:Ext σ s σ' s') (hl:s.β.length=σ.length) {vs:List ak} {cs:List A} (r:dM σ s vs cs):dM σ' s' vs cs:=by
  induction vs generalizing cs with
  | nil=>cases cs <;> simp_all [dM]
  | cons v vs ih =>
    cases cs with
    | nil=>simp[dM] at r
    | cons a cs=>exact⟨r.1.mono h hl,ih r.2⟩
def mT.mono (h:Ext σ s σ' s') (hl:s.β.length=σ.length) {v:ak} {x:E1} (r:mT σ s v x):mT σ' s' v x:=by
  cases x with
  | one a=>exact gv.mono h hl r
  | agg cs=>obtain⟨vs,h1,h2⟩:=r;exact⟨vs,h1,h2.mono h hl⟩
def gI.mono (h:Ext σ s σ' s') (hl:s.β.length=σ.length) {vs:List ak} {xs:List E1} (r:gI σ s vs xs):gI σ' s' vs xs:=by
  induction vs generalizing xs with
  | nil=>cases xs <;> simp_all [gI]
  | cons v vs ih =>
    cases xs with
    | nil=>simp[gI] at r
    | cons a cs=>exact⟨r.1.mono h hl,ih r.2⟩
def c8.mono (h:Ext σ s σ' s') (hl:s.β.length=σ.length) {v:ak} {d:D} (r:c8 σ s v d):c8 σ' s' v d:=by
  cases d with
  | e x=>exact mT.mono h hl r
  | eJ xs=>obtain⟨vs,h1,h2⟩:=r;exact⟨vs,h1,h2.mono h hl⟩
  | any=>trivial
def cw.mono (h:Ext σ s σ' s') (hl:s.β.length=σ.length) {vs:List ak} {xs:List D} (r:cw σ s vs xs):cw σ' s' vs xs:=by
  induction vs generalizing xs with
  | nil=>cases xs <;> simp_all [cw]
  | cons v vs ih =>
    cases xs with
    | nil=>simp[cw] at r
    | cons a cs=>exact⟨r.1.mono h hl,ih r.2⟩
end mono
def oz (σ:List aV) (s:St):List Deferred->List Nat->Prop
  | [],[]=>True
  | d::ds,l::ls=>(σ[l]?=aa .qS/\∃ (L:Loc) (r:Nat),s.β[l]?=aa L/\L.v=.int .i64 r/\d={ target:=.collected r,args:=#[] })/\l∉ls/\oz σ s ds ls
  | _,_=>False
def oz.mono {σ σ':List aV} {s s':St} (h:Ext σ s σ' s'):∀ {ds:List Deferred} {ls:List Nat},oz σ s ds ls->oz σ' s' ds ls
  | [],[],_=>trivial
  | [],_::_,r=>r.elim
  | _::_,[],r=>r.elim
  | d::ds,l::ls,⟨⟨h1,L,r,h2,g,c⟩,e,a⟩=>by
    obtain⟨B',L',k1,f,b⟩:=h.box l _ L h1 h2;cases B' <;> simp[ig] at b
    exact⟨⟨k1,L',r,f,by grind,c⟩,e,oz.mono h a⟩
def mn:List aV->Bool
  | []=>ab
  | .qS::_=>ae
  | _::r=>mn r
def mZ:∀ {l:List aV},mn l=ab->∀ B∈l,B≠.qS
  | [],_,B,a=>by grind
  | b::r,h,B,a=>by
    have c:b≠.qS/\mn r=ab:=by cases b <;> simp_all [mn]
    rcases e9.1 a with rfl|a
    · exact c.1
    · exact mZ c.2 B a
def lS {s:St} {r:Nat} {wr:Bool} {L:Loc} (b:L∈s.β) (a:r∈L.bs):ov s ⟨.obj r,wr,ae⟩:=⟨rfl,.inr ⟨L,b,a⟩⟩
def eX.one {s:St} {e:Event} (h:ov s e):eX s #[e]:=by intro x a;grind
def eX.two {s:St} {e a:Event} (h:ov s e) (b:ov s a):eX s #[e,a]:=by
  intro x c;grind
section
open Go.Conc (G listed)
def qv(s s':St)(es:Array Event):Prop:=(∃ σ σ',aJ σ s/\aJ σ' s'/\Step σ s σ' s')/\eX s es
structure Cx (P:aq) where
 main:Bool
 rely:St->St->Prop
 xA:au->St->(au->St->Prop)->Prop
 ij:∀ {s s'},rely s s'->cg s s'
 Bg:Prop
class Cx.js {P:aq} (X:Cx P):Prop where
 ok:X.Bg
structure eQ (s s':St):Prop where
 w:s'.w=s.w
 mem:∀ b o v,s.M b o=aa v->s'.M b o=aa v
 jA:∀ b,(∀ L∈s.β,b∉L.bs)->∀ o,s'.M b o=s.M b o
 cell:∀ b o v,s'.M b o=aa v->s.w.cell? ⟨b,o,af⟩=aa v
 blk:∀ b,(s'.own b∨∃ L∈s'.β,b∈L.bs)->s.own b∨∃ L∈s.β,b∈L.bs
structure mM (s s':St):Prop where
 w:s'.w=s.w
 β:s'.β=s.β
 own:s'.own=s.own
 less:∀ b o v,s'.M b o=aa v->s.M b o=aa v
 mem:∀ b o v,s.M b o=aa v->s'.M b o=aa v∨s.own b
inductive fp {P:aq} (X:Cx P) (S:au->St->Prop):au->St->Prop
 |stop {g:au} {s:St}:S g s->fp X S g s
 |step {g:au} {s:St} (ng:St->au) (ns:St->St) (ne:St->Array Event):g.status=.running ->
   (∀ s1,X.rely s s1->aK P X.main g s1.w=.go (ng s1) (ns s1).w (ne s1))->(∀ s1,X.rely s s1->qv s1 (ns s1) (ne s1))->(∀ s1,X.rely s s1->fp X S (ng s1) (ns s1))->fp X S g s
 |ghost {g:au} {s s':St}:eQ s s'->fp X S g s'->fp X S g s
 |forget {g:au} {s s':St}:X.Bg->mM s s'->fp X S g s'->fp X S g s
 |xA {g:au} {s:St} {T:au->St->Prop}:X.xA g s T->(∀ g' s',T g' s'->fp X S g' s')->fp X S g s
section
variable {P:aq}{X:Cx P}{S:au->St->Prop}
def fp.next{g:au}{s:St}(f:g.status=.running)(h:∀ c,X.rely s c->∃ g' s' es,aK P X.main g c.w=.go g' s'.w es/\qv c s' es/\fp X S g' s'):fp X S g s:=by
 classical
 have hh:∀ c,∃ r:au×St×Array Event,X.rely s c->aK P X.main g c.w=.go r.1 r.2.1.w r.2.2/\qv c r.2.1 r.2.2/\fp X S r.1 r.2.1:=by
  intro c
  by_cases e:X.rely s c
  .obtain⟨g',s',es,h1⟩:=h c e;exact⟨(g',s',es),λ_=>h1⟩
  .exact⟨(g,c,#[]),λd=>absurd d e⟩
 refine .step (λc=>(Classical.choose (hh c)).1) (λc=>(Classical.choose (hh c)).2.1) (λc=>(Classical.choose (hh c)).2.2) f ?_ ?_ ?_
 .grind
 .grind
 grind
theorem eQ.of{σ σ':List aV}{s s':St}(hh:aJ σ s)(c:aJ σ' s')(f:s'.w=s.w)(st:cB σ s σ' s'):eQ s s':=by
 have g:∀ b o v,s'.M b o=aa v->s.w.cell? ⟨b,o,af⟩=aa v:=λb o v h=>by rw[<-f];exact c.mem b o v h
 have d:∀ b o v,s.w.cell? ⟨b,o,af⟩=aa v->b<s.w.heap.size:=by
  intro b o v h;rcases cG b s.w.heap.size with h1|h1
  .exact h1
  .simp[a9,zh h1] at h
 refine⟨f,st.mem,λb hb o=>?_,g,λb hb=>?_⟩
 .rcases cG b s.w.heap.size with h1|h1
  .exact st.jA b h1 hb o
  .cases h2:s'.M b o with
   |some v=>grind
   |none=>cases i:s.M b o with
    |none=>rfl
    |some v=>have:=d _ _ _ (hh.mem _ _ _ i);omega
 .rcases hb with hb|⟨L,e,hb⟩
  .exact .inl (by rw[<-st.own];exact hb)
  .rcases st.xx L e b hb with h1|h1
   .have:=c.lt L e b hb;grind
   grind
def aJ.rely{σ:List aV}{s s':St}(hh:aJ σ s)(h:cg s s'):aJ σ s':=by
 have ex:Ext σ s σ s':=h.stepW.ext;have A:∀ v a,gv σ s v a->gv σ s' v a:=λv a r=>r.mono ex hh.len
 refine⟨λb o v z=>h.mem b o v (by rw[<-h.M];exact z),by rw[h.β];exact hh.len,?_,by rw[h.β];exact hh.gd,?_,?_⟩
 .intro l B L q e;rw[h.β] at e;have hb:=hh.box l B L q e;have C:∀ b∈L.bs,s'.w.heap[b]?=s.w.heap[b]?:=λb hb=>h.eL b (.inr ⟨L,bT e,hb⟩)
  cases B with
  |cells E cs =>
   obtain⟨b,vs,h1,h2,c,d⟩:=hb;subst h1;exact⟨b,vs,rfl,by grind,c.mono ex hh.len,λo=>by rw[h.M,d]⟩
  |vec E k n es =>
   obtain⟨h1,h2⟩:=hb;refine⟨by rw[h.M];exact h1,?_⟩
   rcases h2 with⟨h2,c⟩|⟨b,cap,vs,h2,c,d,f⟩
   .exact .inl ⟨h2,by rw[h.M];exact c⟩
   .subst h2;exact .inr ⟨b,cap,vs,rfl,by grind,d,λo u=>by rw[h.M,f o u]⟩
  |dz H =>
   obtain⟨ch,h1,h2,c,d⟩:=hb;refine⟨ch,h1,λb o m=>?_,c,λb g o=>by rw[h.M,d b g]⟩
   grind
  |dead=>trivial
  |loop N φ r =>
   obtain⟨l,tmps,fn,p,h1,h2,c,d,f⟩:=hb;subst h1;exact⟨l,tmps,fn,p,rfl,by grind,c,λt=>(d t).mono ex hh.len,λo=>by rw[h.M,f]⟩
  |qS =>
   obtain⟨r,h1,h2,c⟩:=hb;subst h1;exact⟨r,rfl,by grind,λo=>by rw[h.M,c]⟩
  |buf E k n es =>
   rcases hb with hb|⟨b,x,vs,i,h1,h2,c,d,f,j,y⟩
   .exact .inl hb
   .subst h1;exact .inr ⟨b,x,vs,i,rfl,by grind,c,d,f,by rw[h.M];exact j,λo=>by rw[h.M,y]⟩
 .intro L e b hb;rw[h.β] at e;exact cE (hh.lt L e b hb) h.size
 .intro b hb;rw[h.own] at hb;rw[h.β];exact⟨cE (hh.own b hb).1 h.size,(hh.own b hb).2⟩
def qv.quiet{σ:List aV}{s:St}(hh:aJ σ s):qv s s #[]:=⟨⟨σ,σ,hh,hh,.refl _ _⟩,.nil⟩
def _root_.Go.Frame.aT(b:aR)(a:Act)(todo:List Item):aR:={ b with tmps:=a.tmps,todo:=todo,defers:=a.defers++b.defers,mode:=.run }
variable {b:aR}{a:Act}{k:List Item}{cs:List aR}{w:az}{main:Bool}
def Ff(b:aR)(a:Act)(c:List Item):(b.aT a c).eval=a.eval:=by funext x;cases x <;> rfl
def Fg:aK P main (G (b.aT a (.code .skip::k)) cs) w=.go (G (b.aT a k) cs) w:=by simp[G,aK,stepG.exec,Frame.aT]
def qw{id:Nat}:aK P main (G (b.aT a (.inBlock id::k)) cs) w=.go (G (b.aT a k) cs) w:=by simp[G,aK,stepG.exec,Frame.aT]
theorem nI{x y:Code}:aK P main (G (b.aT a (.code (.seq x y)::k)) cs) w=.go (G (b.aT a (.code x::.code y::k)) cs) w:=by simp[G,aK,stepG.exec,Frame.aT]
def uX{c:an}{x y:Code}{t:Bool}(h:a.eval c=.bool t) :
  aK P main (G (b.aT a (.code (.cond c x y)::k)) cs) w=.go (G (b.aT a (.code (if t then x else y)::k)) cs) w:=by
 have d:(b.aT a (.code (.cond c x y)::k)).eval c=.bool t:=by rw[Ff];exact h
 simp only[Frame.aT] at d;simp[G,aK,stepG.exec,Frame.aT,d]
def ru{id:Nat}{c:Code}:aK P main (G (b.aT a (.code (.block id c)::k)) cs) w=.go (G (b.aT a (.code c::.inBlock id::k)) cs) w:=by simp[G,aK,stepG.exec,Frame.aT]
def Fh{c:Code}:aK P main (G (b.aT a (.code (.loop c)::k)) cs) w=.go (G (b.aT a (.code c::.inLoop c::k)) cs) w:=by simp[G,aK,stepG.exec,Frame.aT]
def yd{c:Code}:aK P main (G (b.aT a (.inLoop c::k)) cs) w=.go (G (b.aT a (.code c::.inLoop c::k)) cs) w:=by simp[G,aK,stepG.exec,Frame.aT]
def zp{id:Nat}{k':List Item}(h:exitTo id k=aa k'):aK P main (G (b.aT a (.code (.exit id)::k)) cs) w=.go (G (b.aT a k') cs) w:=by simp[G,aK,stepG.exec,Frame.aT,h]
def pP{id:Nat}{ops:Array aw}:aK P main (G (b.aT a (.code (.region id ops ae)::k)) cs) w=.go (G (b.aT a (.inRegion ops (bh ops.size)::k)) cs) w:=by simp[G,aK,stepG.exec,Frame.aT]
def lP{id:Nat}{ops:Array aw}:aK P main (G (b.aT a (.code (.region id ops ab)::k)) cs) w =
  .go (G (b.aT a (.inRegion ops (Region.schedule (P.follows .mixedOrders) ops (w.tape w.drawn (.order b.fn id)))::k)) cs) { w with drawn:=w.drawn+1 }:=by
 simp[G,aK,stepG.exec,Frame.aT,choose,Sem.run,Question.forced,Question.cut]
def iW{ops:Array aw}:aK P main (G (b.aT a (.inRegion ops []::k)) cs) w=.go (G (b.aT a k) cs) w:=by simp[G,aK,stepG.exec,Frame.aT]
def Ds(h:b.roundOf=af):aK P main (G (b.aT a (.code .ret::k)) cs) w=.go (G { b.aT a (.code .ret::k) with mode:=.returning } cs) w:=by simp[G,aK,stepG.exec,Frame.aT,h]
def Dt(h:b.roundOf=af):aK P main (G (b.aT a []) cs) w=.go (G { b.aT a [] with mode:=.returning } cs) w:=by simp[G,aK,stepG.exec,Frame.aT,h]
def j7(ops:Array aw)(i:Nat)(rest:List Nat)(v:ak) :
  (b.aT a (.inRegion ops (i::rest)::k)).finish v=b.aT (a.put ((ops[i]?).bind (·.dst)) v) (.inRegion ops rest::k):=by
 cases h:(ops[i]?).bind (·.dst) <;> simp[Frame.finish,Frame.aT,Act.put,h]
def Nb{ops:Array aw}{i:Nat}{rest:List Nat}{o:aw}(d:ops[i]?=aa o)(e:bj o (yielded ops a.tmps)=ae) :
  aK P main (G (b.aT a (.inRegion ops (i::rest)::k)) cs) w=.go (G (b.aT (a.put o.dst aj) (.inRegion ops rest::k)) cs) w:=by
 have c:=j7 (b:=b) (a:=a) (k:=k) ops i rest aj;rw[d] at c;simp only[nA] at c;rw[<-c];simp[G,aK,stepG.exec,Frame.aT,d,e]
theorem rv{ρ:an->ak}{o:aw}{c:Call}(h:o.op=.defer c){f:Next}{w':az}(e:(ay ρ o).run P w=.ok f w'):∃ d,f=.defer d:=by
 simp only[ay,h,bX] at e;cases g:(resolve ρ c o.type).run P w with
 |ok d w2=>rw[g] at e;simp at e;grind
 |halt x w2=>rw[g] at e;simp at e
def uY{ops:Array aw}{i:Nat}{rest:List Nat}{o:aw}(e:ops[i]?=aa o)(f:bj o (yielded ops a.tmps)=ab)(g:∀ c,o.op≠.defer c) :
  aK P main (G (b.aT a (.inRegion ops (i::rest)::k)) cs) w=stepG.apply P ab (b.aT a (.inRegion ops (i::rest)::k)) cs af (ay a.eval o) w:=by
 have d:=Ff b a (.inRegion ops (i::rest)::k);simp only[Frame.aT] at d;simp[G,aK,stepG.exec,stepG.oper,Frame.oper?,Frame.aT,e,f,d]
 grind
theorem I4{ops:Array aw}{i:Nat}{rest:List Nat}{o:aw}{v:ak}{w':az}(f:ops[i]?=aa o)(h:bj o (yielded ops a.tmps)=ab)
  (l:b.kind≠.early) (g:(ay a.eval o).run P w=.ok (.value v) w') :
  aK P main (G (b.aT a (.inRegion ops (i::rest)::k)) cs) w=.go (G (b.aT (a.put o.dst v) (.inRegion ops rest::k)) cs) w' (listed P b.fn a o w):=by
 have d:=j7 (b:=b) (a:=a) (k:=k) ops i rest v;rw[f] at d;simp only[nA] at d;have e:(b.kind==CallKind.early)=ae:=by grind
 rw[uY f h (λc j=>by grind [rv]),<-d]
 simp[stepG.apply,g,G,Frame.aT,e,GStep.after,listed]
theorem Fi{ops:Array aw}{i:Nat}{rest:List Nat}{o:aw}{w':az}(f:ops[i]?=aa o)(h:bj o (yielded ops a.tmps)=ab)
  (l:b.kind≠.early) (g:(ay a.eval o).run P w=.ok .skip w') :
  aK P main (G (b.aT a (.inRegion ops (i::rest)::k)) cs) w=.go (G (b.aT (a.put o.dst aj) (.inRegion ops rest::k)) cs) w' (listed P b.fn a o w):=by
 have d:=j7 (b:=b) (a:=a) (k:=k) ops i rest aj;rw[f] at d;simp only[nA] at d;have e:(b.kind==CallKind.early)=ae:=by grind
 rw[uY f h (λc j=>by grind [rv]),<-d]
 simp[stepG.apply,g,G,Frame.aT,e,GStep.after,listed]
def oM{ops:Array aw}{i:Nat}{rest:List Nat}{o:aw}{f:aW}{args:Array ak}{w':az}(g:ops[i]?=aa o)(h:bj o (yielded ops a.tmps)=ab)
  (l:b.kind≠.early) (e:(ay a.eval o).run P w=.ok (.enter f args) w') :
  aK P main (G (b.aT a (.inRegion ops (i::rest)::k)) cs) w=.go (G (Frame.enter P f args .normal) (b.aT a (.inRegion ops (i::rest)::k)::cs)) w' (listed P b.fn a o w):=by
 have d:(b.kind==CallKind.early)=ae:=by grind
 rw[uY g h (λc j=>by grind [rv])]
 simp[stepG.apply,e,G,Frame.aT,d,GStep.after,listed]
structure uq (P:aq)(f:aW)(fr:aR)(v:ak)(s:St):Prop where
 isF:fr.fn=f
 mode:fr.mode=.returning
 defers:fr.defers=[]
 kind:fr.kind=.normal
 fn:∃ fn,P.funcs[fr.fn]?=aa fn/\∀ w,(∀ b o u,s.M b o=aa u->w.cell? ⟨b,o,af⟩=aa u)->(results fn fr.tmps).run P w=.ok v w/\∀ e∈(results fn fr.tmps).events P w #[],∃ b o u,e=⟨.cell ⟨b,o,af⟩,ae,ae⟩/\s.M b o=aa u
def uq.mono{f:aW}{fr:aR}{v:ak}{s s':St}(h:uq P f fr v s)(i:∀ b o u,s.M b o=aa u->s'.M b o=aa u):uq P f fr v s':=by
 obtain⟨h1,h2,c,d,fn,e,g⟩:=h;refine⟨h1,h2,c,d,fn,e,λw j=>?_⟩
 grind
def eX.seen{s:St}{es:Array Event}{fn:aW}(h:eX s es):eX s (seen P fn es):=λe c=>h e (Go.Conc.mem_seen c)
def I5{f:aW}{g c:aR}{v:ak}{s:St}(h:uq P f g v s)(w:az)(n:∀ b o u,s.M b o=aa u->w.cell? ⟨b,o,af⟩=aa u):∃ es,aK P main (G g (c::cs)) w=.go (G (c.finish v) cs) w es/\∀ e∈es,∃ b o u,e=⟨.cell ⟨b,o,af⟩,ae,ae⟩/\s.M b o=aa u:=by
 obtain⟨fn,j,d⟩:=h.fn;obtain⟨m,i⟩:=d w n;refine⟨seen P g.fn ((results fn g.tmps).events P w #[]),?_,λe l=>i e (Go.Conc.mem_seen l)⟩
 simp[G,aK,unwind,doReturn,h.mode,h.defers,h.kind,j,m,GStep.after]
end
end
section
open Go.Conc (G)
structure cv (N:Nat)(σ:List aV)(s:St)(φ:Fr)(a:Act):Prop where
 size:a.tmps.size=N
 defers:∃ ls,oz σ s a.defers ls
 slot:∀ t,c8 σ s (a.tmps.getD t aj) (look φ t)
def cv.mono{N:Nat}{σ σ':List aV}{s s':St}{φ:Fr}{a:Act}(h:cB σ s σ' s')(hl:s.β.length=σ.length)(f:cv N σ s φ a):cv N σ' s' φ a :=
 ⟨f.size,f.defers.imp λ_ h1=>h1.mono h.ext,λt=>(f.slot t).mono h.ext hl⟩
def cv.rely{N:Nat}{σ:List aV}{s s':St}{φ:Fr}{a:Act}(h:cg s s')(hh:aJ σ s)(f:cv N σ s φ a):cv N σ s' φ a:=f.mono h.stepW hh.len
def cv.put{N:Nat}{σ:List aV}{s:St}{φ:Fr}{a:Act}(f:cv N σ s φ a){d:Nat}(c:d<N){v:ak}{x:D}(r:c8 σ s v x):cv N σ s ((d,x)::φ) (a.put (aa d) v):=by
 refine⟨by simp[Act.put,f.size],f.defers,λt=>?_⟩
 simp only[Act.put,look]
 by_cases e:d=t
 .subst e;rw[show aG d d=ab from iM d]
  have g:d<a.tmps.size:=by rw[f.size];exact c
  simp only[dC,vl g,fI,cond];exact r
 .have:aG d t=ae:=by
   grind [Nat.eq_of_beq_eq_true]
  rw[this];have h:=f.slot t;simp only[dC] at h ⊢
  grind
def oZ(φ c:Fr):Prop:=∀ σ s v t,c8 σ s v (look φ t)->c8 σ s v (look c t)
def cv.le{N:Nat}{σ:List aV}{s:St}{φ c:Fr}{a:Act}(h:oZ φ c)(f:cv N σ s φ a):cv N σ s c a :=
 ⟨f.size,f.defers,λt=>h _ _ _ _ (f.slot t)⟩
abbrev Post:=Exit->Fr->List aV->Prop
def ends{P:aq}(X:Cx P)(S:au->St->Prop)(b:aR)(k:List Item)(cs:List aR):Exit->Act->St->Prop
 |.normal,a,s=>fp X S (G (b.aT a k) cs) s
 |.exit id,a,s=>∀ pre,(∀ k',exitTo id (pre++k')=exitTo id k')->fp X S (G (b.aT a (.code (.exit id)::(pre++k))) cs) s
 |.ret,a,s=>∀ pre,fp X S (G (b.aT a (.code .ret::pre)) cs) s
 |.panic ch,a,s=>∀ c,fp X S (G { b.aT a c with mode:=.panicking ch } cs) s
 |_,_,_=>False
section
variable {P:aq}{X:Cx P}{S:au->St->Prop}{b:aR}{k:List Item}{cs:List aR}{a:Act}{s:St}
def ends.cons{x:Item}(d:∀ id k',exitTo id (x::k')=exitTo id k'){e:Exit}(c:e≠.normal)(h:ends X S b k cs e a s):ends X S b (x::k) cs e a s:=by
 cases e with
 |normal=>grind
 |exit id =>
  intro pre hp;have:=h (pre++[x]) (λk'=>by grind)
  grind
 |ret=>exact h
 |panic ch=>exact h
 |goto l=>exact h
 |outgrown=>exact h
def fp.ctl{σ:List aV}{g g':au}(hh:aJ σ s)(e:g.status=.running)(d:∀ w,aK P X.main g w=.go g' w #[])(h:∀ c,cg s c->fp X S g' c):fp X S g s :=
 .next e λc h1=>⟨g',c,#[],d c.w,.quiet (hh.rely (X.ij h1)),h c (X.ij h1)⟩
def pL{σ:List aV}{f:aW}{j c:aR}{cs:List aR}{v:ak}{s:St}(n:aJ σ s)(h:uq P f j v s)(k:∀ d,cg s d->fp X S (G (c.finish v) cs) d):fp X S (G j (c::cs)) s:=by
 refine .next rfl λd q=>?_
 have i:=X.ij q;have g:=n.rely i;obtain⟨es,p,l⟩:=I5 (main:=X.main) (c:=c) (cs:=cs) h d.w i.mem;refine⟨_,d,es,p,⟨⟨σ,σ,g,g,.refl _ _⟩,λe m=>?_⟩,k d i⟩
 obtain⟨b,o,u,rfl,r⟩:=l e m;exact⟨rfl,rfl,.inr (.inr ⟨rfl,u,by rw[i.M];exact r⟩)⟩
def we{c:Code}(I:Nat->Act->St->Prop)(i:∀ n a s,I n a s->∃ σ,aJ σ s/\∀ d,cg s d->I n a d)
  (round:∀ n a s,I n a s->(∀ a' s' m,m<n->I m a' s'->fp X S (G (b.aT a' (.inLoop c::k)) cs) s')->fp X S (G (b.aT a (.code c::.inLoop c::k)) cs) s) {n:Nat} (j:I n a s) :
  fp X S (G (b.aT a (.code (.loop c)::k)) cs) s:=by
 have key:∀ n a s,I n a s->fp X S (G (b.aT a (.inLoop c::k)) cs) s:=by
  intro n
  induction n using Nat.strongRecOn with
  |_ n o =>
   intro a s hi;obtain⟨σ,g,f⟩:=i n a s hi;exact .ctl g rfl (λw=>yd) λd h=>round n a d (f d h) λa' s' m l e=>o m l a' s' e
 obtain⟨σ,g,f⟩:=i n a s j;exact .ctl g rfl (λw=>Fh) λd h=>round n a d (f d h) λa' s' m _ e=>key m a' s' e
end
def AW{P:aq}(X:Cx P)(N:Nat)(c:Code)(Q:Post)(φ:Fr)(σ:List aV):Prop :=
 ∀ s a,cv N σ s φ a->aJ σ s->∀ (b:aR) (k:List Item) (cs:List aR) (S:au->St->Prop),b.kind≠.early ->
  (∀ e d σ' s' a',Q e d σ'->cv N σ' s' d a'->aJ σ' s'->cB σ s σ' s'->ends X S b k cs e a' s')->fp X S (G (b.aT a (.code c::k)) cs) s
def Names(all:List aw):List Nat->List aw->Prop
 |[],[]=>True
 |i::idx,o::rest=>all.toArray[i]?=aa o/\Names all idx rest
 |_,_=>False
def jC{P:aq}(X:Cx P)(N:Nat)(all rest:List aw)(Q:Fr->List aV->Prop)(φ:Fr)(σ:List aV):Prop :=
 ∀ s a,cv N σ s φ a->aJ σ s->∀ (b:aR) (k:List Item) (cs:List aR) (S:au->St->Prop) (idx:List Nat),b.kind≠.early->Names all idx rest ->
  (∀ c σ' s' a',Q c σ'->cv N σ' s' c a'->aJ σ' s'->cB σ s σ' s'->fp X S (G (b.aT a' k) cs) s')->fp X S (G (b.aT a (.inRegion all.toArray idx::k)) cs) s
section rules
variable {P:aq}{X:Cx P}{N:Nat}{Q:Post}{φ:Fr}{σ:List aV}
def AW.mono{c:Code}{f:Post}(h:AW X N c Q φ σ)(g:∀ e φ σ,Q e φ σ->f e φ σ):AW X N c f φ σ :=
 λs a j hh b k cs S hb hQ=>h s a j hh b k cs S hb λe d σ' s' a' q l i st=>hQ e d σ' s' a' (g _ _ _ q) l i st
def AW.le{c:Code}{d:Fr}(h:AW X N c Q d σ)(hl:oZ φ d):AW X N c Q φ σ :=
 λs a e hh b k cs S hb hQ=>h s a (e.le hl) hh b k cs S hb hQ
def AW.skip(h:Q .normal φ σ):AW X N .skip Q φ σ:=λs a d hh b k cs S _ e =>
 .ctl hh rfl (λ_=>Fg) λc h1=>e .normal φ σ c a h (d.rely h1 hh) (hh.rely h1) h1.stepW
def AW.ret(h:Q .ret φ σ):AW X N .ret Q φ σ:=λs a c hh b k cs S _ d=>d .ret φ σ s a h c hh (.refl _ _) k
theorem AW.exit{id:Nat}(h:Q (.exit id) φ σ):AW X N (.exit id) Q φ σ:=λs a c hh b k cs S _ d=>by
 have:=d (.exit id) φ σ s a h c hh (.refl _ _) [] (λ_=>rfl)
 grind
def FM(next:Fr->List aV->Prop)(Q:Post):Post
 |.normal,φ,σ=>next φ σ
 |e,φ,σ=>Q e φ σ
def AW.seq{x y:Code}(h:AW X N x (FM (AW X N y Q) Q) φ σ):AW X N (.seq x y) Q φ σ:=by
 intro s a j hh b k cs S hb hQ;refine .ctl hh rfl (λ_=>nI) λi h1=>?_
 refine h i a (j.rely h1 hh) (hh.rely h1) b (.code y::k) cs S hb ?_;intro e l σ' s' a' q g f st;have c:=h1.stepW.trans st;cases e with
 |normal=>exact q s' a' g f b k cs S hb λe d σ2 s2 a2 q2 f2 h2 ot=>hQ e d σ2 s2 a2 q2 f2 h2 (c.trans ot)
 |_=>exact ends.cons (λ_ _=>rfl) (by simp) (hQ _ _ _ _ _ q g f c)
theorem AW.cond{c:an}{x y:Code}{t:Bool}{u:Nat}(n:c=.tmp u)(hl:look φ u=.e (.one (.c (.bool t))))
  (p:t=ab->AW X N x Q φ σ) (m:t=ae->AW X N y Q φ σ):AW X N (.cond c x y) Q φ σ:=by
 intro s a f hh b k cs S hb hQ;have h:=f.slot u;rw[hl] at h;have j:a.eval c=.bool t:=by
  subst n;generalize j:a.tmps.getD u aj=v at h;simp only[c8,mT,gv] at h;cases h;exact j
 refine .ctl hh rfl (λ_=>uX j) λi h1=>?_
 have g:∀ e d σ' s' a',Q e d σ'->cv N σ' s' d a'->aJ σ' s'->cB σ i σ' s'->ends X S b k cs e a' s':=λe d σ' s' a' q o l st=>hQ e d σ' s' a' q o l (h1.stepW.trans st)
 cases t
 .exact m rfl i a (f.rely h1 hh) (hh.rely h1) b k cs S hb g
 .exact p rfl i a (f.rely h1 hh) (hh.rely h1) b k cs S hb g
def zU(id:Nat)(Q:Post):Post
 |.exit IV,φ,σ=>if IV=id then Q .normal φ σ else Q (.exit IV) φ σ
 |e,φ,σ=>Q e φ σ
def AW.block{id:Nat}{c:Code}(h:AW X N c (zU id Q) φ σ):AW X N (.block id c) Q φ σ:=by
 intro s a m hh b k cs S hb hQ;refine .ctl hh rfl (λ_=>ru) λj h1=>?_
 refine h j a (m.rely h1 hh) (hh.rely h1) b (.inBlock id::k) cs S hb ?_;intro e g σ' s' a' q i f st;have d:=h1.stepW.trans st;cases e with
 |normal =>
  exact .ctl f rfl (λ_=>qw) λs2 h2=>hQ .normal g σ' s2 a' q (i.rely h2 f) (f.rely h2) (d.trans h2.stepW)
 |exit IV =>
  simp only[zU] at q;split at q
  .rename_i e
   subst e;intro pre hp;refine .ctl f rfl (λ_=>zp (k':=k) (by rw[hp];simp[exitTo])) λs2 h2=>?_
   exact hQ .normal g σ' s2 a' q (i.rely h2 f) (f.rely h2) (d.trans h2.stepW)
  .rename_i n
   intro pre hp;have:=hQ (.exit IV) g σ' s' a' q i f d (pre++[.inBlock id]) (λk'=>by
    rw[j5,hp];have:(id==IV)=ae:=by grind
    simp[exitTo,this])
   grind
 |ret=>exact hQ _ _ _ _ _ q i f d
 |panic ch=>exact hQ _ _ _ _ _ q i f d
 |goto l=>exact hQ _ _ _ _ _ q i f d
 |outgrown=>exact hQ _ _ _ _ _ q i f d
def AW.loop{S:Type}{c:Code}(I:S->Prop)(fr:S->Fr)(st:S->List aV)(h:S->Nat)(x:S)(u:I x)(p:oZ φ (fr x))(m:st x=σ)
  (round:∀ x,I x->AW X N c (FM (λl σ'=>∃ y,I y/\h y<h x/\oZ l (fr y)/\σ'=st y) Q) (fr x) (st x)):AW X N (.loop c) Q φ σ:=by
 intro s a t hh b k cs S hb hQ;subst m;refine we (λn a' s'=>∃ y,I y/\cv N (st y) s' (fr y) a'/\aJ (st y) s'/\cB (st x) s (st y) s'/\h y=n) ?_ ?_ ⟨x,u,t.le p,hh,.refl _ _,rfl⟩
 .rintro n a' s' ⟨y,i,o,f,d,e⟩;exact⟨st y,f,λB h1=>⟨y,i,o.rely h1 f,f.rely h1,d.trans h1.stepW,e⟩⟩
 rintro n a' s' ⟨y,i,o,f,d,rfl⟩ A;refine round y i s' a' o f b (.inLoop c::k) cs S hb ?_;intro e v σ2 s2 a2 q r h2 ot;cases e with
 |normal =>
  obtain⟨z,w,j,g,rfl⟩:=q;exact A a2 s2 (h z) j ⟨z,w,r.le g,h2,d.trans ot,rfl⟩
 |_=>exact ends.cons (λ_ _=>rfl) (by simp) (hQ _ _ _ _ _ q r h2 (d.trans ot))
end rules
end
def dM.length{σ:List aV}{s:St}{vs:List ak}{cs:List A}(r:dM σ s vs cs):vs.length=cs.length:=by
 induction vs generalizing cs with
 |nil=>cases cs <;> simp_all [dM]
 |cons v vs ih =>
  cases cs with
  |nil=>simp[dM] at r
  |cons a cs=>simp[ih r.2]
def gv.cell{σ:List aV}{s:St}{v:ak}{a:A}(r:gv σ s v a):cX v=ab:=by
 cases a with
 |c x=>exact Rd.cell r
 |ptr l off=>obtain⟨_,_,_,_,_,rfl⟩:=r;rfl
 |vec l k n es=>exact Rd.cell r.1
 |ref l=>obtain⟨_,_,_,_,h⟩:=r;exact h
 |bp l w=>obtain⟨_,h,_⟩:=r;exact h.cell
 |any=>exact r
theorem dM.get{σ:List aV}{s:St}{vs:List ak}{cs:List A}(r:dM σ s vs cs){j:Nat}{a:A}(h:cs[j]?=aa a):∃ v,vs[j]?=aa v/\gv σ s v a:=by
 induction vs generalizing cs j with
 |nil=>cases cs <;> simp_all [dM]
 |cons v vs ih =>
  cases cs with
  |nil=>grind
  |cons b cs =>
   cases j with
   |zero=>simp at h;subst h;exact⟨v,rfl,r.1⟩
   |succ j=>simp at h;obtain⟨u,d,c⟩:=ih r.2 h;grind
def dM.cell{σ:List aV}{s:St}{vs:List ak}{cs:List A}(r:dM σ s vs cs):∀ v∈vs,v.oneCell'=ab:=by
 induction vs generalizing cs with
 |nil=>simp
 |cons v vs ih =>
  cases cs with
  |nil=>simp[dM] at r
  |cons a cs =>
   intro u b;rcases e9.1 b with rfl|b
   .have:=gv.cell r.1;cases u <;> simp_all [cX,Value.oneCell']
   .exact ih r.2 u b
def dM.append{σ:List aV}{s:St}{vs vC:List ak}{cs ma:List A}(r:dM σ s vs cs)(r':dM σ s vC ma):dM σ s (vs++vC) (cs++ma):=by
 induction vs generalizing cs with
 |nil=>cases cs <;> simp_all [dM]
 |cons v vs ih =>
  cases cs with
  |nil=>simp[dM] at r
  |cons a cs=>exact⟨r.1,ih r.2⟩
def dM.take{σ:List aV}{s:St}{vs:List ak}{cs:List A}(r:dM σ s vs cs)(k:Nat):dM σ s (vs.take k) (cs.take k):=by
 induction vs generalizing cs k with
 |nil=>cases cs <;> simp_all [dM]
 |cons v vs ih =>
  cases cs with
  |nil=>simp[dM] at r
  |cons a cs=>cases k with
   |zero=>simp[dM]
   |succ k=>exact⟨r.1,ih r.2 k⟩
def dM.drop{σ:List aV}{s:St}{vs:List ak}{cs:List A}(r:dM σ s vs cs)(k:Nat):dM σ s (vs.drop k) (cs.drop k):=by
 induction vs generalizing cs k with
 |nil=>cases cs <;> simp_all [dM]
 |cons v vs ih =>
  cases cs with
  |nil=>simp[dM] at r
  |cons a cs=>cases k with
   |zero=>exact r
   |succ k=>simpa using ih r.2 k
def aJ.block{σ:List aV}{s:St}(h:aJ σ s){b o:Nat}{v:ak}(a:s.M b o=aa v):b<s.w.heap.size:=by
 have:=h.mem b o v a;rcases cG b s.w.heap.size with h|h
 .exact h
 .simp[a9,zh h] at this
def aJ.same{σ:List aV}{s:St}(h:aJ σ s){w':az}(g:w'.heap=s.w.heap):aJ σ { s with w:=w' }:=by
 have x:∀ a,w'.cell? a=s.w.cell? a:=λa=>by simp[a9,g]
 have q:∀ v a,gv σ s v a->gv σ { s with w:=w' } v a:=λv a r=>by cases a <;> exact r
 have f:∀ vs al,dM σ s vs al->dM σ { s with w:=w' } vs al:=by
  intro vs
  induction vs with
  |nil=>intro al r;cases al <;> simp_all [dM]
  |cons v vs ih=>intro al r;cases al with
   |nil=>simp[dM] at r
   |cons a al=>exact⟨q _ _ r.1,ih _ r.2⟩
 refine⟨λb o v y=>by rw[x];exact h.mem b o v y,h.len,?_,h.gd,λL f b hb=>by show b<w'.heap.size;rw[g];exact h.lt L f b hb,λb hb=>⟨by show b<w'.heap.size;rw[g];exact(h.own b hb).1,(h.own b hb).2⟩⟩
 intro l B L m e;have:=h.box l B L m e;cases B with
 |cells E cs =>
  obtain⟨b,vs,h1,h2,c,d⟩:=this;exact⟨b,vs,h1,by grind,f _ _ c,d⟩
 |vec E k n es =>
  obtain⟨h1,h2⟩:=this;refine⟨h1,?_⟩
  grind
 |dz H =>
  obtain⟨ch,h1,h2,c,d⟩:=this;exact⟨ch,h1,λb o hb=>by grind,c,d⟩
 |dead=>trivial
 |loop N φ r =>
  obtain⟨l,tmps,fn,j,h1,h2,c,d,z⟩:=this;exact⟨l,tmps,fn,j,h1,by grind,c,λt=>c8.mono (s:=s) (σ':=σ) (s':={ s with w:=w' }) ⟨λ_ _ _ h=>h,λ_ B L h p=>⟨B,L,h,p,.refl _ _⟩⟩ h.len (d t),z⟩
 |qS =>
  obtain⟨r,h1,h2,c⟩:=this;exact⟨r,h1,by grind,c⟩
 |buf E k n es =>
  rcases this with h1|⟨b,u,vs,i,h1,h2,c⟩
  .exact .inl h1
  .exact .inr ⟨b,u,vs,i,h1,by grind,c⟩
def Step.same{σ:List aV}{s:St}{w':az}(f:w'.heap=s.w.heap)(c:w'.os=s.w.os)(e:w'.tape=s.w.tape)(d:w'.output=s.w.output):Step σ s σ { s with w:=w' } :=
 ⟨by grind,λb _ _=>by grind,λ_ _ _ h=>h,λ_ _ _ _=>rfl,λL h b hb=>.inr ⟨L,h,hb⟩,λ_ B L h a=>⟨B,L,h,a,.refl _ _⟩,c,e,d,rfl⟩
def eO.carry{σ σ':List aV}{s s':St}{B:aV}{L:Loc}(d:Ext σ s σ' s')(hl:s.β.length=σ.length)(hb:∀ b∈L.bs,s'.w.heap[b]?=s.w.heap[b]?/\∀ o,s'.M b o=s.M b o)(h:eO σ s B L):eO σ' s' B L:=by
 cases B with
 |cells E cs =>
  obtain⟨b,vs,h1,h2,a,c⟩:=h;subst h1;obtain⟨k1,f⟩:=hb b (by simp)
  exact⟨b,vs,rfl,by grind,a.mono d hl,λo=>by grind⟩
 |vec E k n es =>
  obtain⟨h1,h2⟩:=h;refine⟨h1.mono d.mem,?_⟩;rcases h2 with⟨h2,a⟩|⟨b,cap,vs,h2,a,c,e⟩
  .exact .inl ⟨h2,a.mono d.mem⟩
  grind
 |dz H =>
  obtain⟨ch,h1,h2,a,c⟩:=h;refine⟨ch,h1,λb o j=>?_,a,λb q o=>by grind⟩
  grind
 |dead=>trivial
 |loop N φ r =>
  obtain⟨l,tmps,fn,m,h1,h2,a,c,e⟩:=h;subst h1;obtain⟨k1,f⟩:=hb l (by simp)
  exact⟨l,tmps,fn,m,rfl,by grind,a,λt=>(c t).mono d hl,λo=>by grind⟩
 |qS =>
  obtain⟨r,h1,h2,a⟩:=h;subst h1;obtain⟨k1,f⟩:=hb r (by simp)
  exact⟨r,rfl,by grind,λo=>by grind⟩
 |buf E k n es =>
  rcases h with h1|⟨b,p,vs,g,h1,h2,a,c,e,i,u⟩
  .exact .inl h1
  .subst h1;obtain⟨k1,f⟩:=hb b (by simp)
   exact .inr ⟨b,p,vs,g,rfl,by grind,a,c,e,i.mono d.mem,λo=>by grind⟩
def St.fK(s:St)(E:ar)(vs:List ak):St :=
 { β:=s.β++[⟨.pointer (aa ⟨s.w.heap.size,0,af⟩),[s.w.heap.size]⟩],M:=s.M,w:=s.w.alloc (.cells vs.toArray E),own:=s.own }
theorem cJ(w:az)(o:Obj){b:Nat}(h:b<w.heap.size):(w.alloc o).heap[b]?=w.heap[b]?:=by
 show (w.heap.push o)[b]?=w.heap[b]?
 grind
theorem dt(w:az)(o:Obj):(w.alloc o).heap[w.heap.size]?=aa o:=by
 show (w.heap.push o)[w.heap.size]?=aa o;simp
def Step.fK{σ:List aV}(s:St)(E:ar)(vs:List ak)(B:aV):Step σ s (σ++[B]) (s.fK E vs):=by
 refine⟨by simp[St.fK],?_,λ_ _ _ h=>h,λ_ _ _ _=>rfl,?_,?_,rfl,rfl,rfl,rfl⟩
 .intro b hb _;exact cJ _ _ hb
 .intro L a b hb;simp only[St.fK,gA,kX] at a
  grind
 .intro l B' L c a;have hl:l<s.β.length:=(cp.1 a).1;have d:l<σ.length:=(cp.1 c).1;exact⟨B',L,by grind,by simp only[St.fK];grind,.refl _ _⟩
def aJ.fK{σ:List aV}{s:St}(h:aJ σ s){E:ar}{vs:List ak}{cs:List A}(r:dM σ s vs cs):aJ (σ++[.cells E cs]) (s.fK E vs):=by
 have st:=Step.fK (σ:=σ) s E vs (.cells E cs);have i:(s.fK E vs).w.heap.size=s.w.heap.size+1:=by simp[St.fK]
 refine⟨?_,by simp[St.fK,h.len],?_,?_,?_,?_⟩
 .intro b o v f;have hb:=h.block f;have:=h.mem b o v f;rw[<-this];simp only[a9,St.fK]
  grind [cJ]
 .intro l B L g a;rcases Nat.lt_trichotomy l σ.length with d|rfl|j
  .rw[jD d] at g;simp only[St.fK] at a;rw[jD (by rw[h.len];exact d)] at a
   refine(h.box l B L g a).carry st.ext h.len λb hb=>⟨?_,λ_=>rfl⟩
   have:=h.lt L (bT a) b hb;exact cJ _ _ this
  .simp at g;subst g;simp only[St.fK] at a;rw[gh (by rw[h.len];grind)] at a
   simp[h.len] at a;subst a;refine⟨s.w.heap.size,vs,rfl,dt _ _,r.mono st.ext h.len,λo=>?_⟩
   cases f:s.M s.w.heap.size o with
   |none=>exact f
   |some v=>have:=h.block f;omega
  grind
 .intro l l' L L' a e b hb oG;simp only[St.fK] at a e;have c:∀ l L,(s.β++[⟨.pointer (aa ⟨s.w.heap.size,0,af⟩),[s.w.heap.size]⟩])[l]?=aa L->(s.β[l]?=aa L)∨(l=s.β.length/\L.bs=[s.w.heap.size]):=by
   grind
  rcases c l L a with h1|⟨rfl,h1⟩ <;> rcases c l' L' e with h2|⟨rfl,h2⟩
  .exact h.gd l l' L L' h1 h2 b hb oG
  .have:=h.lt L (bT h1) b hb;grind
  .have:=h.lt L' (bT h2) b oG;grind
  .rfl
 .intro L a b hb;rw[i];simp only[St.fK,gA,kX] at a;rcases a with a|rfl
  .have:=h.lt L a b hb;omega
  grind
 .intro b hb;obtain⟨k,m⟩:=h.own b hb;refine⟨by grind,λL a=>?_⟩
  simp only[St.fK,gA,kX] at a
  grind
def aJ.grow{σ:List aV}{s:St}(h:aJ σ s){M':Mem}{w':az}(a:s.w.heap.size<=w'.heap.size)(f:∀ b,b<s.w.heap.size->w'.heap[b]?=s.w.heap[b]?)
  (e:∀ b,b<s.w.heap.size->∀ o,M' b o=s.M b o) (n:∀ b,s.w.heap.size<=b->∀ o v,M' b o=aa v->w'.cell? ⟨b,o,af⟩=aa v)
  (i:w'.os=s.w.os) (m:w'.tape=s.w.tape) (k:w'.output=s.w.output):aJ σ ⟨s.β,M',w',s.own⟩/\Step σ s σ ⟨s.β,M',w',s.own⟩:=by
 have st:Step σ s σ ⟨s.β,M',w',s.own⟩ :=
  ⟨a,λb hb _=>f b hb,λb o v d=>by rw[<-d];exact e b (h.block d) o,λb hb _ o=>e b hb o,λL h b hb=>.inr ⟨L,h,hb⟩,λ_ B L h g=>⟨B,L,h,g,.refl _ _⟩,i,m,k,rfl⟩
 refine⟨⟨?_,h.len,?_,h.gd,λL c b hb=>cE (h.lt L c b hb) a,λb hb=>⟨cE (h.own b hb).1 a,(h.own b hb).2⟩⟩,st⟩
 .intro b o v d;rcases cG b s.w.heap.size with hb|hb
  .have hm':s.M b o=aa v:=by grind
   rw[<-h.mem b o v hm'];simp only[a9]
   grind
  grind
 .intro l B L j c;exact(h.box l B L j c).carry st.ext h.len λb hb=>⟨f b (h.lt L (bT c) b hb),λo=>e b (h.lt L (bT c) b hb) o⟩
def aJ.write{σ:List aV}{s:St}(h:aJ σ s){l b:Nat}{L:Loc}{E:ar}{cs ma:List A}{a:List ak}(i:σ[l]?=aa (.cells E cs))(c:s.β[l]?=aa L)(f:L.bs=[b])
  (r:dM σ s a ma):aJ (σ.set l (.cells E ma)) { s with w:=s.w.setRow b a.toArray }/\Step σ s (σ.set l (.cells E ma)) { s with w:=s.w.setRow b a.toArray }:=by
 have d:l<σ.length:=(cp.1 i).1;obtain⟨j,vs,h1,h2,p,m⟩:=h.box l _ L i c;subst h1;simp at f;subst f;have st:Step σ s (σ.set l (.cells E ma)) { s with w:=s.w.setRow j a.toArray }:=by
  refine⟨by simp,?_,λ_ _ _ h=>h,λ_ _ _ _=>rfl,λL h b hb=>.inr ⟨L,h,hb⟩,?_,rfl,rfl,rfl,rfl⟩
  .intro b hb hn;exact setRow_other _ _ _ _ (λe=>hn _ (bT c) (by simp[e]))
  .intro l' B L' od gu
   by_cases e:l=l'
   .subst e;rw[i] at od;cases od;exact⟨_,L',by rw[fH d],gu,by simp[ig]⟩
   .exact⟨B,L',by grind,gu,.refl _ _⟩
 refine⟨⟨?_,by simp[h.len],?_,h.gd,λL c b hb=>by simpa using h.lt L c b hb,λb hb=>by simpa using h.own b hb⟩,st⟩
 .intro b o v n;have k:b≠j:=λe=>by grind
  rw[<-h.mem b o v n];simp only[a9]
  grind [setRow_other]
 .intro l' B L' od gu
  by_cases e:l=l'
  .subst e;rw[fH d] at od;cases od;rw[c] at gu;cases gu;exact⟨j,a,rfl,setRow_heap _ _ _ _ _ _ h2,r.mono st.ext h.len,m⟩
  .rw[iK e] at od;refine(h.box l' B L' od gu).carry st.ext h.len λb hb=>⟨setRow_other _ _ _ _ λg=>?_,λ_=>rfl⟩
   subst g;exact e (h.gd l l' _ L' c gu b (by simp) hb)
section
open Go.Conc (G)
def Q8(σ:List aV)(s:St):Next->D->Prop
 |.value v,x=>c8 σ s v x
 |.skip,x=>x=.any
 |_,_=>False
def bF(P:aq)(o:aw)(b:an->D)(σ:List aV)(x:D)(σ':List aV):Prop :=
 ∀ s ρ,aJ σ s->(∀ y,c8 σ s (ρ y) (b y))->∃ a s',(ay ρ o).run P s.w=.ok a s'.w/\Q8 σ' s' a x/\aJ σ' s'/\Step σ s σ' s'/\eX s ((ay ρ o).events P s.w #[])
def bF.nJ{P:aq}{o:aw}{a:an->D}{σ:List aV}{x:D}
  (h:∀ s ρ,aJ σ s->(∀ y,c8 σ s (ρ y) (a y))->∃ v,(ay ρ o).run P s.w=.ok (.value v) s.w/\c8 σ s v x/\eX s ((ay ρ o).events P s.w #[])):bF P o a σ x σ :=
 λs ρ hh hr=>let ⟨v,h1,h2,b⟩:=h s ρ hh hr;⟨.value v,s,h1,h2,hh,.refl _ _,b⟩
def bF.quiet{P:aq}{o:aw}{a:an->D}{σ:List aV}{x:D}
  (h:∀ s ρ,aJ σ s->(∀ y,c8 σ s (ρ y) (a y))->∃ v,(ay ρ o).run P s.w=.ok (.value v) s.w/\c8 σ s v x/\(ay ρ o).events P s.w #[]=#[]):bF P o a σ x σ :=
 λs ρ hh hr=>let ⟨v,h1,h2,b⟩:=h s ρ hh hr;⟨.value v,s,h1,h2,hh,.refl _ _,by rw[b];exact .nil⟩
def NU:IntKind->Int->Bool
 |.i64,.ofNat m=>bo m 9223372036854775807
 |.i64,.negSucc m=>bo m 9223372036854775807
 |.u8,.ofNat m=>bo m 255
 |.i32,.ofNat m=>bo m 2147483647
 |.i32,.negSucc m=>bo m 2147483647
 |.u64,.ofNat m=>bo m 18446744073709551615
 |.u32,.ofNat m=>bo m 4294967295
 |_,_=>ae
def Ra{k:IntKind}{n:Int}(h:NU k n=ab):bu k n:=by
 cases k <;> cases n <;> simp only[NU,bu] at h ⊢ <;> first|(cases h;done)|(have:=c7 h;grind)
def qg:ak->Option C
 |.int k n=>cond (NU k n) (aa (.int k n)) af
 |.bool b=>aa (.bool b)
 |.string s=>cond (bo s.size 9223372036854775807) (aa (.str s.data.toList)) af
 |.slice af 0 0=>aa (.sl ab 0 0 (λ_=>[]))
 |.pointer af=>aa .kh
 |.nilIface=>aa .nN
 |.nilFunc=>aa .zt
 |.map m=>aa (.val (.map m))
 |_=>af
theorem Rd.jI{M:Mem}{t:Bool}{k:Nat}{a:Option Addr}{es:Nat->List C}:Rd M (.slice a 0 0) (.sl t k 0 es) :=
 Rd.sl 0 0 (λ_ _=>aj) (bg _) (by omega) (λ_=>rfl) (by omega) (by omega) (by omega) (by omega)
def Rd.qg{M:Mem}{v:ak}{c:C}(h:qg v=aa c):Rd M v c:=by
 unfold AM.qg at h;split at h <;> first
  |(rename_i k n;cases hb:NU k n <;> rw[hb] at h <;> cases h;exact .int (Ra hb))
  |(rename_i s;cases hb:bo s.size 9223372036854775807 <;> rw[hb] at h <;> cases h;exact .str rfl (by rw[jh];exact c7 hb))
  |(cases h;done)
  |(cases h;exact .bool)
  |(cases h;exact Rd.jI)
  |(cases h;exact .kh)
  |(cases h;exact .nN)
  |(cases h;exact .zt)
  |(cases h;exact .val rfl)
def dOf:Option C->D
 |some c=>.e (.one (.c c))
 |none=>.any
def bZ(φ:Fr):an->D
 |.tmp t=>look φ t
 |.const v=>dOf (qg v)
 |.func f=>.e (.one (.c (.fn (.func f) [] [])))
 |.global _=>.any
theorem dN{N:Nat}{σ:List aV}{s:St}{φ:Fr}{a:Act}(f:cv N σ s φ a)(y:an):c8 σ s (a.eval y) (bZ φ y):=by
 cases y with
 |tmp t=>exact f.slot t
 |const v =>
  simp only[bZ,Act.eval];cases h:qg v with
  |none=>trivial
  |some c=>exact Rd.qg h
 |func g =>
  exact Rd.fn [] [] rfl rfl (λ_=>aj) (λ_=>aj) (by simp) (by simp) (by simp) (by simp)
 |global g=>trivial
def lA:Option Nat->D->Fr->Fr
 |some t,x,φ=>(t,x)::φ
 |none,_,φ=>φ
def zO{P:aq}{X:Cx P}{S:au->St->Prop}{b:aR}{k:List Item}{cs:List aR}{a:Act}{s:St}{ops:Array aw}{i:Nat}{rest:List Nat}{o:aw}(l:b.kind≠.early)(n:ops[i]?=aa o)(p:bj o (yielded ops a.tmps)=ab)
  (h:∀ c,cg s c->∃ d s' v,(ay a.eval o).run P c.w=.ok d s'.w/\(d=.value v∨(d=.skip/\v=aj))/\qv c s' ((ay a.eval o).events P c.w #[])/\fp X S (G (b.aT (a.put o.dst v) (.inRegion ops rest::k)) cs) s') :
  fp X S (G (b.aT a (.inRegion ops (i::rest)::k)) cs) s:=by
 refine .next rfl λc j=>?_
 obtain⟨d,s',v,m,g,e,f⟩:=h c (X.ij j);refine⟨_,s',Go.Conc.listed P b.fn a o c.w,?_,⟨e.1,e.2.seen⟩,f⟩
 grind [I4,Fi]
theorem bF.move{P:aq}{o:aw}{a:an->D}{σ:List aV}{x:an}(h:o.op=.move x):bF P o a σ (a x) σ :=
 .quiet λs ρ _ b=>⟨ρ x,by simp[ay,h,pure],b x,by simp[ay,h]⟩
theorem bF.assign{P:aq}{o:aw}{a:an->D}{σ:List aV}{x:an}(h:o.op=.assign x):bF P o a σ (a x) σ :=
 .quiet λs ρ _ b=>⟨ρ x,by simp[ay,h,pure],b x,by simp[ay,h]⟩
def fx{σ:List aV}{s:St}{v:ak}{c:C}(h:c8 σ s v (.e (.one (.c c)))):Rd s.M v c:=h
def bF.pick{P:aq}{o:aw}{d:an->D}{σ:List aV}{c a b:an}(h:o.op=.pick c a b){t:Bool}(i:d c=.e (.one (.c (.bool t)))) :
  bF P o d σ (match t with|true=>d a|false=>d b) σ:=by
 refine .quiet λs ρ _ g=>?_
 have h1:=g c;rw[i] at h1;have h2:=fx h1;generalize f:ρ c=v at h2;cases h2;cases t
 .exact⟨ρ b,by simp[ay,h,f,asBool],g b,by simp[ay,h,f,asBool]⟩
 .exact⟨ρ a,by simp[ay,h,f,asBool],g a,by simp[ay,h,f,asBool]⟩
def J8(op:BinOp)(k:IntKind) (x y:Int):Option (C×List Prop) :=
 match op with
 |.add=>aa (.int k (x+y),[bu k (x+y)])
 |.sub=>aa (.int k (x-y),[bu k (x-y)])
 |.mul=>aa (.int k (x*y),[bu k (x*y)])
 |.quo=>aa (.int k (x / y),[0<=x,0<y])
 |.rem=>aa (.int k (x % y),[0<=x,0<y])
 |.eql=>aa (.bool (x==y),[])
 |.neq=>aa (.bool (x != y),[])
 |.lss=>aa (.bool (decide (x<y)),[])
 |.leq=>aa (.bool (decide (x<=y)),[])
 |.gtr=>aa (.bool (decide (y<x)),[])
 |.geq=>aa (.bool (decide (y<=x)),[])
 |_=>af
def J9(op:BinOp)(x y:List UInt8):Option (C×List Prop) :=
 match op with
 |.add=>aa (.str (x++y),[x.length+y.length<=9223372036854775807])
 |.eql=>aa (.bool (x==y),[])
 |.neq=>aa (.bool (!(x==y)),[])
 |.lss=>aa (.bool (bl x y),[])
 |.leq=>aa (.bool (bl x y||x==y),[])
 |.gtr=>aa (.bool (!(bl x y||x==y)),[])
 |.geq=>aa (.bool (!(bl x y)),[])
 |_=>af
def ag:List Prop->Prop
 |[]=>True
 |[p]=>p
 |p::q::r=>p/\ag (q::r)
def ag.cons{p:Prop}{r:List Prop}:ag (p::r)↔p/\ag r:=by cases r <;> simp[ag]
theorem mj{k:IntKind}{n:Int}(h:bu k n):k.wrap n=n:=by
 cases k <;> simp only[bu,IntKind.wrap,IntKind.bits,IntKind.signed] at h ⊢ <;> simp <;> (try split) <;> omega
def Ka{P:aq}{w:az}{op:BinOp}{k:IntKind}{x y:Int}{c:C}{obs:List Prop}(h:J8 op k x y=aa (c,obs))(a:ag obs)(l:bu k x)(j:bu k y)(t:ar)(M:Mem) :
  ∃ v,(binOp op t (.int k x) (.int k y)).run P w=.ok v w/\Rd M v c:=by
 cases op <;> simp only[J8,de,k7,reduceCtorEq] at h
 case add=>obtain⟨rfl,rfl⟩:=h;exact⟨_,by simp only[binOp,cT,ft,b9,Op.intArith,mj a];rfl,.int a⟩
 case sub=>obtain⟨rfl,rfl⟩:=h;exact⟨_,by simp only[binOp,cT,ft,b9,Op.intArith,mj a];rfl,.int a⟩
 case mul=>obtain⟨rfl,rfl⟩:=h;exact⟨_,by simp only[binOp,cT,ft,b9,Op.intArith,mj a];rfl,.int a⟩
 case quo =>
  obtain⟨rfl,rfl⟩:=h;obtain⟨d,b⟩:=a
  replace b:0<y:=b
  have e:x.tdiv y=x / y:=Int.tdiv_eq_ediv_of_nonneg d;have f:bu k (x / y):=by
   have g:0<=x / y:=Int.ediv_nonneg d (by omega)
   have i:x / y<=x:=Int.ediv_le_self _ d;cases k <;> simp only[bu] at l ⊢ <;> omega
  exact⟨_,by simp only[binOp,cT,ft,b9,Op.intDiv,show y≠0 by omega,e,mj f];rfl,.int f⟩
 case rem =>
  obtain⟨rfl,rfl⟩:=h;obtain⟨d,b⟩:=a
  replace b:0<y:=b
  have e:x.tmod y=x % y:=Int.tmod_eq_emod_of_nonneg d;have f:bu k (x % y):=by
   have g:0<=x % y:=ri _ (by omega)
   have i:x % y<y:=ra _ b;cases k <;> simp only[bu] at j ⊢ <;> omega
  exact⟨_,by simp only[binOp,cT,ft,b9,Op.intDiv,show y≠0 by omega,e];rfl,.int f⟩
 all_goals (obtain⟨rfl,rfl⟩:=h;exact⟨_,by simp only[binOp,cT,ft,b9,Op.intCmp,gt_iff_lt,ge_iff_le];rfl,.bool⟩)
def Kb{P:aq}{w:az}{op:BinOp}{x y:ByteArray}{a b:List UInt8}{c:C}{obs:List Prop}(h:J9 op a b=aa (c,obs))(d:ag obs)(j:x.data.toList=a)(i:y.data.toList=b)(t:ar)(M:Mem) :
  ∃ v,(binOp op t (.string x) (.string y)).run P w=.ok v w/\Rd M v c:=by
 subst j i;cases op <;> simp only[J9,de,k7,reduceCtorEq] at h
 case add =>
  obtain⟨rfl,rfl⟩:=h;have f:¬((x.size+y.size:Nat):Int)>IntKind.i64.max:=by
   have l:x.data.toList.length=x.size:=jh;have k:y.data.toList.length=y.size:=jh;have e:IntKind.i64.max=9223372036854775807:=rfl;have g:x.data.toList.length+y.data.toList.length<=9223372036854775807:=d
   grind
  refine⟨_,by simp only[binOp,Op.stringOp,f,b9];rfl,.str (by simp) (by simpa[ag] using d)⟩
 all_goals (obtain⟨rfl,rfl⟩:=h;exact⟨_,by simp only[binOp,Op.stringOp,ByteArray.toList_eq];rfl,.bool⟩)
def NV{P:aq}{w:az}{op:BinOp}{k:IntKind}{x y:Int}{c:C}{obs:List Prop}(h:J8 op k x y=aa (c,obs))(b:ag obs)(t:ar) :
  (binOp op t (.int k x) (.int k y)).events P w #[]=#[]:=by
 cases op <;> simp only[J8,de,k7,reduceCtorEq] at h
 case quo =>
  obtain⟨rfl,rfl⟩:=h;obtain⟨d,a⟩:=b
  replace a:0<y:=a
  simp only[binOp,cT,ft,b9,Op.intDiv,show y≠0 by omega];rfl
 case rem =>
  obtain⟨rfl,rfl⟩:=h;obtain⟨d,a⟩:=b
  replace a:0<y:=a
  simp only[binOp,cT,ft,b9,Op.intDiv,show y≠0 by omega];rfl
 all_goals (simp only[binOp,cT,ft,b9,Op.intCmp,Op.intArith];rfl)
def NW{P:aq}{w:az}{op:BinOp}{x y:ByteArray}{a b:List UInt8}{c:C}{obs:List Prop}(h:J9 op a b=aa (c,obs))(d:ag obs)(j:x.data.toList=a)(i:y.data.toList=b)(t:ar) :
  (binOp op t (.string x) (.string y)).events P w #[]=#[]:=by
 subst j i;cases op <;> simp only[J9,de,k7,reduceCtorEq] at h
 case add =>
  obtain⟨rfl,rfl⟩:=h;have f:¬((x.size+y.size:Nat):Int)>IntKind.i64.max:=by
   have l:x.data.toList.length=x.size:=jh;have k:y.data.toList.length=y.size:=jh;have e:IntKind.i64.max=9223372036854775807:=rfl;have g:x.data.toList.length+y.data.toList.length<=9223372036854775807:=d
   grind
  simp only[binOp,Op.stringOp,f,b9];rfl
 all_goals (simp only[binOp,Op.stringOp];rfl)
def G4:IntKind->IntKind->Bool
 |.i8,.i8|.i16,.i16|.i32,.i32|.i64,.i64|.u8,.u8|.u16,.u16|.u32,.u32|.u64,.u64=>ab
 |_,_=>ae
def zX{k k':IntKind}(h:G4 k k'=ab):k=k':=by cases k <;> cases k' <;> first|rfl|(cases h;done)
def Nt(op:BinOp):C->C->Option (C×List Prop)
 |.int k x,.int k' y=>cond (G4 k k') (J8 op k x y) af
 |.str a,.str b=>J9 op a b
 |_,_=>af
def gy{P:aq}(op:BinOp)(t:ar)(x y:an)(k k':IntKind) (n a:Int)(u:az):(eqGuard op t x y (.int k n) (.int k' a)).run P u=.ok () u:=by cases op <;> rfl
def tP{P:aq}(op:BinOp)(t:ar)(x y:an)(a b:ByteArray)(u:az):(eqGuard op t x y (.string a) (.string b)).run P u=.ok () u:=by cases op <;> rfl
def jJ{P:aq}(op:BinOp)(t:ar)(x y:an)(k k':IntKind) (n a:Int)(u:az)(es:Array Event):(eqGuard op t x y (.int k n) (.int k' a)).events P u es=es:=by cases op <;> rfl
def wo{P:aq}(op:BinOp)(t:ar)(x y:an)(a b:ByteArray)(u:az)(es:Array Event):(eqGuard op t x y (.string a) (.string b)).events P u es=es:=by cases op <;> rfl
theorem bF.binOp{P:aq}{o:aw}{j:an->D}{σ:List aV}{op:BinOp}{t ty:ar}{x y:an}(h:o.op=.binOp op t x y ty){a b c:C}{obs:List Prop}
  (z:j x=.e (.one (.c a))) (hb:j y=.e (.one (.c b))) (g:Nt op a b=aa (c,obs)) (i:ag obs):bF P o j σ (.e (.one (.c c))) σ:=by
 refine .quiet λs ρ _ q=>?_
 have h1:=q x;have h2:=q y;rw[z] at h1;rw[hb] at h2
 replace h1:=fx h1
 replace h2:=fx h2
 generalize d:ρ x=vx at h1;generalize f:ρ y=vy at h2;cases h1 <;> cases h2 <;> simp only[Nt,reduceCtorEq] at g
 case int.int k n hn k' n' WE =>
  cases r:G4 k k' <;> simp only[r,cond,reduceCtorEq] at g
  cases zX r;obtain⟨v,m,p⟩:=Ka (P:=P) (w:=s.w) g i hn WE t s.M;exact⟨v,by simp only[ay,h,bX,d,f,gy,b8,m,cW],p,by simp[ay,h,d,f,gy,jJ,NV g i]⟩
 case str.str =>
  rename_i A l u hl y' l' hy Bb
  obtain⟨v,m,p⟩:=Kb (P:=P) (w:=s.w) g i u hy t s.M;exact⟨v,by simp only[ay,h,bX,d,f,tP,b8,m,cW],p,by simp[ay,h,d,f,tP,wo,NW g i u hy]⟩
def VW(op:UnOp):C->Option C
 |.bool b=>match op with|.not=>aa (.bool (!b))|_=>af
 |_=>af
theorem bF.unOp{P:aq}{o:aw}{f:an->D}{σ:List aV}{op:UnOp}{t:ar}{x:an}(h:o.op=.unOp op t x){a c:C}
  (g:f x=.e (.one (.c a))) (d:VW op a=aa c):bF P o f σ (.e (.one (.c c))) σ:=by
 refine .quiet λs ρ _ i=>?_
 have h1:=i x;rw[g] at h1
 replace h1:=fx h1
 generalize b:ρ x=vx at h1;cases h1 <;> simp only[VW,reduceCtorEq] at d
 cases op <;> simp only[reduceCtorEq,de] at d
 subst d;exact⟨_,by simp only[ay,h,b,Op.unary,bX,cW,b8],Rd.bool,by simp[ay,h,b,Op.unary]⟩
theorem gI.get{σ:List aV}{s:St}{vs:List ak}{xs:List E1}(r:gI σ s vs xs){j:Nat}{x:E1}(h:xs[j]?=aa x):∃ v,vs[j]?=aa v/\mT σ s v x:=by
 induction vs generalizing xs j with
 |nil=>cases xs <;> simp_all [gI]
 |cons v vs ih =>
  cases xs with
  |nil=>grind
  |cons b cs =>
   cases j with
   |zero=>simp at h;subst h;exact⟨v,rfl,r.1⟩
   |succ j=>simp at h;obtain⟨u,c,a⟩:=ih r.2 h;grind
theorem bF.extract{P:aq}{o:aw}{c:an->D}{σ:List aV}{x:an}{j:Nat}(h:o.op=.extract x j){xs:List E1}{e:E1}
  (d:c x=.eJ xs) (i:xs[j]?=aa e):bF P o c σ (.e e) σ:=by
 refine .quiet λs ρ _ f=>?_
 have h1:=f x;rw[d] at h1;obtain⟨vs,k,g⟩:=h1;obtain⟨v,a,b⟩:=g.get i;refine⟨v,?_,b,?_⟩ <;> simp[ay,h,k,Instr.extract,a]
end
def zo (b o:Nat):Event:=⟨.cell ⟨b,o,af⟩,ae,ae⟩
def GK (b o:Nat):Event:=⟨.cell ⟨b,o,af⟩,ab,ae⟩
theorem dg (b o n:Nat):(⟨b,o,af⟩:Addr).add n=⟨b,o+n,af⟩:=by
  unfold Addr.add;split <;> simp_all
section
variable {P:aq}
def zr {w:az} {b o:Nat} {v:ak} (h:w.cell? ⟨b,o,af⟩=aa v) (es:Array Event):(load ⟨b,o,af⟩).events P w es=es.push (zo b o):=by
  rw[events_load,h];rfl
def m8 {w:az} {b o:Nat}:∀ (n i:Nat) (acc:Array ak) (es:Array Event),(∀ j,j<n->∃ v,w.cell? ⟨b,o+(i+j),af⟩=aa v) ->
    ∀ e∈(loadCellsFrom ⟨b,o,af⟩ i n acc).events P w es,e∈es∨∃ j,j<i+n/\e=zo b (o+j)
  | 0,i,acc,es,_=>λe h=>.inl (by simpa[loadCellsFrom] using h)
  | n+1,i,acc,es,c=>λe h=>by
    obtain⟨v,a⟩:=c 0 (by omega)
    simp only[iN] at a;simp only[loadCellsFrom,aO,dg,run_load,a,aU,zr a] at h;rcases m8 n (i+1) (acc.push v) _ (λj d=>by grind) e h with f|⟨j,d,rfl⟩
    · grind
    grind
def rr {w:az} {b o n:Nat} {es:Array Event} (h:∀ j,j<n->∃ v,w.cell? ⟨b,o+j,af⟩=aa v):∀ e∈(loadCells ⟨b,o,af⟩ n).events P w es,e∈es∨∃ j,j<n/\e=zo b (o+j):=by
  intro e a;have:=m8 (P:=P) n 0 #[] es (by grind) e a
  grind
def eE {b o:Nat} {t:ar}:∀ (vs:List ak) (i:Nat) (a:Array ak) (w:az) (es:Array Event),w.heap[b]?=aa (.cells a t (0,0))->o+i+vs.length<=a.size->(∀ v∈vs,v.oneCell'=ab) ->
    ∀ e∈(storeCells ⟨b,o,af⟩ vs i).events P w es,e∈es∨∃ j,i<=j/\j<i+vs.length/\e=GK b (o+j)
  | [],_,_,_,_,_,_,_=>λe h=>.inl (by simpa[storeCells] using h)
  | v::rest,i,a,w,es,f,n,l=>λe h=>by
    have hi:o+i<a.size:=by grind
    have c:w.cell? ⟨b,o+i,af⟩=aa a[o+i]:=by simp[a9,f,hi]
    have d:w.frozen? ⟨b,o+i,af⟩=ae:=by simp[World.frozen?,f]
    have g:(store (⟨b,o+i,af⟩:Addr) v).run P w=.ok () (w.setRow b (a.setIfInBounds (o+i) v)):=by
      grind [run_store,setCell_eq_setRow]
    have k:(store (⟨b,o+i,af⟩:Addr) v).events P w es=es.push (GK b (o+i)):=by
      rw[events_store P w es _ v _ (l v (by simp)),c]
      simp only[d,jE,b9];rfl
    simp only[storeCells,aO,dg,g,k,aU] at h;rcases eE rest (i+1) (a.setIfInBounds (o+i) v) _ _ (setRow_heap _ _ _ _ _ _ f) (by grind) (λu r=>l u (by grind)) e h with m|⟨j,p,q,rfl⟩
    · grind
    grind
def cN {α:Type} (P:aq) (m:Sem α):Prop:=∀ w es,m.events P w es=es
def cN.bind {α β:Type} {m:Sem α} {f:α->Sem β} (h:cN P m) (k:∀ a,cN P (f a)):cN P (m >>= f):=by
  intro w es;rw[aO,h w es];cases m.run P w with
  | ok a w'=>exact k a w' es
  | halt x w'=>rfl
def cN.pure {α:Type} {a:α}:cN P (Pure.pure a:Sem α):=λ_ _=>rfl
def cN.stuck {α:Type} {a:String}:cN P (Go.stuck a:Sem α):=λ_ _=>rfl
def cN.unsupported {α:Type} {u:Unsupported}:cN P (Go.unsupported u:Sem α):=λ_ _=>rfl
def cN.sizeOf {t:ar}:cN P (sizeOf t):=λ_ _=>events_sizeOf ..
def cN.underlying {t:ar}:cN P (underlying t):=λ_ _=>events_underlying ..
def cN.zeroValue {t:ar}:cN P (zeroValue t):=λ_ _=>events_zeroValue ..
def cN.newObj {o:Obj}:cN P (newObj o):=λ_ _=>rfl
def cN.newRow {t:ar} {c:Array ak}:cN P (newRow t c):=.bind .newObj λ_=>.pure
def cN.Py {α β:Type} {f:α->Sem β} (h:∀ a,cN P (f a)):∀ l:List α,cN P (l.mapM f)
  | []=>by rw[List.mapM_nil];exact .pure
  | a::l=>by rw[lz];exact .bind (h a) λ_=>.bind (cN.Py h l) λ_=>.pure
def cN.map {α β:Type} {f:α->β} {m:Sem α} (h:cN P m):cN P (Functor.map f m):=λw es=>by rw[Sem.events_map];exact h w es
def cN.TQ {α β:Type} {f:α->Sem β} (h:∀ a,cN P (f a)) (l:Array α):cN P (l.mapM f):=by
  rw[qt];exact .map (.Py h _)
def cN.Jx {α β:Type} {F:α->β->Sem (ForInStep β)} (h:∀ a b,cN P (F a b)):∀ (l:List α) (b:β),cN P (forIn l b F)
  | [],b=>by rw[List.forIn_nil];exact .pure
  | a::l,b=>by
    rw[List.forIn_cons];refine .bind (h a b) λr=>?_
    cases r with
    | done b=>exact .pure
    | yield b=>exact cN.Jx h l b
theorem cN.build {t:ar} {parts:Array (Nat×ak)}:cN P (Instr.build t parts):=by
  unfold Instr.build;refine .bind .zeroValue λz=>.bind .underlying λd=>?_
  cases d <;> first
    | exact .stuck
    | (refine .bind (.TQ (λ_=>.bind .sizeOf λ_=>.pure) _) λpl=>?_
       split
       · exact .pure
       · exact .stuck)
    | (refine .bind .sizeOf λn=>?_
       split
       · exact .pure
       · exact .stuck)
theorem cN.buildSlice {t:ar} {n:Nat} {parts:Array (Nat×ak)}:cN P (Instr.buildSlice t n parts):=by
  unfold Instr.buildSlice;refine .bind .underlying λd=>?_
  cases d <;> first
    | exact .stuck
    | (refine .bind .sizeOf λm=>?_
       dsimp only
       have hj:∀ (elem:ar) (zero:Array ak),cN P (match Instr.fill (λi=>aa (i*m,m)) (Array.map (λx=>zero[x % zero.size]!) (Array.range (n*m))) parts.toList with
          | some cells=>do
            let a<-Go.newRow elem cells
            Pure.pure (Value.slice (aa a) n n)
          | _=>Go.stuck "buildSlice: a part of the wrong size"):=by
         intro elem zero;split
         · exact .bind .newRow λ_=>.pure
         · exact .stuck
       by_cases b:n*m=0
       · simp only[b,cq]
         rw[b] at hj;split
         · grind
         · exact .bind .pure λz=>hj _ z
       · simp only[b,b9]
         split
         · exact .bind .unsupported λ_=>.bind .zeroValue λz=>.bind .pure λz=>hj _ z
         · exact .bind .zeroValue λz=>.bind .pure λz=>hj _ z)
def rz {s:St} {b o:Nat} {L:Loc} (c:L∈s.β) (a:b∈L.bs):ov s (zo b o):=⟨rfl,rfl,.inr (.inl ⟨⟨L,c,a⟩,λh=>by cases h⟩)⟩
def Bf {s:St} {b o:Nat} {v:ak} (h:s.M b o=aa v):ov s (zo b o):=⟨rfl,rfl,.inr (.inr ⟨rfl,v,h⟩)⟩
theorem mh {s:St} {b o:Nat} {L:Loc} (c:L∈s.β) (a:b∈L.bs) (d:s.M b o=af):ov s (GK b o):=⟨rfl,rfl,.inr (.inl ⟨⟨L,c,a⟩,λ_=>d⟩)⟩
end
structure TI where
 size:Nat
 bytes:Nat
 agg:Bool
 desc:TypeDesc
 zero:List C
 eq:List TypeDesc:=[]
def qH:TypeDesc->ak->ak->Option Bool
 |.int _,.int k a,.int k' b=>if k=k' then aa (a==b) else af
 |.string,.string a,.string b=>aa (a.toList==b.toList)
 |.bool,.bool a,.bool b=>aa (a==b)
 |_,_,_=>af
def jP:List TypeDesc->List ak->List ak->Option Bool
 |[],[],[]=>aa ab
 |d::ds,v::vs,w::ws=>match qH d v w with
  |some a=>match jP ds vs ws with
   |some b=>aa (a&&b)
   |none=>af
  |none=>af
 |_,_,_=>af
def Kc:TypeDesc->Bool
 |.struct _|.array _ _=>ab
 |_=>ae
structure bG (P:aq)(t:ar)(i:TI):Prop where
 SW:P.underlying t=aa i.desc
 agg:Kc i.desc=i.agg
 info:∃ inf z,P.info? t=aa inf/\inf.size=i.size/\inf.bytes=i.bytes/\inf.zero=aa z/\z.cells.toList.map qg=i.zero.map aa/\(∃ cs,z=if i.agg then .agg cs else z)/\i.zero.length=i.size
 eqs:i.eq≠[]->P.eqGuardType P.depth t=ae/\∀ (w:az) (vs ws:List ak) (b:Bool),jP i.eq vs ws=aa b->(Op.equal t (.agg vs.toArray) (.agg ws.toArray)).run P w=.ok b w/\∀ es,(Op.equal t (.agg vs.toArray) (.agg ws.toArray)).events P w es=es
def bE:List (Nat×TI)->Nat->Option TI
 |[],_=>af
 |(i,d)::r,t=>cond (aG i t) (aa d) (bE r t)
def db(P:aq)(T:List (Nat×TI)):Prop:=∀ t i,bE T t=aa i->bG P t i
section
variable {P:aq}{w:az}{t:ar}{i:TI}
def bG.run_underlying(h:bG P t i):(underlying t).run P w=.ok i.desc w:=by
 simp[underlying,h.SW]
def bG.j9(h:bG P t i):(isAgg t).run P w=.ok i.agg w:=by
 have:=h.agg;unfold Go.isAgg;rw[bX,h.run_underlying];cases a:i.desc <;> rw[a] at this <;> simp[Kc] at this <;> simp[this]
def bG.run_sizeOf(h:bG P t i):(sizeOf t).run P w=.ok i.size w:=by
 obtain⟨a,z,h1,h2,_⟩:=h.info;simp[sizeOf,typeInfo,h1,h2]
def kH{σ:List aV}{s:St}:∀ {vs:List ak}{cs:List C},vs.map qg=cs.map aa->dM σ s vs (cs.map A.c)
 |[],[],_=>trivial
 |[],_::_,h=>by grind
 |_::_,[],h=>by grind
 |v::vs,c::cs,h=>by
  simp only[rl,List.cons.injEq] at h;exact⟨Rd.qg h.1,kH h.2⟩
def bG.BU(h:bG P t i)(σ:List aV)(s:St):∃ z,(zeroValue t).run P w=.ok z w/\dM σ s z.cells.toList (i.zero.map A.c):=by
 obtain⟨a,z,h1,h2,e,b,d,_⟩:=h.info;exact⟨z,by simp[zeroValue,typeInfo,h1,b],kH d⟩
end
def mO:D->Option (List A)
 |.e (.one a)=>aa [a]
 |.e (.agg cs)=>aa cs
 |_=>af
theorem mV{σ:List aV}{s:St}{v:ak}{d:D}{cs:List A}(h:mO d=aa cs)(r:c8 σ s v d):dM σ s v.cells.toList cs:=by
 cases d with
 |e x =>
  cases x with
  |one a =>
   cases h;have:=gv.cell r;cases v <;> first|exact⟨r,av⟩|cases this
  |agg c =>
   cases h;obtain⟨vs,rfl,b⟩:=r;simpa[Value.cells] using b
 |eJ xs=>cases h
 |any=>cases h
def bF.newVar{P:aq}{o:aw}{a:an->D}{σ:List aV}{E:ar}{cs:List A}
  (h:∀ s ρ,aJ σ s->(∀ y,c8 σ s (ρ y) (a y))->∃ v:ak,(ay ρ o).run P s.w=((do pure (.value (.pointer (aa (<-newVar E v))))):Sem Next).run P s.w/\dM σ s v.cells.toList cs/\(ay ρ o).events P s.w #[]=#[]) :
  bF P o a σ (.e (.one (.ptr σ.length 0))) (σ++[.cells E cs]):=by
 intro s ρ hh hr;obtain⟨v,h1,h2,b⟩:=h s ρ hh hr;refine⟨.value (.pointer (aa ⟨s.w.heap.size,0,af⟩)),s.fK E v.cells.toList,?_,?_,hh.fK h2,.fK s E _ _,by rw[b];exact .nil⟩
 .rw[h1];simp[Go.newVar,newRow,St.fK]
 .refine⟨by simp,⟨.pointer (aa ⟨s.w.heap.size,0,af⟩),[s.w.heap.size]⟩,s.w.heap.size,?_,rfl,rfl⟩
  simp[St.fK,<-hh.len]
theorem bF.alloc{P:aq}{T:List (Nat×TI)}(f:db P T){o:aw}{b:an->D}{σ:List aV}{E:ar}(h:o.op=.alloc E){i:TI}(hi:bE T E=aa i) :
  bF P o b σ (.e (.one (.ptr σ.length 0))) (σ++[.cells E (i.zero.map A.c)]):=by
 refine .newVar λs ρ _ _=>?_
 obtain⟨z,a,d⟩:=(f E i hi).BU (w:=s.w) σ s;exact⟨z,by simp[ay,h,Instr.alloc,a],d,by simp[ay,h,Instr.alloc,a,Go.newVar,newRow]⟩
theorem bF.box{P:aq}{o:aw}{a:an->D}{σ:List aV}{E:ar}{x:an}(h:o.op=.box E x){cs:List A}(b:mO (a x)=aa cs) :
  bF P o a σ (.e (.one (.ptr σ.length 0))) (σ++[.cells E cs]) :=
 .newVar λs ρ _ c=>⟨ρ x,by simp[ay,h,Instr.box],mV b (c x),by simp[ay,h,Instr.box,Go.newVar,newRow]⟩
def og{α:Type}:Nat->List α->Option (List α)
 |0,_=>aa []
 |n+1,x::xs=>match og n xs with|some r=>aa (x::r)|none=>af
 |_+1,[]=>af
def mY{α:Type}:∀ {n:Nat}{l r:List α},og n l=aa r->r=l.take n/\r.length=n
 |0,l,r,h=>by cases h;simp
 |n+1,[],r,h=>by simp[og] at h
 |n+1,x::xs,r,h=>by
  simp only[og] at h;cases a:og n xs with
  |none=>grind
  |some q =>
   simp[a] at h;subst h;obtain⟨b,c⟩:=mY a
   grind
def fu{α:Type}:Nat->List α->Option α
 |_,[]=>af
 |0,x::_=>aa x
 |n+1,_::xs=>fu n xs
theorem dw{α:Type}:∀ {n:Nat}{l:List α}{x:α},fu n l=aa x->l[n]?=aa x
 |_,[],_,h=>by simp[fu] at h
 |0,x::_,_,h=>by simpa[fu] using h
 |n+1,_::xs,_,h=>by simpa using dw (n:=n) (l:=xs) h
def hI{α:Type}:Nat->List α->List α
 |0,l=>l
 |_+1,[]=>[]
 |n+1,_::xs=>hI n xs
def nb{α:Type}:∀ (n:Nat)(l:List α),hI n l=l.drop n
 |0,_=>by simp[hI]
 |_+1,[]=>by simp[hI]
 |n+1,_::xs=>by simp[hI,nb n xs]
def mX(i:TI)(cs:List A):Option E1 :=
 match i.agg with
 |true=>match og i.size cs with|some r=>aa (.agg r)|none=>af
 |false=>match fu 0 cs with|some a=>aa (.one a)|none=>af
def o5{P:aq}{σ:List aV}{s:St}{t:ar}{i:TI}(l:bG P t i){b off:Nat}{vs:List ak}{cs:List A}{e:E1}
  (q:∀ (j:Nat) (v:ak),vs[j]?=aa v->s.w.cell? ⟨b,off+j,af⟩=aa v) (k:dM σ s vs cs) (f:mX i cs=aa e) :
  ∃ v,(loadVar t ⟨b,off,af⟩).run P s.w=.ok v s.w/\mT σ s v e:=by
 simp only[loadVar,bX,l.j9,b8];cases m:i.agg <;> simp only[mX,m] at f
 .cases d:fu 0 cs with
  |none=>grind
  |some a =>
   simp[d] at f;subst f;obtain⟨v,u,h⟩:=k.get (dw d);refine⟨v,?_,h⟩
   grind [run_load]
 .cases d:og i.size cs with
  |none=>grind
  |some r =>
   simp[d] at f;subst f;obtain⟨p,n⟩:=mY d;have c:=k.take i.size;rw[<-p] at c;have o:(vs.take i.size).length=i.size:=by rw[c.length,n]
   have g:=run_loadCells_list (P:=P) s.w ⟨b,off,af⟩ (vs.take i.size) (λj v x=>by
    grind [dg])
   rw[o] at g;refine⟨.agg (vs.take i.size).toArray,?_,vs.take i.size,rfl,c⟩;simp[l.run_sizeOf,g]
def kg{P:aq}{w:az}{t:ar}{i:TI}(f:bG P t i){b off n:Nat}(g:∀ j,j<n->∃ v,w.cell? ⟨b,off+j,af⟩=aa v)(c:(if i.agg then i.size else 1)<=n) :
  ∀ e∈(loadVar t ⟨b,off,af⟩).events P w #[],∃ j,j<n/\e=zo b (off+j):=by
 intro e a;simp only[loadVar,aO,f.j9,aU,events_isAgg] at a;cases d:i.agg
 .rw[d] at c a;obtain⟨v,k⟩:=g 0 (by grind)
  simp only[iN] at k;simp only[jE,b9,zr k] at a;rcases Array.mem_push.1 a with h|rfl
  .grind
  .exact⟨0,by grind,rfl⟩
 .rw[d] at c a;simp only[cq] at c;simp only[cq,aO,f.run_sizeOf,aU,events_sizeOf] at a;have key:∀ e∈(loadCells ⟨b,off,af⟩ i.size).events P w #[],∃ j,j<n/\e=zo b (off+j):=by
   intro e a;rcases rr (P:=P) (λj l=>g j (by omega)) e a with h|⟨j,l,rfl⟩
   .grind
   grind
  apply key
  generalize (loadCells ⟨b,off,af⟩ i.size).run P w=r at a;cases r with
  |ok v w'=>simpa using a
  |halt x w'=>simpa using a
theorem rH{i:TI}{cs:List A}{e:E1}(h:mX i cs=aa e):(if i.agg then i.size else 1)<=cs.length:=by
 unfold mX at h;cases a:i.agg <;> rw[a] at h
 .cases cs with
  |nil=>simp[fu] at h
  |cons c cs=>simp
 .simp only at h;cases b:og i.size cs with
  |none=>grind
  |some r =>
   obtain⟨f,d⟩:=mY b
   grind
theorem bF.FD{P:aq}{T:List (Nat×TI)}(q:db P T){o:aw}{p:an->D}{σ:List aV}{t:ar}{x:an}(h:o.op=.load t x){l off:Nat}{E:ar}{cs:List A}{i:TI}{e:E1}
  (G:p x=.e (.one (.ptr l off))) (F:σ[l]?=aa (.cells E cs)) (hi:bE T t=aa i) (r:mX i (hI off cs)=aa e):bF P o p σ (.e e) σ:=by
 refine .nJ λs ρ hh hr=>?_
 have h1:=hr x;rw[G] at h1;obtain⟨_,L,b,y,d,z⟩:=h1;obtain⟨k,vs,rfl,C,a,_⟩:=hh.box l _ L F y;simp at d;subst d;rw[nb] at r;obtain⟨v,c,m⟩:=o5 (s:=s) (σ:=σ) (P:=P) (q t i hi) (b:=k) (off:=off) (vs:=vs.drop off) (cs:=cs.drop off) (e:=e) (λj v hj=>by
  simp only[a9,C]
  grind) (a.drop off) r
 refine⟨v,by simp[ay,h,z,Instr.loadAt,Instr.sureAddr,c],m,λB g=>?_⟩
 have f:B∈(loadVar t ⟨k,off,af⟩).events P s.w #[]:=by
  have e:ay ρ o=(do pure (.value (<-loadVar t ⟨k,off,af⟩))):=by simp[ay,h,z,Instr.loadAt,Instr.sureAddr]
  rw[e] at g;simpa[c] using g
 have u:(vs.drop off).length=(cs.drop off).length:=(a.drop off).length;obtain⟨j,hj,rfl⟩:=kg (q t i hi) (n:=(vs.drop off).length) (λj hj=>by
  refine⟨(vs.drop off)[j],?_⟩;simp only[a9,C];simp at hj ⊢ <;> omega) (by grind [rH]) B f
 exact rz (bT y) (by simp)
theorem bF.JF{P:aq}{T:List (Nat×TI)}(y:db P T){o:aw}{u:an->D}{σ:List aV}{t:ar}{x:an}(h:o.op=.load t x){cs:List C}{i:TI}{e:E1}
  (G:u x=.e (.one (.c (.rp cs)))) (hi:bE T t=aa i) (B:mX i (cs.map A.c)=aa e):bF P o u σ (.e e) σ:=by
 refine .nJ λs ρ hh hr=>?_
 have h1:=hr x;rw[G] at h1;have h2:=fx h1;generalize k:ρ x=vx at h2;cases h2
 rename_i b off f q F
 have p:∀ (n:Nat) (ds:List C),(∀ j c,ds[j]?=aa c->Rd s.M (f (n+j)) c)->dM σ s ((bh ds.length).map λj=>f (n+j)) (ds.map A.c):=by
  intro n ds
  induction ds generalizing n with
  |nil=>intro _;trivial
  |cons d ds ih =>
   intro z;rw[eZ,zg];refine⟨z 0 d rfl,?_⟩;have:=ih (n+1) (λj c hj=>by have:=z (j+1) c (by grind);grind)
   grind [Function.comp_def]
 obtain⟨v,g,r⟩:=o5 (s:=s) (σ:=σ) (P:=P) (y t i hi) (b:=b) (off:=off) (vs:=(bh cs.length).map λj=>f (0+j)) (cs:=cs.map A.c) (e:=e) (λj v hj=>by
  simp only[nz,bt] at hj
  by_cases a:j<cs.length
  .simp[a] at hj;subst hj;exact hh.mem _ _ _ (q j cs[j] (br a))
  grind) (p 0 cs (by grind)) B
 refine⟨v,by simp[ay,h,k,Instr.loadAt,Instr.sureAddr,g],r,λE m=>?_⟩
 have l:E∈(loadVar t ⟨b,off,af⟩).events P s.w #[]:=by
  have e:ay ρ o=(do pure (.value (<-loadVar t ⟨b,off,af⟩))):=by simp[ay,h,k,Instr.loadAt,Instr.sureAddr]
  rw[e] at m;simpa[g] using m
 obtain⟨j,hj,rfl⟩:=kg (y t i hi) (n:=cs.length) (λj hj=>⟨f j,hh.mem _ _ _ (q j cs[j] (br hj))⟩) (by have:=rH B;grind) E l
 exact Bf (q j cs[j] (br hj))
def eU{α:Type}:Nat->List α->List α->Option (List α)
 |0,[],l=>aa l
 |0,n::ns,_::cs=>match eU 0 ns cs with|some r=>aa (n::r)|none=>af
 |k+1,ns,c::cs=>match eU k ns cs with|some r=>aa (c::r)|none=>af
 |_,_,[]=>af
def pY{α:Type}:∀ {off:Nat}{new l r:List α},eU off new l=aa r->off+new.length<=l.length/\r=l.take off++new++l.drop (off+new.length)
 |0,[],l,r,h=>by cases l <;> cases h <;> simp
 |0,n::ns,c::cs,r,h=>by
  simp only[eU] at h;cases a:eU 0 ns cs with
  |none=>grind
  |some q =>
   simp[a] at h;subst h;obtain⟨b,d⟩:=pY a
   grind
 |0,n::ns,[],r,h=>by simp[eU] at h
 |k+1,ns,c::cs,r,h=>by
  simp only[eU] at h;cases a:eU k ns cs with
  |none=>grind
  |some q =>
   simp[a] at h;subst h;obtain⟨b,d⟩:=pY a
   grind
 |k+1,ns,[],r,h=>by simp[eU] at h
def dM.eU{σ:List aV}{s:St}{off:Nat}{vs new:List ak}{cs Rb r:List A}(h:AM.eU off Rb cs=aa r)(h1:dM σ s vs cs)(h2:dM σ s new Rb) :
  off+new.length<=vs.length/\dM σ s (vs.take off++new++vs.drop (off+new.length)) r:=by
 obtain⟨k1,rfl⟩:=pY h;rw[h2.length,h1.length];refine⟨k1,((h1.take off).append h2).append (by have:=h1.drop (off+Rb.length);exact this)⟩
theorem bF.store{P:aq}{T:List (Nat×TI)}(z:db P T){o:aw}{q:an->D}{σ:List aV}{t:ar}{x y:an}(h:o.op=.store t x y){l off:Nat}{E:ar}{cs new ma:List A}{i:TI}
  (I:q x=.e (.one (.ptr l off))) (C:σ[l]?=aa (.cells E cs)) (hi:bE T t=aa i) (K:mO (q y)=aa new) (hn:new.length=i.size) (J:eU off new cs=aa ma) :
  bF P o q σ .any (σ.set l (.cells E ma)):=by
 intro s ρ hh hr;have h1:=hr x;rw[I] at h1;obtain⟨_,L,b,u,m,G⟩:=h1;obtain⟨n,vs,rfl,F,p,k⟩:=hh.box l _ L C u;simp at m;subst m;have c:=mV K (hr y);obtain⟨k1,M⟩:=dM.eU J p c;obtain⟨w1,w2⟩:=hh.write C u rfl M;refine⟨.skip,_,?_,rfl,w1,w2,?_⟩
 rotate_left
 .intro B a;have d:(ρ y).cells.size=i.size:=by rw[<-hn,<-c.length,jh]
  have e:ay ρ o=(do storeVar t ⟨n,off,af⟩ (ρ y);pure .skip):=by simp[ay,h,G,Instr.storeAt,Instr.sureAddr]
  rw[e] at a;have f:B∈(storeCells ⟨n,off,af⟩ (ρ y).cells.toList).events P s.w #[]:=by
   simp only[storeVar,aO,(z t i hi).run_sizeOf,d,aU,events_sizeOf,cT,ft,b9,bX,b8,Sem.events_pure] at a;generalize (storeCells ⟨n,off,af⟩ (ρ y).cells.toList).run P s.w=r at a;cases r with
   |ok v w'=>simpa using a
   |halt x w'=>simpa using a
  rcases eE (ρ y).cells.toList 0 vs.toArray s.w #[] F (by grind) c.cell B f with H|⟨j,_,_,rfl⟩
  .grind
  .exact mh (bT u) (by simp) (k _)
 have g:=run_storeCells_at P n off E (ρ y).cells.toList 0 vs.toArray s.w F (by grind) (c.cell)
 have d:(ρ y).cells.size=i.size:=by rw[<-hn,<-c.length,jh]
 simp only[iN] at g;simp[ay,h,G,Instr.storeAt,Instr.sureAddr,storeVar,(z t i hi).run_sizeOf,d,g]
def jL(T:List (Nat×TI))(t:ar)(f:Nat):Option (Nat×TI) :=
 match bE T t with
 |some i=>match i.desc with
  |.struct fs=>match fu f fs.toList with
   |some fl=>match bE T fl.type with
    |some j=>cond (aG j.size 0) af (aa (fl.offset,j))
    |none=>af
   |none=>af
  |_=>af
 |none=>af
def ta{P:aq}{T:List (Nat×TI)}(c:db P T){t:ar}{f off:Nat}{j:TI}(h:jL T t f=aa (off,j)) :
  ∃ i fs fl,bE T t=aa i/\i.desc=.struct fs/\fs[f]?=aa fl/\fl.offset=off/\bE T fl.type=aa j/\j.size≠0/\bG P t i/\bG P fl.type j:=by
 unfold jL at h;split at h
 .rename_i i hi
  split at h
  .rename_i fs Ww
   split at h
   .rename_i fl hfl
    split at h
    .rename_i d b
     cases a:aG d.size 0 <;> simp[a] at h
     obtain⟨rfl,rfl⟩:=h;refine⟨i,fs,fl,hi,Ww,by simpa using dw hfl,rfl,b,?_,c _ _ hi,c _ _ b⟩
     intro e;rw[e] at a;cases a
    grind
   grind
  grind
 grind
def my{P:aq}{T:List (Nat×TI)}(c:db P T){t:ar}{f off:Nat}{j:TI}(h:jL T t f=aa (off,j))(b o:Nat)(w:az) :
  (Instr.fieldAt t (.pointer (aa ⟨b,o,af⟩)) f).run P w=.ok (.pointer (aa ⟨b,o+off,af⟩)) w:=by
 obtain⟨i,fs,l,n,d,e,k,m,a,g,g2⟩:=ta c h;simp[Instr.fieldAt,g.run_underlying,d,e,Instr.sureAddr,fieldPlace,g2.run_sizeOf,a,dg,k]
def nV{P:aq}{T:List (Nat×TI)}(c:db P T){t:ar}{f off:Nat}{j:TI}(h:jL T t f=aa (off,j))(b o:Nat)(w:az)(es:Array Event) :
  (Instr.fieldAt t (.pointer (aa ⟨b,o,af⟩)) f).events P w es=es:=by
 obtain⟨i,fs,k,n,d,e,l,m,a,g,g2⟩:=ta c h;simp[Instr.fieldAt,g.run_underlying,d,e,Instr.sureAddr,fieldPlace,g2.run_sizeOf,a]
def bF.rR{P:aq}{T:List (Nat×TI)}(d:db P T){o:aw}{c:an->D}{σ:List aV}{t:ar}{x:an}{f:Nat}(h:o.op=.fieldAddr t x f){l off k:Nat}{j:TI}
  (n:c x=.e (.one (.ptr l off))) (g:jL T t f=aa (k,j)):bF P o c σ (.e (.one (.ptr l (off+k)))) σ:=by
 refine .quiet λs ρ hh hr=>?_
 have h1:=hr x;rw[n] at h1;obtain⟨hn,L,b,m,a,i⟩:=h1;exact⟨.pointer (aa ⟨b,off+k,af⟩),by simp[ay,h,i,my d g],⟨hn,L,b,m,a,rfl⟩,by simp[ay,h,i,nV d g]⟩
theorem bF.tK{P:aq}{T:List (Nat×TI)}(g:db P T){o:aw}{d:an->D}{σ:List aV}{t:ar}{x:an}{f:Nat}(h:o.op=.fieldAddr t x f){cs:List C}{k:Nat}{j:TI}
  (n:d x=.e (.one (.c (.rp cs)))) (i:jL T t f=aa (k,j)):bF P o d σ (.e (.one (.c (.rp (hI k cs))))) σ:=by
 refine .quiet λs ρ hh hr=>?_
 have h1:=hr x;rw[n] at h1;have h2:=fx h1;generalize a:ρ x=vx at h2;cases h2
 rename_i b o m p l
 refine⟨.pointer (aa ⟨b,o+k,af⟩),by simp[ay,h,a,my g i],?_,by simp[ay,h,a,nV g i]⟩
 rw[nb];refine Rd.rp b (o+k) (λj=>m (k+j)) (λj c hj=>?_) (λj c hj=>?_)
 .grind
 grind
def Kd{σ:List aV}{s:St}{P:aq}{t:ar}{i:TI}(g:bG P t i){vs:List ak}{cs:List A}(r:dM σ s vs cs){off:Nat}{e:E1}(b:mX i (hI off cs)=aa e)(w:az) :
  ∃ v,(part t vs.toArray off).run P w=.ok v w/\mT σ s v e/\∀ es,(part t vs.toArray off).events P w es=es:=by
 simp only[part,bX,g.j9,b8,aO,aU,events_isAgg];rw[nb] at b;cases j:i.agg <;> simp only[mX,j] at b
 .cases c:fu 0 (cs.drop off) with
  |none=>grind
  |some a =>
   simp[c] at b;subst b;obtain⟨v,h,f⟩:=(r.drop off).get (dw c);simp at h;refine⟨v,?_,f,λes=>?_⟩ <;> simp[h]
 .cases c:og i.size (cs.drop off) with
  |none=>grind
  |some q =>
   simp[c] at b;subst b;obtain⟨k,l⟩:=mY c;have d:=(r.drop off).take i.size;rw[<-k] at d;refine⟨.agg (vs.toArray.extract off (off+i.size)),by simp[g.run_sizeOf],⟨(vs.drop off).take i.size,?_,d⟩,λes=>by simp⟩
   simp
theorem bF.field{P:aq}{T:List (Nat×TI)}(q:db P T){o:aw}{g:an->D}{σ:List aV}{t:ar}{x:an}{f:Nat}(h:o.op=.field t x f){cs:List A}{k:Nat}{j:TI}{e:E1}
  (y:g x=.e (.agg cs)) (r:jL T t f=aa (k,j)) (u:mX j (hI k cs)=aa e):bF P o g σ (.e e) σ:=by
 refine .quiet λs ρ hh hr=>?_
 have h1:=hr x;rw[y] at h1;obtain⟨vs,p,b⟩:=h1;obtain⟨i,fs,fl,h1,h2,l,n,B,z,m,g2⟩:=ta q r;obtain⟨v,a,c,d⟩:=Kd g2 b u s.w;exact⟨v,by simp[ay,h,p,Instr.field,m.run_underlying,h2,l,asAgg,n,a],c,by simp[ay,h,p,Instr.field,m.run_underlying,h2,l,asAgg,n,d]⟩
theorem bF.tL{P:aq}{o:aw}{c:an->D}{σ:List aV}{x:an}(h:o.op=.nilCheck x){l off:Nat}(g:c x=.e (.one (.ptr l off))):bF P o c σ (.e (.one (.ptr l off))) σ:=by
 refine .quiet λs ρ hh hr=>?_
 have h1:=hr x;rw[g] at h1;have a:=h1;obtain⟨hn,L,b,i,f,d⟩:=h1;exact⟨ρ x,by simp[ay,h,d],a,by simp[ay,h,d]⟩
theorem bF.vS{P:aq}{o:aw}{b:an->D}{σ:List aV}{x:an}(h:o.op=.nilCheck x){cs:List C}(d:b x=.e (.one (.c (.rp cs)))):bF P o b σ (.e (.one (.c (.rp cs)))) σ:=by
 refine .quiet λs ρ hh hr=>?_
 have h1:=hr x;rw[d] at h1;have h2:=fx h1;generalize a:ρ x=vx at h2;cases h2;exact⟨_,by simp[ay,h,a];rfl,by grind,by simp[ay,h,a]⟩
def G9(new:List ak):∀ (j off:Nat)(cs:Array ak),off+j+new.length<=cs.size ->
  ((new.zipIdx j).foldl (λcs (x:ak×Nat)=>cs.setIfInBounds (off+x.2) x.1) cs).toList=cs.toList.take (off+j)++new++cs.toList.drop (off+j+new.length):=by
 induction new with
 |nil=>intro j off cs _;simp
 |cons v vs ih =>
  intro j off cs h;simp only[List.zipIdx_cons,jl];rw[ih (j+1) off _ (by grind)]
  have:=list_seg_step cs.toList (off+j) v vs (by grind)
  simpa[Array.toList_setIfInBounds,uT] using this
def vp(place:Nat->Option (Nat×Nat)):List (Nat×List A)->List A->Option (List A)
 |[],cs=>aa cs
 |(i,new)::rest,cs=>match place i with
  |some (off,size)=>match aG new.length size with
   |true=>match eU off new cs with
    |some r=>vp place rest r
    |none=>af
   |false=>af
  |none=>af
def rA{σ:List aV}{s:St}{place place':Nat->Option (Nat×Nat)}(n:∀ i p,place i=aa p->place' i=aa p):∀ {parts:List (Nat×List A)}{vparts:List (Nat×ak)}{cs r:List A}{vs:Array ak},
  vp place parts cs=aa r->vparts.map (·.1)=parts.map (·.1)->(∀ (k:Nat) (p:Nat×List A) (q:Nat×ak),parts[k]?=aa p->vparts[k]?=aa q->dM σ s q.2.cells.toList p.2)->dM σ s vs.toList cs ->
  ∃ d,Instr.fill place' vs vparts=aa d/\dM σ s d.toList r
 |[],[],cs,r,vs,h,_,_,b=>by cases h;exact⟨vs,rfl,b⟩
 |[],_::_,cs,r,vs,h,a,_,b=>by grind
 |_::_,[],cs,r,vs,h,a,_,b=>by grind
 |(i,new)::rest,(f,v)::Ug,cs,r,vs,h,a,t,b=>by
  simp only[rl,List.cons.injEq] at a;obtain⟨rfl,a⟩:=a;simp only[vp] at h;cases c:place f with
  |none=>grind
  |some p =>
   obtain⟨off,size⟩:=p;simp only[c] at h;cases j:aG new.length size with
   |false=>grind
   |true =>
    simp only[j] at h;cases m:eU off new cs with
    |none=>grind
    |some q =>
     simp only[m] at h;have g:=t 0 (f,new) (f,v) rfl rfl;simp only at g;have z:=g.length;have o:new.length=size:=bU j;obtain⟨k1,B⟩:=dM.eU m b g;have y:=G9 v.cells.toList 0 off vs (by grind)
     have e:v.cells.size=size:=by grind
     have u:off+size<=vs.size:=by grind
     obtain⟨d,w,l⟩:=rA (σ:=σ) (s:=s) n (parts:=rest) (vparts:=Ug) (cs:=q) (r:=r)
      (vs:=v.cells.zipIdx.foldl (λcs (x:ak×Nat)=>cs.setIfInBounds (off+x.2) x.1) vs) h a (λk p q w l=>t (k+1) p q (by grind) (by grind)) (by
       grind [Array.toList_zipIdx])
     refine⟨d,?_,l⟩;simp only[Instr.fill,n _ _ c,e,cT,ft,ku,Bool.false_or,ba]
     grind
def pZ(T:List (Nat×TI)):List Field->Option (List (Nat×Nat))
 |[]=>aa []
 |f::fs=>match bE T f.type with
  |some j=>match pZ T fs with
   |some r=>aa ((f.offset,j.size)::r)
   |none=>af
  |none=>af
def wq{P:aq}{T:List (Nat×TI)}(b:db P T):∀ {fs:List Field}{r:List (Nat×Nat)},pZ T fs=aa r->fs.mapM (λf=>(P.info? f.type).map λi=>(f.offset,i.size))=aa r
 |[],r,h=>by cases h;simp
 |f::fs,r,h=>by
  simp only[pZ] at h;cases c:bE T f.type with
  |none=>grind
  |some j =>
   cases a:pZ T fs with
   |none=>grind
   |some q =>
    simp[c,a] at h;subst h;obtain⟨g,z,e,d,_⟩:=(b _ _ c).info;simp[lz,e,d,wq b a]
def nL(a:an->D):List (Nat×an)->Option (List (Nat×List A))
 |[]=>aa []
 |(i,x)::r=>match mO (a x) with
  |some cs=>match nL a r with
   |some q=>aa ((i,cs)::q)
   |none=>af
  |none=>af
def pR{σ:List aV}{s:St}{ρ:an->ak}{a:an->D}(c:∀ y,c8 σ s (ρ y) (a y)):∀ {l:List (Nat×an)}{q:List (Nat×List A)},nL a l=aa q ->
  (l.map λ(i,x)=>(i,ρ x)).map (·.1)=q.map (·.1)/\∀ (k:Nat) (p:Nat×List A) (u:Nat×ak),q[k]?=aa p->(l.map λ(i,x)=>(i,ρ x))[k]?=aa u->dM σ s u.2.cells.toList p.2
 |[],q,h=>by cases h;simp
 |(i,x)::r,q,h=>by
  simp only[nL] at h;cases d:mO (a x) with
  |none=>grind
  |some cs =>
   cases b:nL a r with
   |none=>grind
   |some q' =>
    simp[d,b] at h;subst h;obtain⟨f,e⟩:=pR c b
    grind [mV]
def zI(T:List (Nat×TI))(a:an->D)(t:ar)(parts:List (Nat×an)):Option (List A) :=
 match bE T t with
 |some i=>match i.desc with
  |.struct fs=>match pZ T fs.toList with
   |some pl=>match nL a parts with
    |some ps=>vp (λk=>fu k pl) ps (i.zero.map A.c)
    |none=>af
   |none=>af
  |_=>af
 |none=>af
theorem bF.build{P:aq}{T:List (Nat×TI)}(g:db P T){o:aw}{j:an->D}{σ:List aV}{t:ar}{parts:Array (Nat×an)}(h:o.op=.build t parts){cs:List A}
  (b:zI T j t parts.toList=aa cs):bF P o j σ (.e (.agg cs)) σ:=by
 refine .quiet λs ρ hh hr=>?_
 unfold zI at b;cases hi:bE T t with
 |none=>grind
 |some i =>
  simp only[hi] at b;cases l:i.desc with
  |struct fs =>
   simp only[l] at b;cases f:pZ T fs.toList with
   |none=>grind
   |some pl =>
    simp only[f] at b;cases c:nL j parts.toList with
    |none=>grind
    |some ps =>
     simp only[c] at b;obtain⟨n,z,v,B,E,y,r,C,F⟩:=(g t i hi).info;obtain⟨q,p2⟩:=pR (σ:=σ) (s:=s) hr c;obtain⟨d,u,m⟩:=rA (σ:=σ) (s:=s) (place':=λk=>pl.toArray[k]?) (λk p G=>by grind [dw]) b q p2 (kH r)
     have hb:P.built t (parts.map λ(i,x)=>(i,ρ x)).toList=aa d:=by
      unfold Program.built;have a:=(g t i hi).SW;rw[l] at a;simp only[v,a,y,wq g f];simpa using u
     refine⟨.agg d,?_,⟨d.toList,by simp,m⟩,?_⟩
     .simp only[ay,h,bX,run_build s.w t _ d hb,b8,cW]
     .simp only[ay,h,aO,run_build s.w t _ d hb,aU,Sem.events_pure];exact cN.build s.w #[]
  |_=>grind
theorem Rj{k n i j:Nat}(hi:i<n)(b:j<k):i*k+j<n*k:=by
 have a:(i+1)*k<=n*k:=et k (by omega)
 rw[gQ] at a;omega
theorem NX{k i j:Nat}(a:j<k):(i*k+j) / k=i:=by
 grind [Nat.mul_comm,Nat.mul_add_div,Nat.div_eq_of_lt]
theorem NY{k i j:Nat}(a:j<k):(i*k+j) % k=j:=by
 rw[nE,Nat.mul_add_mod,Nat.mod_eq_of_lt a]
def Flat.nil{M:Mem}{k:Nat}{es:Nat->List C}:Flat M k 0 es []:=⟨by simp,by omega,by omega⟩
def cO(n:Nat)(f g:Nat->List C):Nat->List C:=λi=>if i<n then f i else g (i-n)
def Flat.append{M:Mem}{k n m:Nat}{es es':Nat->List C}{vs vC:List ak}(h:Flat M k n es vs)(b:Flat M k m es' vC):Flat M k (n+m) (cO n es es') (vs++vC):=by
 refine⟨by simp[h.len,b.len,gQ],λi hi=>?_,λi hi j c hj=>?_⟩
 .simp only[cO];split
  .rename_i a;exact h.width i a
  .exact b.width _ (by omega)
 .simp only[cO] at hj;split at hj
  .rename_i a
   obtain⟨v,h1,h2⟩:=h.rd i a j c hj
   grind
  .rename_i d
   obtain⟨v,h1,h2⟩:=b.rd _ (by omega) j c hj
   refine⟨v,?_,h2⟩;have e1:i*k+j=vs.length+((i-n)*k+j):=by
    rw[h.len,<-uT,<-gQ,zm (by omega)]
   grind
def Flat.cell{M:Mem}{k n:Nat}{es:Nat->List C}{vs:List ak}(h:Flat M k n es vs):∀ v∈vs,v.oneCell'=ab:=by
 intro v b;obtain⟨p,a,rfl⟩:=dT b;rw[h.len] at a;have c:0<k:=by
  grind
 have hi:p / k<n:=pA (by rw[nE];exact a)
 have hj:p % k<k:=jF _ c;have d:=h.width _ hi;obtain⟨v,h1,h2⟩:=h.rd (p / k) hi (p % k) ((es (p / k))[p % k]'(by omega)) (br (by omega))
 have e:p / k*k+p % k=p:=pD p k;rw[e] at h1;rw[br (by rw[h.len];exact a)] at h1
 simp at h1;rw[h1];have:=Rd.cell h2;cases v <;> simp_all [cX,Value.oneCell']
def Rd.flat{M:Mem}{v:ak}{t:Bool}{k n:Nat}{es:Nat->List C}(h:Rd M v (.sl t k n es)) :
  ∃ a cap vs,v=.slice a n cap/\n<=cap/\cap<=9223372036854775807/\(t=ab->cap=n)/\Flat M k n es vs/\∀ p u,vs[p]?=aa u->∃ b off,a=aa ⟨b,off,af⟩/\M b (off+p)=aa u:=by
 cases h with
 |@sl a _ cap _ _ _ b off f d hb ht hk ha hm hr =>
  refine⟨a,cap,(bh (n*k)).map λp=>f (p / k) (p % k),rfl,d,hb,ht,⟨by simp,hk,?_⟩,?_⟩
  .grind [Rj,NX,NY]
  .intro p u e;simp only[nz] at e
   by_cases c:p<n*k
   .simp[c] at e;subst e;have g:0<k:=by
     grind
    have hi:p / k<n:=pA (by rw[nE];exact c)
    have hj:p % k<k:=jF _ g;have i:=hk _ hi;have:=hm (p / k) hi (p % k) ((es (p / k))[p % k]'(by omega)) (br (by omega))
    refine⟨b,off,ha (Nat.lt_of_le_of_lt (gB _) hi),?_⟩
    grind [Nat.add_assoc,Nat.div_add_mod']
   .simp[c] at e
def Rd.qu{M:Mem}{k n:Nat}{es:Nat->List C}{vs:List ak}(h:Flat M k n es vs){a:Option Addr}{b off cap:Nat}{t:Bool}(e:0<n->a=aa ⟨b,off,af⟩)(d:n<=cap)(hb:cap<=9223372036854775807)(f:t=ab->cap=n)
  (g:∀ p u,vs[p]?=aa u->M b (off+p)=aa u):Rd M (.slice a n cap) (.sl t k n es):=by
 refine .sl b off (λi j=>(vs[i*k+j]?).getD aj) d hb f h.width e (λi hi j c hj=>?_) (λi hi j c hj=>?_)
 .obtain⟨v,h1,h2⟩:=h.rd i hi j c hj
  grind
 .obtain⟨v,h1,h2⟩:=h.rd i hi j c hj;rw[h1];exact h2
def dK{P:aq}{σ:List aV}{s:St}(l:aJ σ s){v:ak}{t:Bool}{k n:Nat}{es:Nat->List C}(h:Rd s.M v (.sl t k n es)) :
  ∃ vs,Flat s.M k n es vs/\(Builtin.firstCells k n v).run P s.w=.ok vs.toArray s.w/\Builtin.lenOf v=pure n:=by
 obtain⟨a,cap,vs,rfl,d,o,p,e,f⟩:=h.flat;refine⟨vs,e,?_,rfl⟩;have i:vs.length=n*k:=e.len;cases a with
 |none =>
  have:vs=[]:=by
   cases vs with
   |nil=>rfl
   |cons u q=>obtain⟨b,off,c,_⟩:=f 0 u rfl;cases c
  subst this;rfl
 |some ad =>
  simp only[Builtin.firstCells];rw[<-i];refine run_loadCells_list s.w ad vs λj u m=>?_
  obtain⟨b,off,c,g⟩:=f j u m;cases c;rw[dg];exact l.mem _ _ _ g
def bF.JD{P:aq}{T:List (Nat×TI)}(g:db P T){o:aw}{f:an->D}{σ:List aV}{t:ar}{x y:an}(h:o.op=.index t x y){l:List UInt8}{j:Int}{k:IntKind}{i:TI}{m:Nat}(hi:bE T t=aa i)(n:i.desc=.string)
  (u:f x=.e (.one (.c (.str l)))) (r:f y=.e (.one (.c (.int k j)))) (hj:j=m) (v:m<l.length):bF P o f σ (.e (.one (.c (.int .u8 (l[m]).toNat)))) σ:=by
 refine .quiet λs ρ hh hr=>?_
 have h1:=hr x;have h2:=hr y;rw[u] at h1;rw[r] at h2
 replace h1:=fx h1
 replace h2:=fx h2
 generalize a:ρ x=vx at h1;generalize b:ρ y=vy at h2;cases h1 with
 |@str sb _ q hl =>
 cases h2;subst q;have p:sb[m]?=aa (sb.data.toList[m]):=by
  have hm':m<sb.size:=by have e:sb.data.toList.length=sb.size:=jh;omega
  rw[getElem?_pos sb m hm']
  congr 1
 refine⟨.int .u8 (sb.data.toList[m]).toNat,?_,Rd.int ?_,?_⟩
 rotate_left 2
 .have d:=(g t i hi).run_underlying (w:=s.w);rw[n] at d;simp[ay,h,a,b,Instr.index,asIntOf,d,hj,p]
 .have d:=(g t i hi).run_underlying (w:=s.w);rw[n] at d;simp[ay,h,a,b,Instr.index,asIntOf,d,hj,p]
 .have:=(sb.data.toList[m]).toNat_lt;simp only[bu];omega
def bF.indexAddr{P:aq}{T:List (Nat×TI)}(A:db P T){o:aw}{l:an->D}{σ:List aV}{t:ar}{x y:an}(h:o.op=.indexAddr t x y){i g:TI}{E:ar}(hi:bE T t=aa i)(G:i.desc=.slice E)(H:bE T E=aa g)
  {tt:Bool} {n:Nat} {es:Nat->List C} {j:Int} {k:IntKind} {m:Nat} (J:∀ s v,c8 σ s v (l x)->Rd s.M v (.sl tt g.size n es)) (I:l y=.e (.one (.c (.int k j)))) (hj:j=m) (d:m<n) :
  bF P o l σ (.e (.one (.c (.rp (es m))))) σ:=by
 refine .quiet λs ρ hh hr=>?_
 have h1:=J s _ (hr x);have h2:=hr y;rw[I] at h2
 replace h2:=fx h2
 generalize r:ρ x=vx at h1;generalize z:ρ y=vy at h2;cases h2;cases h1 with
 |@sl a _ cap _ _ _ b off f B hb ht hk ha hm' Ps =>
 have u:0<n:=by omega
 have F:=(A t i hi).run_underlying (w:=s.w);rw[G] at F;refine⟨.pointer (aa ⟨b,off+m*g.size,af⟩),?_,Rd.rp b (off+m*g.size) (f m) (λq c p=>hm' m d q c p) (λq c p=>Ps m d q c p),?_⟩ <;>
 simp[ay,h,r,z,Instr.indexAt,asIntOf,F,hj,ha u,(A E g H).run_sizeOf,dg,d]
def bF.TS{P:aq}{T:List (Nat×TI)}(l:db P T){o:aw}{f:an->D}{σ:List aV}{x:an}{b:Array ar}{t:ar}(h:o.op=.call { callee:=.builtin .len,args:=#[x],argTypes:=b })(q:b[0]?=aa t){i:TI}{E:ar}(hi:bE T t=aa i)(m:i.desc=.slice E)
  {tt:Bool} {k n:Nat} {es:Nat->List C} (r:∀ s v,c8 σ s v (f x)->Rd s.M v (.sl tt k n es)):bF P o f σ (.e (.one (.c (.int .i64 n)))) σ:=by
 refine .quiet λs ρ hh hr=>?_
 obtain⟨a,cap,vs,p,g,hb,_⟩:=(r s _ (hr x)).flat;have j:=(l t i hi).run_underlying (w:=s.w);rw[m] at j;have d:b[0]?=aa t:=q;refine⟨.int .i64 n,?_,Rd.int (by simp only[bu];omega),?_⟩ <;>
 simp[ay,h,resolve,invoke,builtin,Builtin.len_,p,j,goInt,d]
theorem bF.QM{P:aq}{T:List (Nat×TI)}(k:db P T){o:aw}{g:an->D}{σ:List aV}{x:an}{a:Array ar}{t:ar}(h:o.op=.call { callee:=.builtin .len,args:=#[x],argTypes:=a })(p:a[0]?=aa t){i:TI}(hi:bE T t=aa i)(m:i.desc=.string)
  {l:List UInt8} (q:g x=.e (.one (.c (.str l)))):bF P o g σ (.e (.one (.c (.int .i64 l.length)))) σ:=by
 refine .quiet λs ρ hh hr=>?_
 have h1:=hr x;rw[q] at h1
 replace h1:=fx h1
 generalize d:ρ x=vx at h1;cases h1 with
 |@str sb _ n hl =>
 have j:=(k t i hi).run_underlying (w:=s.w);rw[m] at j;have f:a[0]?=aa t:=p;have b:sb.size=l.length:=by rw[<-n];exact jh.symm
 refine⟨.int .i64 l.length,?_,Rd.int (by simp only[bu];omega),?_⟩ <;>
 simp[ay,h,resolve,invoke,builtin,Builtin.len_,d,j,goInt,f,b]
def St.newRow(s:St)(E:ar)(vs:List ak):St :=
 { β:=s.β,M:=λb o=>if b=s.w.heap.size then vs[o]? else s.M b o,w:=s.w.alloc (.cells vs.toArray E),own:=s.own }
def aJ.newRow{σ:List aV}{s:St}(h:aJ σ s)(E:ar)(vs:List ak):aJ σ (s.newRow E vs)/\Step σ s σ (s.newRow E vs):=by
 refine h.grow (by simp) (λb hb=>cJ _ _ hb) (λb hb o=>by grind) (λb hb o v a=>?_) rfl rfl rfl
 by_cases e:b=s.w.heap.size
 .subst e;simp at a;show a9 (s.w.alloc (.cells vs.toArray E)) ⟨s.w.heap.size,o,af⟩=aa v;unfold a9
  grind [dt]
 .simp only[e,b9] at a;have:=h.block a;omega
def Ha(s:St)(E:ar)(vs:List ak):∀ p u,vs[p]?=aa u->(s.newRow E vs).M s.w.heap.size (0+p)=aa u:=by
 intro p u h;simpa[St.newRow] using h
def gk:List A->Option (List C)
 |[]=>aa []
 |.c c::r=>match gk r with|some q=>aa (c::q)|none=>af
 |.vec _ k n es::r=>match gk r with|some q=>aa (.sl ae k n es::q)|none=>af
 |_::_=>af
def ki{σ:List aV}{s:St}:∀ {cs:List A}{r:List C}{vs:List ak},gk cs=aa r->dM σ s vs cs->dM σ s vs (r.map A.c)
 |[],r,vs,h,a=>by cases h;exact a
 |_::_,_,[],_,a=>a.elim
 |.c c::al,r,v::vs,h,a=>by
  simp only[gk] at h;cases b:gk al with
  |none=>grind
  |some q=>simp[b] at h;subst h;exact⟨a.1,ki b a.2⟩
 |.vec l k n es::al,r,v::vs,h,a=>by
  simp only[gk] at h;cases b:gk al with
  |none=>grind
  |some q=>simp[b] at h;subst h;exact⟨a.1.1,ki b a.2⟩
 |.ptr l o::al,r,v::vs,h,a=>by simp[gk] at h
 |.ref l::al,r,v::vs,h,a=>by simp[gk] at h
 |.bp l w::al,r,v::vs,h,a=>by simp[gk] at h
 |.any::al,r,v::vs,h,a=>by simp[gk] at h
def qx{α:Type}(k:Nat):Nat->List α->Option (List (List α))
 |0,[]=>aa []
 |0,_::_=>af
 |n+1,l=>match og k l with
  |some c=>match qx k n (hI k l) with
   |some r=>aa (c::r)
   |none=>af
  |none=>af
def dM.closed{σ:List aV}{s:St}:∀ {vs:List ak}{cs:List C},dM σ s vs (cs.map A.c)->∀ (j:Nat)(c:C),cs[j]?=aa c->∃ v,vs[j]?=aa v/\Rd s.M v c:=by
 intro vs cs h j c hj;obtain⟨v,h1,h2⟩:=h.get (j:=j) (a:=.c c) (by grind)
 exact⟨v,h1,h2⟩
def sM{M:Mem}{k:Nat}:∀ {n:Nat}{cs:List C}{es:List (List C)}{vs:List ak},qx k n cs=aa es->vs.length=cs.length->(∀ (j:Nat)(c:C),cs[j]?=aa c->∃ v,vs[j]?=aa v/\Rd M v c)->es.length=n/\Flat M k n (λi=>es.getD i []) vs
 |0,[],es,vs,h,a,b=>by cases h;simp at a;subst a;exact⟨rfl,.nil⟩
 |0,_::_,es,vs,h,a,b=>by cases h
 |n+1,cs,es,vs,h,a,b=>by
  simp only[qx] at h;cases g:og k cs with
  |none=>grind
  |some c =>
   simp only[g] at h;cases d:qx k n (hI k cs) with
   |none=>grind
   |some q =>
    simp[d] at h;subst h;obtain⟨o,f⟩:=mY g;rw[nb] at d;obtain⟨r,m⟩:=sM (vs:=vs.drop k) d (by grind) (λj c p=>by
     obtain⟨v,o,f⟩:=b (k+j) c (by grind)
     exact⟨v,by grind,f⟩)
    refine⟨by grind,?_⟩
    have s:k<=cs.length:=by grind
    have l:Flat M k 1 (λ_=>c) (vs.take k):=by
     refine⟨by grind,by grind,λi hi j x p=>?_⟩
     grind
    have:=l.append m;rw[Nat.add_comm 1 n] at this;have e:cO 1 (λ_=>c) (λi=>q.getD i [])=λi=>(c::q).getD i []:=by
     funext i
     cases i <;> simp[cO]
    rw[e] at this;simpa using this
def Dx(T:List (Nat×TI))(a:an->D)(t:ar)(n:Nat)(parts:List (Nat×an)):Option (Nat×List (List C)) :=
 match bE T t with
 |some i=>match i.desc with
  |.slice E=>match bE T E with
   |some ie=>match aG ie.size 0 with
    |true=>af
    |false=>match bo (n*ie.size) 16777216 with
     |true=>match nL a parts with
      |some ps=>match vp (λk=>aa (k*ie.size,ie.size)) ps (List.replicate (n*ie.size) A.any) with
       |some cs=>match gk cs with
        |some r=>match qx ie.size n r with
         |some es=>aa (ie.size,es)
         |none=>af
        |none=>af
       |none=>af
      |none=>af
     |false=>af
   |none=>af
  |_=>af
 |none=>af
theorem bF.buildSlice{P:aq}{T:List (Nat×TI)}(J:db P T){o:aw}{U:an->D}{σ:List aV}{t:ar}{n:Nat}{parts:Array (Nat×an)}(h:o.op=.buildSlice t n parts){k:Nat}{es:List (List C)}
  (a:Dx T U t n parts.toList=aa (k,es)):bF P o U σ (.e (.one (.c (.sl ab k n λi=>es.getD i [])))) σ:=by
 intro s ρ hh hr;unfold Dx at a;cases hi:bE T t with
 |none=>grind
 |some i =>
  simp only[hi] at a;cases W:i.desc with
  |slice E =>
   simp only[W] at a;cases K:bE T E with
   |none=>grind
   |some ie =>
    simp only[K] at a;cases O:aG ie.size 0 with
    |true=>grind
    |false =>
     simp only[O] at a;cases F:bo (n*ie.size) 16777216 with
     |false=>grind
     |true =>
      simp only[F] at a;cases g:nL U parts.toList with
      |none=>grind
      |some ps =>
       simp only[g] at a;cases H:vp (λk=>aa (k*ie.size,ie.size)) ps (List.replicate (n*ie.size) A.any) with
       |none=>grind
       |some cs =>
        simp only[H] at a;cases B:gk cs with
        |none=>grind
        |some r =>
         simp only[B] at a;cases I:qx ie.size n r with
         |none=>grind
         |some es' =>
          simp only[I,de,k7] at a;obtain⟨rfl,rfl⟩:=a;have hz0:ie.size≠0:=λe=>by rw[e] at O;cases O
          have X:=c7 F;obtain⟨inf,z,z1,z2,z3,z4,V,z6,z7⟩:=(J E ie K).info;have hzs:z.cells.size=ie.size:=by
           have:=dn List.length V
           grind
          have Z:∀ v∈z.cells.toList,cX v=ab:=by
           intro v L;have d:qg v∈z.cells.toList.map qg:=pJ.2 ⟨v,L,rfl⟩;rw[V] at d;obtain⟨c,_,hc⟩:=pJ.1 d;exact(Rd.qg (M:=s.M) hc.symm).cell
          have j:∀ m,(∀ v∈(bh m).map (λq=>z.cells[q % z.cells.size]!),cX v=ab):=by
           grind [Nat.mod_lt]
          have l:∀ vs:List ak,(∀ v∈vs,cX v=ab)->dM σ s vs (List.replicate vs.length A.any):=by
           intro vs
           induction vs with
           |nil=>intro _;trivial
           |cons v vs ih=>intro L;exact⟨L v (by simp),ih λu N=>L u (by grind)⟩
          obtain⟨p1,p2⟩:=pR (σ:=σ) (s:=s) hr g;have S:dM σ s ((Array.range (n*ie.size)).map (λq=>z.cells[q % z.cells.size]!)).toList (List.replicate (n*ie.size) A.any):=by
           have:=l _ (j (n*ie.size));simpa using this
          obtain⟨G,u1,Y⟩:=rA (σ:=σ) (s:=s) (place':=λk=>aa (k*ie.size,ie.size)) (λk p hk=>hk) H p1 p2 S
          have u3:=ki B Y;obtain⟨c1,c2⟩:=sM (M:=s.M) (vs:=G.toList) I (by simpa using u3.length) u3.closed
          obtain⟨g1,g2⟩:=hh.newRow E G.toList;refine⟨.value (.slice (aa ⟨s.w.heap.size,0,af⟩) n n),s.newRow E G.toList,?_,?_,g1,g2,?_⟩
          rotate_left 2
          .have e:(ay ρ o).events P s.w #[]=#[]:=by
            simp only[ay,h];exact cN.bind cN.buildSlice (λ_=>cN.pure) _ _
           rw[e];exact .nil
          .have N:=(J t i hi).run_underlying (w:=s.w);rw[W] at N;have R:(zeroValue E).run P s.w=.ok z s.w:=by simp[zeroValue,typeInfo,z1,z4]
           have f:Instr.fill (λk=>aa (k*ie.size,ie.size)) ((Array.range (n*ie.size)).map (λq=>z.cells[q % z.cells.size]!)) (parts.map λ(i,x)=>(i,ρ x)).toList=aa G:=by simpa using u1
           by_cases h0:n*ie.size=0
           .have Q:n=0:=by grind [Nat.mul_eq_zero]
            subst Q;have y:Array.range 0=#[]:=rfl;simp[y] at f;simp[ay,h,Instr.buildSlice,N,(J E ie K).run_sizeOf,y,f,Go.newRow,St.newRow]
           .rw[show ay ρ o=(do pure (.value (<-Instr.buildSlice t n (parts.map λ(i,x)=>(i,ρ x))))) by simp[ay,h]]
            simp only[Instr.buildSlice,bX,N,b8,(J E ie K).run_sizeOf,h0,b9,R,show ¬n*ie.size>2 ^ 24 by omega,pK,f,cW]
            simp[Go.newRow,St.newRow]
          .refine Rd.qu (c2.mono g2.mem) (b:=s.w.heap.size) (off:=0) (λ_=>rfl) (bg _) ?_ (λ_=>rfl) (Ha s E G.toList)
           have:n<=n*ie.size:=qV n (by omega)
           omega
  |_=>grind
def Ext.trans{σ σ1 σ2:List aV}{s a s2:St}(h:Ext σ s σ1 a)(k:Ext σ1 a σ2 s2):Ext σ s σ2 s2:=by
 refine⟨λb o v n=>k.mem _ _ _ (h.mem _ _ _ n),λl B L c m=>?_⟩
 obtain⟨B1,L1,h1,h2,j⟩:=h.box l B L c m;obtain⟨e,r,k1,p,f⟩:=k.box l B1 L1 h1 h2;exact⟨e,r,k1,p,j.trans f⟩
def fR{α:Type}{l:List α}{x y:α}{i:Nat}(h:(l++[x])[i]?=aa y):l[i]?=aa y∨(i=l.length/\y=x):=by
 grind
def aJ.gR{σ:List aV}{s a:St}(h1:aJ σ a)(st:Step σ s σ a)(n:a.β=s.β)(hh:aJ σ s){B:aV}{L:Loc}(p:eO (σ++[B]) { a with β:=a.β++[L] } B L)
  (f:∀ b∈L.bs,s.w.heap.size<=b/\b<a.w.heap.size):aJ (σ++[B]) { a with β:=a.β++[L] }/\Step σ s (σ++[B]) { a with β:=a.β++[L] }:=by
 have ex:Ext σ a (σ++[B]) { a with β:=a.β++[L] }:=by
  refine⟨λ_ _ _ h=>h,λl B' L' od gu=>?_⟩
  have hl:l<a.β.length:=(cp.1 gu).1;have m:l<σ.length:=(cp.1 od).1;exact⟨B',L',by grind,by grind,.refl _ _⟩
 have e2:=st.ext.trans ex;refine⟨⟨h1.mem,by simp[h1.len],?_,?_,?_,?_⟩,⟨st.size,st.eL,st.mem,st.jA,?_,e2.box,st.os,st.tape,st.output,st.own⟩⟩
 .intro l B' L' od gu;rcases fR od with j|⟨rfl,rfl⟩
  .have hl:l<a.β.length:=by rw[h1.len];grind
   rw[jD hl] at gu;exact(h1.box l B' L' j gu).carry ex h1.len λ_ _=>⟨rfl,λ_=>rfl⟩
  .rcases fR gu with c|⟨_,rfl⟩
   .have:=(cp.1 c).1;rw[h1.len] at this;omega
   grind
 .intro l l' L1 L2 c k b hb oG;rcases fR c with k1|⟨rfl,rfl⟩ <;> rcases fR k with o|⟨rfl,rfl⟩
  .exact h1.gd l l' L1 L2 k1 o b hb oG
  .have a1:=f b oG;have a2:=hh.lt L1 (by grind) b hb
   omega
  .have a1:=f b hb;have a2:=hh.lt L2 (by grind) b oG
   omega
  .rfl
 .intro L' gu b hb;simp only[gA,kX] at gu;rcases gu with gu|rfl
  .exact h1.lt L' gu b hb
  grind
 .intro b hb;refine⟨(h1.own b hb).1,λL' gu Qp=>?_⟩
  simp only[gA,kX] at gu;rcases gu with gu|rfl
  .exact(h1.own b hb).2 L' gu Qp
  .have e:=st.own;simp only at hb;rw[e] at hb;have:=(hh.own b hb).1
   grind
 grind
def aJ.iO{σ:List aV}{s:St}{M':Mem}{w':az}(hh:aJ σ s){l:Nat}{B B':aV}{L L':Loc}(r:σ[l]?=aa B)(f:s.β[l]?=aa L)(I:ig B L B' L')
  (x:s.w.heap.size<=w'.heap.size) (R:∀ b,b<s.w.heap.size->b∉L.bs->w'.heap[b]?=s.w.heap[b]?) (N:∀ b,b<s.w.heap.size->b∉L.bs->∀ o,M' b o=s.M b o)
  (h:∀ b o v,s.M b o=aa v->M' b o=aa v) (J:∀ b o v,M' b o=aa v->w'.cell? ⟨b,o,af⟩=aa v)
  (G:∀ b∈L'.bs,(b∈L.bs∨s.w.heap.size<=b)/\b<w'.heap.size)
  (D:w'.os=s.w.os) (H:w'.tape=s.w.tape) (F:w'.output=s.w.output)
  (K:eO (σ.set l B') ⟨s.β.set l L',M',w',s.own⟩ B' L'):aJ (σ.set l B') ⟨s.β.set l L',M',w',s.own⟩/\Step σ s (σ.set l B') ⟨s.β.set l L',M',w',s.own⟩:=by
 have A:l<σ.length:=(cp.1 r).1;have y:l<s.β.length:=(cp.1 f).1;have a:∀ i X,(s.β.set l L')[i]?=aa X->(i=l/\X=L')∨(i≠l/\s.β[i]?=aa X):=by
  grind
 have ex:Ext σ s (σ.set l B') ⟨s.β.set l L',M',w',s.own⟩:=by
  refine⟨h,λi X Y c m=>?_⟩
  by_cases e:l=i
  .grind
  .exact⟨X,Y,by grind,by grind,.refl _ _⟩
 have out:∀ i X,i≠l->s.β[i]?=aa X->∀ b∈X.bs,b<s.w.heap.size/\b∉L.bs:=by
  intro i X hi c b hb;exact⟨hh.lt X (bT c) b hb,λp=>hi (hh.gd i l X L c f b hb p)⟩
 refine⟨⟨J,by simp[hh.len],?_,?_,?_,?_⟩,⟨x,?_,h,?_,?_,ex.box,D,H,F,rfl⟩⟩
 .intro i X Y c m;rcases a i Y m with⟨rfl,rfl⟩|⟨hi,m⟩
  .grind
  .rw[iK (λe=>hi e.symm)] at c
   refine(hh.box i X Y c m).carry ex hh.len λb hb=>?_
   grind
 .intro i C X z c j b hb oG;rcases a i X c with⟨rfl,rfl⟩|⟨hi,n⟩ <;> rcases a C z j with⟨rfl,rfl⟩|⟨u,k⟩
  .rfl
  .grind
  .grind
  .exact hh.gd i C X z n k b hb oG
 .intro X c b hb;obtain⟨i,hi,rfl⟩:=dT c;rcases a i _ (br hi) with⟨rfl,e⟩|⟨u,j⟩
  .grind
  grind
 .intro b hb;obtain⟨O,Q⟩:=hh.own b hb
  grind
 .grind
 .grind
 grind
def rq{a old bytes:Nat}(h:old<a)(b:a*bytes<=140737488355328):¬Builtin.nextslicecap a old*bytes>2 ^ 48:=by
 have:=growslice_fits h b;omega
section
variable {P:aq}{T:List (Nat×TI)}(q:db P T){σ:List aV}{s:St}{t g ty E:ar}{i i2 d:TI}
def jd(hi:bG P t i)(p:i.desc=.slice E)(f:bG P g i2)(j:i2.desc=.slice E)(y:bG P E d)(u:aJ σ s)
  {a:Option Addr} {n cap:Nat} (c:n<=cap) {x:ak} {tx:Bool} {es':Nat->List C} (o:Rd s.M x (.sl tx d.size 0 es')) :
  (Builtin.append_ #[t,g] ty #[.slice a n cap,x]).run P s.w=.ok (.slice a n cap) s.w:=by
 obtain⟨e,v,r,k⟩:=dK (P:=P) u o;have m:=hi.run_underlying (w:=s.w);have b:=f.run_underlying (w:=s.w);rw[p] at m;rw[j] at b;obtain⟨a',l,vs,rfl,_⟩:=o.flat;have h:e=[]:=hX (by simpa using v.len)
 subst h;cases a <;> simp[Builtin.append_,m,b,y.run_sizeOf,Builtin.lenOf,c,r,storeCells]
def il(hi:bG P t i)(X:i.desc=.slice E)(G:bG P g i2)(J:i2.desc=.slice E)(L:bG P E d)(hh:aJ σ s)
  {a:Option Addr} {n cap m:Nat} {V tx:Bool} {es es':Nat->List C} {x:ak} (hv:Rd s.M (.slice a n cap) (.sl V d.size n es)) (R:Rd s.M x (.sl tx d.size m es')) (U:cap<n+m) (K:(n+m)*d.bytes<=140737488355328) (H:d.bytes≠0) :
  ∃ vs zs Na,Flat s.M d.size (n+m) (cO n es es') vs/\n+m<=Na/\Na<=9223372036854775807/\(vs++zs).length=Na*d.size /\
   (Builtin.append_ #[t,g] ty #[.slice a n cap,x]).run P s.w=.ok (.slice (aa ⟨s.w.heap.size,0,af⟩) (n+m) Na) (s.w.drew.alloc (.cells (vs++zs).toArray E)):=by
 have y:aJ σ { s with w:=s.w.drew }:=hh.same rfl;obtain⟨c,O,A,r⟩:=dK (P:=P) y (v:=x) R;obtain⟨b,k,h,S⟩:=dK (P:=P) y (v:=.slice a n cap) hv;have N:=hi.run_underlying (w:=s.w);have j:=G.run_underlying (w:=s.w);rw[X] at N;rw[J] at j;obtain⟨l,z,Q,z2,z3,z4,W,z6,z7⟩:=L.info;have hle:n+m<=140737488355328:=eK (qV _ (Nat.pos_of_ne_zero H)) K;have D:z.cells.size=d.size:=by
  have:=dn List.length W
  grind
 refine⟨b++c,(Builtin.zeroCells z.cells (grownCap s.w (n+m) cap E-(n+m))).toList,grownCap s.w (n+m) cap E,k.append O,grownCap_ge _ _ _ _,?_,?_,?_⟩
 .have:=grownCap_le_maxLen s.w (n+m) cap E (by unfold maxLen;omega)
  unfold maxLen at this;omega
 .have Y:=grownCap_ge s.w (n+m) cap E;simp only[bP,k.len,O.len,jh,size_zeroCells,D,<-gQ]
  grind
 .have Zm:=rq U K;have o:¬Builtin.nextslicecap (n+m) cap*l.bytes>2 ^ 48:=by grind
  have p:¬n+m<=cap:=by omega
  have I:¬((n+m:Nat):Int)>IntKind.i64.max:=by
   have e:IntKind.i64.max=9223372036854775807:=rfl
   grind
  have F:∀ u,(typeInfo E).run P u=.ok l u:=λu=>by simp[typeInfo,Q]
  have B:∀ u,(zeroValue E).run P u=.ok z u:=λu=>by simp[zeroValue,typeInfo,Q,z4]
  have f:(Builtin.lenOf x).run P s.w=.ok m s.w:=by rw[r];rfl
  replace A:(Builtin.firstCells d.size m x).run P s.w.drew=.ok c.toArray s.w.drew:=A
  replace h:(Builtin.firstCells d.size n (.slice a n cap)).run P s.w.drew=.ok b.toArray s.w.drew:=h
  unfold Builtin.append_;simp only[iI,kW,mJ,bX,N,j,b8,L.run_sizeOf,cW,jE,b9,f,p,
   I,false_and,F,o,run_choose,Question.forced,run_askRoom,pK,World.drew_eq,h,A,ia,cq,B]
  simp[Go.newRow,grownCap];have e:∀ Z:Array ak,(b++c).toArray++Z=(b++(c++Z.toList)).toArray:=λZ=>by grind
  rw[e];rfl
def j8(hi:bG P t i)(D:i.desc=.slice E)(l:bG P g i2)(o:i2.desc=.slice E)(F:bG P E d)(G:aJ σ s)
  {b n cap m:Nat} {u:ar} {c:List ak} (B:s.w.heap[b]?=aa (.cells c.toArray u (0,0))) (h:c.length=cap*d.size) {tx:Bool} {es':Nat->List C} {x:ak} (A:Rd s.M x (.sl tx d.size m es')) (v:n+m<=cap) :
  ∃ a,Flat s.M d.size m es' a/\(Builtin.append_ #[t,g] ty #[.slice (aa ⟨b,0,af⟩) n cap,x]).run P s.w=.ok (.slice (aa ⟨b,0,af⟩) (n+m) cap) (s.w.setRow b (c.take (n*d.size)++a++c.drop (n*d.size+a.length)).toArray):=by
 obtain⟨a,p,z,j⟩:=dK (P:=P) G A;have y:=hi.run_underlying (w:=s.w);have f:=l.run_underlying (w:=s.w);rw[D] at y;rw[o] at f;have r:n*d.size+a.length<=c.length:=by
  rw[p.len,h,<-gQ];exact et _ v
 have k:=run_storeCells_at P b (n*d.size) u a 0 c.toArray s.w B (by grind) p.cell
 simp only[iN] at k;have e:(Builtin.lenOf x).run P s.w=.ok m s.w:=by rw[j];rfl
 refine⟨a,p,?_⟩;unfold Builtin.append_;simp only[iI,kW,mJ,bX,y,f,b8,F.run_sizeOf,cW,jE,b9,e,v,cq,ia,z,dg,bt,k]
end
def Dr{α:Type}{P:aq}{x:Sem α}{w:az}{es:Array Event}{e:Event}(h:e∈x.events P w es):e∈es∨e∈x.events P w #[]:=by
 grind [Sem.events_acc]
def Zn(s:St)(e:Event):Prop:=∃ b o u,e=zo b o/\s.M b o=aa u
def gM{P:aq}{σ:List aV}{s:St}(y:aJ σ s){v:ak}{t:Bool}{k n:Nat}{es:Nat->List C}(h:Rd s.M v (.sl t k n es)){w:az}(F:w.heap=s.w.heap) :
  ∀ e∈(Builtin.firstCells k n v).events P w #[],Zn s e:=by
 obtain⟨a,cap,vs,rfl,r,G,J,z,B⟩:=h.flat;have H:vs.length=n*k:=z.len;intro e l;cases a with
 |none=>simp[Builtin.firstCells] at l
 |some ad =>
  simp only[Builtin.firstCells] at l;have c:∀ j,j<n*k->∃ b off u,ad=⟨b,off,af⟩/\s.M b (off+j)=aa u:=by
   intro j o;obtain⟨b,off,I,m⟩:=B j (vs[j]'(by omega)) (br (by omega))
   grind
  by_cases A:n*k=0
  .rw[A] at l;simp[loadCells,loadCellsFrom] at l
  .obtain⟨b,off,_,rfl,_⟩:=c 0 (by omega)
   have D:∀ j,j<n*k->∃ v,w.cell? ⟨b,off+j,af⟩=aa v:=by
    intro j o;obtain⟨x,f,u,p,m⟩:=c j o;cases p;have:=y.mem _ _ _ m;exact⟨u,by simp only[a9,F] at this ⊢;exact this⟩
   rcases rr (P:=P) D e l with h|⟨j,o,rfl⟩
   .grind
   .obtain⟨x,f,u,p,m⟩:=c j o;cases p;exact⟨_,_,u,rfl,m⟩
theorem sL{s:St}{e:Event}(h:Zn s e):ov s e:=by
 obtain⟨b,o,u,rfl,a⟩:=h;exact Bf a
section
variable {P:aq}{σ:List aV}{s:St}{t g ty E:ar}{i i2 d:TI}
def jH(hi:bG P t i)(v:i.desc=.slice E)(h:bG P g i2)(m:i2.desc=.slice E)(B:bG P E d)(o:aJ σ s)
  {a:Option Addr} {n cap:Nat} (c:n<=cap) {x:ak} {tx:Bool} {es':Nat->List C} (j:Rd s.M x (.sl tx d.size 0 es')) :
  eX s ((Builtin.append_ #[t,g] ty #[.slice a n cap,x]).events P s.w #[]):=by
 obtain⟨f,A,y,p⟩:=dK (P:=P) o j;have l:=gM (P:=P) o j (w:=s.w) rfl;have u:=hi.run_underlying (w:=s.w);have b:=h.run_underlying (w:=s.w);rw[v] at u;rw[m] at b;obtain⟨a',r,vs,rfl,_⟩:=j.flat;have k:f=[]:=hX (by simpa using A.len)
 subst k;intro e z;refine sL (l e ?_);cases a <;> simpa[Builtin.append_,u,b,B.run_sizeOf,Builtin.lenOf,c,y,storeCells] using z
def iV(hi:bG P t i)(hd:i.desc=.slice E)(K:bG P g i2)(Q:i2.desc=.slice E)(U:bG P E d)(O:aJ σ s)
  {a:Option Addr} {n cap m:Nat} {td tx:Bool} {es es':Nat->List C} {x:ak} (W:Rd s.M (.slice a n cap) (.sl td d.size n es)) (R:Rd s.M x (.sl tx d.size m es')) (hg:cap<n+m) (S:(n+m)*d.bytes<=140737488355328) (L:d.bytes≠0) :
  eX s ((Builtin.append_ #[t,g] ty #[.slice a n cap,x]).events P s.w #[]):=by
 have B:aJ σ { s with w:=s.w.drew }:=O.same rfl;obtain⟨F,hF,G,b⟩:=dK (P:=P) B (v:=x) R;obtain⟨D,Z,l,hlo⟩:=dK (P:=P) B (v:=.slice a n cap) W;have M9:=gM (P:=P) O R (w:=s.w.drew) rfl;have V:=gM (P:=P) O W (w:=s.w.drew) rfl;have X:=hi.run_underlying (w:=s.w);have p:=K.run_underlying (w:=s.w);rw[hd] at X;rw[Q] at p;obtain⟨c,z,Y,z2,z3,z4,z5,z6,z7⟩:=U.info;have hle:n+m<=140737488355328:=eK (qV _ (Nat.pos_of_ne_zero L)) S;have Zm:=rq hg S;have y:¬Builtin.nextslicecap (n+m) cap*c.bytes>2 ^ 48:=by grind
 have A:¬n+m<=cap:=by omega
 have N:¬((n+m:Nat):Int)>IntKind.i64.max:=by
  have e:IntKind.i64.max=9223372036854775807:=rfl
  grind
 have I:∀ u,(typeInfo E).run P u=.ok c u:=λu=>by simp[typeInfo,Y]
 have H:∀ u,(zeroValue E).run P u=.ok z u:=λu=>by simp[zeroValue,typeInfo,Y,z4]
 have f:(Builtin.lenOf x).run P s.w=.ok m s.w:=by rw[b];rfl
 have k:(Builtin.lenOf x).events P s.w #[]=#[]:=by rw[b];rfl
 replace G:(Builtin.firstCells d.size m x).run P s.w.drew=.ok F.toArray s.w.drew:=G
 replace l:(Builtin.firstCells d.size n (.slice a n cap)).run P s.w.drew=.ok D.toArray s.w.drew:=l
 intro e o;unfold Builtin.append_ at o;simp only[iI,kW,mJ,aO,bX,X,p,b8,aU,U.run_sizeOf,cW,jE,b9,f,k,A,
  N,false_and,I,y,run_choose,Question.forced,run_askRoom,pK,Sem.events_ite,World.drew_eq,l,G,ia,cq,H,events_underlying,events_sizeOf,events_typeInfo,events_choose,events_zeroValue,Sem.events_pure] at o
 have J:∀ (x:Nat) (w:az) (e:Event),e∈(askRoom x).events P w #[]->e=⟨.mark .noRoom,ae,ab⟩:=by
  intro x w e h;unfold askRoom at h
  simp_all
 rw[cN.newRow (P:=P)] at o;generalize (Go.newRow E _).run P s.w.drew=r at o;have j:e∈(Builtin.firstCells d.size m x).events P s.w.drew ((Builtin.firstCells d.size n (.slice a n cap)).events P s.w.drew ((askRoom ((Question.appendCap (n+m) cap E).cut (s.w.tape s.w.drawn (Question.appendCap (n+m) cap E))*c.bytes)).events P s.w.drew #[])):=by
  cases r with
  |ok v w'=>simpa using o
  |halt v w'=>simpa using o
 rcases Dr j with j|j
 .rcases Dr j with j|j
  .rw[J _ _ _ j];exact .inl rfl
  grind [sL]
 grind [sL]
def lO(hi:bG P t i)(R:i.desc=.slice E)(v:bG P g i2)(B:i2.desc=.slice E)(S:bG P E d)(K:aJ σ s)
  {b n cap m:Nat} {F:ar} {a:List ak} (I:s.w.heap[b]?=aa (.cells a.toArray F (0,0))) (r:a.length=cap*d.size) {tx:Bool} {es':Nat->List C} {x:ak} (G:Rd s.M x (.sl tx d.size m es')) (H:n+m<=cap)
  {L:Loc} (W:L∈s.β) (N:b∈L.bs) (z:∀ o,n*d.size<=o->s.M b o=af) :
  eX s ((Builtin.append_ #[t,g] ty #[.slice (aa ⟨b,0,af⟩) n cap,x]).events P s.w #[]):=by
 obtain⟨c,A,O,f⟩:=dK (P:=P) K G;have Q:=gM (P:=P) K G (w:=s.w) rfl;have J:=hi.run_underlying (w:=s.w);have p:=v.run_underlying (w:=s.w);rw[R] at J;rw[B] at p;have D:n*d.size+c.length<=a.length:=by
  rw[A.len,r,<-gQ];exact et _ H
 have u:=run_storeCells_at P b (n*d.size) F c 0 a.toArray s.w I (by grind) A.cell
 simp only[iN] at u;have k:(Builtin.lenOf x).run P s.w=.ok m s.w:=by rw[f];rfl
 have l:(Builtin.lenOf x).events P s.w #[]=#[]:=by rw[f];rfl
 intro e y;unfold Builtin.append_ at y;simp only[iI,kW,mJ,aO,bX,J,p,aU,S.run_sizeOf,cW,jE,b9,k,l,H,cq,ia,O,dg,bt,u,
  pK,Sem.events_ite,events_underlying,events_sizeOf,Sem.events_pure] at y
 rcases eE c 0 a.toArray s.w _ I (by grind) A.cell e y with h|⟨j,V,U,rfl⟩
 .grind [sL]
 grind [mh]
end
structure mg (P:aq)(o:aw)(x y:an)(E:ar)(d:TI):Prop where
 op:∃ t g i i2,o.op=.call { callee:=.builtin .append,args:=#[x,y],argTypes:=#[t,g] }/\bG P t i/\i.desc=.slice E/\bG P g i2/\i2.desc=.slice E
 elem:bG P E d
 bytes:d.bytes≠0
 size:d.size≠0
def St.grown(s:St)(E:ar)(vs zs:List ak)(β:List Loc):St :=
 { β:=β,M:=λb o=>if b=s.w.heap.size then vs[o]? else s.M b o,w:=s.w.drew.alloc (.cells (vs++zs).toArray E),own:=s.own }
def yb{σ:List aV}{s:St}(h:aJ σ s)(E:ar)(vs zs:List ak):∀ b o v,(if b=s.w.heap.size then vs[o]? else s.M b o)=aa v->(s.w.drew.alloc (.cells (vs++zs).toArray E)).cell? ⟨b,o,af⟩=aa v:=by
 intro b o v a
 by_cases e:b=s.w.heap.size
 .subst e;simp only[cq] at a;unfold a9;have:(s.w.drew.alloc (.cells (vs++zs).toArray E)).heap[s.w.heap.size]?=aa (.cells (vs++zs).toArray E):=dt s.w.drew _
  grind
 .simp only[e,b9] at a;have c:=h.block a;rw[<-h.mem b o v a];unfold a9;have:(s.w.drew.alloc (.cells (vs++zs).toArray E)).heap[b]?=s.w.heap[b]?:=cJ s.w.drew _ c
  grind
def yc{σ:List aV}{s:St}(h:aJ σ s)(vs:List ak):∀ b o v,s.M b o=aa v->(if b=s.w.heap.size then vs[o]? else s.M b o)=aa v:=by
 intro b o v a;have:=h.block a
 grind
theorem eB{P:aq}{s:St}{m:Sem ak}(h:eX s (m.events P s.w #[])):eX s ((do pure (.value (<-m)):Sem Next).events P s.w #[]):=by
 simp_all
theorem cY{o:aw}{x y:an}{t g:ar}(h:o.op=.call { callee:=.builtin .append,args:=#[x,y],argTypes:=#[t,g] })(ρ:an->ak) :
  ay ρ o=(do pure (.value (<-Builtin.append_ #[t,g] o.type #[ρ x,ρ y]))):=by
 simp[ay,h,resolve,invoke,builtin]
def Rd.loose{M:Mem}{v:ak}{t:Bool}{k n:Nat}{es:Nat->List C}(h:Rd M v (.sl t k n es)):Rd M v (.sl ae k n es):=by
 cases h with
 |sl b off f a hb ht hk ha hm hr=>exact .sl b off f a hb (by simp) hk ha hm hr
def Rd.Dp{M:Mem}{v:ak}{t:Bool}{k n:Nat}{es es':Nat->List C}(e:∀ i,i<n->es i=es' i)(h:Rd M v (.sl t k n es)):Rd M v (.sl t k n es'):=by
 cases h with
 |sl b off f a hb ht hk ha hm hr=>exact .sl b off f a hb ht (λi hi=>by grind) ha (λi hi j c hj=>hm i hi j c (by grind)) (λi hi j c hj=>hr i hi j c (by grind))
def Rd.uU{M:Mem}{v:ak}{k k' n:Nat}{es:Nat->List C}(b:k=k'∨n=0)(h:Rd M v (.sl ab k n es)):Rd M v (.sl ab k' n es):=by
 rcases b with rfl|rfl
 .exact h
 .obtain⟨a,cap,vs,j,f,c,e,_⟩:=h.flat
  grind [Rd.jI]
def pO{σ:List aV}{s:St}{l:Nat}{E:ar}{k n:Nat}{es:Nat->List C}{L:Loc}(a:σ[l]?=aa (.vec E k n es))(b:s.β[l]?=aa L)(h:eO σ s (.vec E k n es) L):gv σ s L.v (.vec l k n es):=by
 refine⟨h.1,(cp.1 a).1,λc k' n' es' he=>?_⟩
 grind
def bF.oN{P:aq}{o:aw}{S:an->D}{σ:List aV}{x y:an}{E:ar}{d:TI}(h:mg P o x y E d){n m k:Nat}{tx:Bool}{es es':Nat->List C}
  (Y:S x=.e (.one (.c (.sl ab k n es)))) (hk:k=d.size∨n=0) (hy:∀ s v,c8 σ s v (S y)->Rd s.M v (.sl tx d.size m es')) (hb:(n+m)*d.bytes<=140737488355328) (hz:n=0∨0<m) :
  bF P o S σ (.e (.one (.vec σ.length d.size (n+m) (cO n es es')))) (σ++[.vec E d.size (n+m) (cO n es es')]):=by
 intro s ρ hh hr;obtain⟨t,g,i,i2,L,hi,K,z,A⟩:=h.op;have h1:=hr x;rw[Y] at h1;have f:=Rd.uU hk (fx h1);have h2:=hy s _ (hr y);obtain⟨a,cap,vs,hv,B,I2,Z,hF,W⟩:=f.flat;have Q:cap=n:=Z rfl;subst Q;rw[cY L];rw[hv] at f ⊢
 by_cases h0:m=0
 .subst h0;have r:=jd (P:=P) (ty:=o.type) hi K z A h.elem hh (a:=a) B h2;simp only[iN];have f:=Rd.Dp (es':=cO cap es es') (λi hi=>by grind) f
  have I:eO (σ++[.vec E d.size cap (cO cap es es')]) { s with β:=s.β++[⟨.slice a cap cap,[]⟩] } (.vec E d.size cap (cO cap es es')) ⟨.slice a cap cap,[]⟩:=⟨f.loose,.inl ⟨⟨rfl,by omega⟩,f⟩⟩
  obtain⟨R,g2⟩:=hh.gR (.refl _ _) rfl hh I (by simp)
  refine⟨.value (.slice a cap cap),_,?_,?_,R,g2,eB (jH hi K z A h.elem hh B h2)⟩
  .simp[r]
  .exact pO (by simp) (by simp[<-hh.len]) I
 .have V:cap<cap+m:=by omega
  obtain⟨j,F,l,H,N,U,J,r⟩:=il (P:=P) (ty:=o.type) hi K z A h.elem hh f h2 V hb h.bytes;have G:aJ σ (s.grown E j F s.β)/\Step σ s σ (s.grown E j F s.β) :=
   hh.grow (by simp) (λb hb=>cJ s.w.drew _ hb) (λb hb o=>by grind)
    (λb hb o v W=>yb hh E j F b o v W) rfl rfl rfl
  have O:Rd (s.grown E j F s.β).M (.slice (aa ⟨s.w.heap.size,0,af⟩) (cap+m) l) (.sl ae d.size (cap+m) (cO cap es es')) :=
   Rd.qu (H.mono G.2.mem) (b:=s.w.heap.size) (off:=0) (λ_=>rfl) N U (by simp) (λp u X=>by simpa[St.grown] using X)
  have I:eO (σ++[.vec E d.size (cap+m) (cO cap es es')]) { (s.grown E j F s.β) with β:=(s.grown E j F s.β).β++[⟨.slice (aa ⟨s.w.heap.size,0,af⟩) (cap+m) l,[s.w.heap.size]⟩] } (.vec E d.size (cap+m) (cO cap es es')) ⟨.slice (aa ⟨s.w.heap.size,0,af⟩) (cap+m) l,[s.w.heap.size]⟩:=by
   refine⟨O,.inr ⟨s.w.heap.size,l,j++F,rfl,dt s.w.drew _,J,λo L=>?_⟩⟩
   have hl:j.length<=o:=by rw[H.len];exact L
   simp[St.grown,qX hl]
  obtain⟨R,g2⟩:=G.1.gR G.2 rfl hh I (λb hb=>by
   simp at hb;subst hb;refine⟨bg _,?_⟩;simp[St.grown])
  refine⟨.value (.slice (aa ⟨s.w.heap.size,0,af⟩) (cap+m) l),_,?_,?_,R,g2,eB (iV hi K z A h.elem hh f h2 V hb h.bytes)⟩
  .simp[r];rfl
  .exact pO (by simp) (by simp[St.grown,<-hh.len]) I
def bF.GH{P:aq}{o:aw}{η:an->D}{σ:List aV}{x y:an}{E:ar}{d:TI}(h:mg P o x y E d){l n m:Nat}{tx:Bool}{es es':Nat->List C}
  (hx:η x=.e (.one (.vec l d.size n es))) (hl:σ[l]?=aa (.vec E d.size n es)) (hy:∀ s v,c8 σ s v (η y)->Rd s.M v (.sl tx d.size m es')) (hb:(n+m)*d.bytes<=140737488355328) :
  bF P o η σ (.e (.one (.vec l d.size (n+m) (cO n es es')))) (σ.set l (.vec E d.size (n+m) (cO n es es'))):=by
 intro s ρ hh hr;obtain⟨t,g,i,i2,Z,hi,hd,I,J⟩:=h.op;have Qq:l<σ.length:=(cp.1 hl).1;have h1:=hr x;rw[hx] at h1;obtain⟨R,_,h1v⟩:=h1;obtain⟨L,V,hv⟩:=(h1v _ _ _ _ hl).2 rfl;have h2:=hy s _ (hr y);have Qs:l<s.β.length:=(cp.1 V).1;have Q:=hh.box l _ L hl V;obtain⟨a,cap,vs,Pp,U,I2,ht,hF,hm⟩:=R.flat;rw[cY Z,Pp];rw[Pp] at R;have S:L.v=.slice a n cap:=by grind
 by_cases h0:m=0
 .subst h0;have r:=jd (P:=P) (ty:=o.type) hi hd I J h.elem hh (a:=a) U h2;simp only[iN];have ha:∀ i,i<n->es i=cO n es es' i:=λi hi=>by simp[cO,hi]
  have VL:eO (σ.set l (.vec E d.size n (cO n es es'))) ⟨s.β.set l L,s.M,s.w,s.own⟩ (.vec E d.size n (cO n es es')) L:=by
   refine⟨Q.1.Dp ha,?_⟩;rcases Q.2 with⟨h3,h4⟩|h3
   .exact .inl ⟨h3,h4.Dp ha⟩
   grind
  have f:=hh.iO (M':=s.M) (w':=s.w) (B':=.vec E d.size n (cO n es es')) (L':=L) hl V ⟨λ_=>rfl,bg _⟩ (bg _) (λ_ _ _=>rfl) (λ_ _ _ _=>rfl) (λ_ _ _ h=>h) hh.mem
   (λb hb=>⟨.inl hb,hh.lt L (bT V) b hb⟩) rfl rfl rfl VL
  refine⟨.value (.slice a n cap),_,?_,?_,f.1,f.2,eB (jH hi hd I J h.elem hh U h2)⟩
  .simp[r]
  .rw[<-S];exact pO (E:=E) (by grind) (by grind) VL
 .have N:¬(n+m=n):=by omega
  by_cases k:n+m<=cap
  .rcases Q.2 with⟨Tn,F⟩|⟨b,I0,z,rfl,hw,O,Y⟩
   .rw[S] at F;obtain⟨_,_,_,e,_,_,ht2,_⟩:=F.flat
    grind
   .simp only at S;cases S;obtain⟨c,MR,r⟩:=j8 (P:=P) (ty:=o.type) hi hd I J h.elem hh hw O h2 k;have Tk:c.length=m*d.size:=MR.len;have Wt:b<s.w.heap.size:=(hY.1 hw).1
    let M':Mem:=λG o=>if G=b/\n*d.size<=o/\o<(n+m)*d.size then c[o-n*d.size]? else s.M G o
    have GI:z.length=cap*d.size:=O;have hnm:(n+m)*d.size=n*d.size+m*d.size:=gQ _ _ _;have Zo:(n+m)*d.size<=cap*d.size:=et _ k;have Zp:∀ G o v,s.M G o=aa v->M' G o=aa v:=by
     grind
    have Qo:∀ p u,c[p]?=aa u->M' b (n*d.size+p)=aa u:=by
     grind
    have X:Rd M' (.slice (aa ⟨b,0,af⟩) (n+m) cap) (.sl ae d.size (n+m) (cO n es es')):=by
     refine Rd.qu (vs:=vs++c) ((hF.append MR).mono Zp) (b:=b) (off:=0) (λ_=>rfl) k I2 (by simp) (λp u hp=>?_)
     have Po:vs.length=n*d.size:=hF.len
     grind
    have f:=hh.iO (M':=M') (w':=s.w.setRow b (z.take (n*d.size)++c++z.drop (n*d.size+c.length)).toArray) (B':=.vec E d.size (n+m) (cO n es es')) (L':=⟨.slice (aa ⟨b,0,af⟩) (n+m) cap,[b]⟩) hl V
     ⟨λe=>absurd e N,by omega⟩ (by simp) (λG _ K=>setRow_other _ _ _ _ (by grind)) (λG _ K o=>by
      grind) Zp ?_ (λG K=>by
      simp at K;subst K;exact⟨.inl (by simp),by simpa using Wt⟩) rfl rfl rfl ?_
    .refine⟨.value (.slice (aa ⟨b,0,af⟩) (n+m) cap),_,?_,?_,f.1,f.2,eB (lO hi hd I J h.elem hh hw O h2 k (bT V) (by simp) Y)⟩
     .simp[r]
     .exact pO (L:=⟨.slice (aa ⟨b,0,af⟩) (n+m) cap,[b]⟩) (E:=E) (by grind) (by grind) (f.1.box l _ _ (by grind) (by grind))
    .intro G o v H
     by_cases K:G=b
     .subst K;have W:∀ j,(s.w.setRow G (z.take (n*d.size)++c++z.drop (n*d.size+c.length)).toArray).cell? ⟨G,j,af⟩=(z.take (n*d.size)++c++z.drop (n*d.size+c.length))[j]?:=by
       grind [cell_setRow_same]
      rw[W];simp only[M'] at H;have hkl:(z.take (n*d.size)).length=n*d.size:=by rw[List.length_take];omega
      split at H
      .grind
      .rename_i hc
       have h3:=hh.mem G o v H;have Z:o<n*d.size:=by
        grind
       rw[j5,jD (by omega),gO,bc Z]
       simp only[a9,hw] at h3
       grind
     .simp only[M'] at H;rw[aY (by omega)] at H
      rw[<-hh.mem G o v H];simp only[a9]
      grind [setRow_other]
    .refine⟨X,.inr ⟨b,cap,_,rfl,setRow_heap _ _ _ _ _ _ hw,?_,λo Z=>?_⟩⟩
     .grind
     grind
  .have hg:cap<n+m:=by omega
   obtain⟨A,zs,B,Tl,VM,VN,hlen,r⟩:=il (P:=P) (ty:=o.type) hi hd I J h.elem hh R h2 hg hb h.bytes;have hbl:∀ b∈L.bs,b<s.w.heap.size:=hh.lt L (bT V);have X:Rd (λb o=>if b=s.w.heap.size then A[o]? else s.M b o) (.slice (aa ⟨s.w.heap.size,0,af⟩) (n+m) B) (.sl ae d.size (n+m) (cO n es es')) :=
    Rd.qu (Tl.mono (yc hh A)) (b:=s.w.heap.size) (off:=0) (λ_=>rfl) VM VN (by simp) (λp u hp=>by grind)
   have f:=hh.iO (M':=λb o=>if b=s.w.heap.size then A[o]? else s.M b o) (w':=s.w.drew.alloc (.cells (A++zs).toArray E)) (B':=.vec E d.size (n+m) (cO n es es')) (L':=⟨.slice (aa ⟨s.w.heap.size,0,af⟩) (n+m) B,[s.w.heap.size]⟩) hl V
    ⟨λe=>absurd e N,by omega⟩ (by simp) (λb hb _=>cJ s.w.drew _ hb) (λb hb _ o=>by grind) (yc hh A) (yb hh E A zs) (λb hb=>by
     simp at hb;subst hb;exact⟨.inr (bg _),by simp⟩) rfl rfl rfl ⟨X,.inr ⟨s.w.heap.size,B,A++zs,rfl,dt s.w.drew _,hlen,λo Z=>by
      have hl:A.length<=o:=by rw[Tl.len];exact Z
      grind⟩⟩
   refine⟨.value (.slice (aa ⟨s.w.heap.size,0,af⟩) (n+m) B),_,?_,?_,f.1,f.2,eB (iV hi hd I J h.elem hh R h2 hg hb h.bytes)⟩
   .simp[r]
   .exact pO (L:=⟨.slice (aa ⟨s.w.heap.size,0,af⟩) (n+m) B,[s.w.heap.size]⟩) (E:=E) (by grind) (by grind) (f.1.box l _ _ (by grind) (by grind))
section
open Go.Conc (G)
def kI{α:Type}:List Nat->List α->Option (List α)
 |[],_=>aa []
 |k::ks,l=>match fu k l with
  |some x=>match kI ks l with
   |some r=>aa (x::r)
   |none=>af
  |none=>af
def eY{α:Type}:∀ (n:Nat)(l:List α),fu n l=l[n]?
 |_,[]=>by simp[fu]
 |0,x::_=>by simp[fu]
 |n+1,_::xs=>by simpa[fu] using eY n xs
def iA{α:Type}:∀ {ks:List Nat}{l r:List α},kI ks l=aa r->r.length=ks.length/\∀ (j k:Nat),ks[j]?=aa k->∃ x,r[j]?=aa x/\l[k]?=aa x
 |[],l,r,h=>by cases h;simp
 |k::ks,l,r,h=>by
  simp only[kI] at h;cases b:fu k l with
  |none=>grind
  |some x =>
   cases a:kI ks l with
   |none=>grind
   |some q =>
    simp[b,a] at h;subst h;obtain⟨c,d⟩:=iA a
    grind [dw]
def zv{α d:Type}:∀ {ks:List Nat}{l r:List α}{l':List d},kI ks l=aa r->l'.length=l.length->∃ r',kI ks l'=aa r'
 |[],l,r,l',_,_=>⟨[],rfl⟩
 |k::ks,l,r,l',h,b=>by
  simp only[kI] at h;cases f:fu k l with
  |none=>grind
  |some x =>
   cases c:kI ks l with
   |none=>grind
   |some q =>
    obtain⟨r',a⟩:=zv (l':=l') c b;have e:k<l'.length:=by rw[b];exact(cp.1 (dw f)).1
    exact⟨l'[k]::r',by simp[kI,eY,e,a]⟩
def oy(ks:List Nat):A->A
 |.ptr l o=>match fu l ks with|some k=>.ptr k o|none=>.any
 |.vec l k n es=>match fu l ks with|some m=>.vec m k n es|none=>.c (.sl ae k n es)
 |.ref l=>match fu l ks with|some k=>.ref k|none=>.any
 |.bp l w=>match fu l ks with|some k=>.bp k w|none=>.any
 |.c x=>.c x
 |.any=>.any
def Bo(ks:List Nat):List A->List A
 |[]=>[]
 |a::r=>oy ks a::Bo ks r
def zw(ks:List Nat):E1->E1
 |.one a=>.one (oy ks a)
 |.agg cs=>.agg (Bo ks cs)
def ye(ks:List Nat):List E1->List E1
 |[]=>[]
 |a::r=>zw ks a::ye ks r
def jB(ks:List Nat):D->D
 |.e x=>.e (zw ks x)
 |.eJ xs=>.eJ (ye ks xs)
 |.any=>.any
def iX(ks:List Nat):List D->List D
 |[]=>[]
 |a::r=>jB ks a::iX ks r
def DG:A->Bool
 |.c _|.any=>ab
 |_=>ae
def zx:List A->Bool
 |[]=>ab
 |a::r=>match DG a with|true=>zx r|false=>ae
def vv:aV->Bool
 |.cells _ cs=>zx cs
 |.loop ..=>ae
 |_=>ab
def cU:List aV->Bool
 |[]=>ab
 |a::r=>match vv a with|true=>cU r|false=>ae
def kJ:∀ {l:List aV},cU l=ab->∀ B∈l,vv B=ab
 |[],_,B,a=>by grind
 |b::r,h,B,a=>by
  simp only[cU] at h;cases c:vv b with
  |false=>grind
  |true =>
   simp only[c] at h;rcases e9.1 a with rfl|a
   .exact c
   .exact kJ h B a
def dM.plain{σ σ':List aV}{s s':St}(e:s'.M=s.M):∀ {vs:List ak}{cs:List A},zx cs=ab->dM σ s vs cs->dM σ' s' vs cs
 |[],[],_,_=>trivial
 |[],_::_,_,h=>h.elim
 |_::_,[],_,h=>h.elim
 |v::vs,a::al,b,h=>by
  simp only[zx] at b;cases d:DG a with
  |false=>grind
  |true =>
   simp only[d] at b;refine⟨?_,dM.plain e b h.2⟩;cases a with
   |c x=>have:=h.1;simp only[gv] at this ⊢;grind
   |any=>exact h.1
   |_=>simp[DG] at d
def eO.plain{σ σ':List aV}{s s':St}(a:s'.M=s.M)(c:s'.w=s.w){B:aV}{L:Loc}(d:vv B=ab)(h:eO σ s B L):eO σ' s' B L:=by
 cases B with
 |cells E cs =>
  obtain⟨b,vs,h1,h2,e,f⟩:=h;exact⟨b,vs,h1,by grind,e.plain a d,λo=>by rw[a];grind⟩
 |vec E k n es=>simp only[eO,a,c] at h ⊢;exact h
 |dz H=>simp only[eO,a,c] at h ⊢;exact h
 |dead=>trivial
 |loop N φ r=>simp[vv] at d
 |qS=>simp only[eO,a,c] at h ⊢;exact h
 |buf E k n es=>simp only[eO,a,c] at h ⊢;exact h
def fJ:Nat->List Nat->Bool
 |_,[]=>ae
 |k,x::r=>match aG k x with|true=>ab|false=>fJ k r
def eg:List Nat->Bool
 |[]=>ab
 |k::r=>match fJ k r with|true=>ae|false=>eg r
theorem rD:∀ {k:Nat}{l:List Nat},k∈l->fJ k l=ab
 |k,[],h=>by grind
 |k,x::r,h=>by
  simp only[fJ];cases a:aG k x with
  |true=>rfl
  |false =>
   rcases e9.1 h with rfl|h
   .grind [Nat.beq_refl]
   .exact rD h
def vA:∀ {l:List Nat},eg l=ab->∀ (i j k:Nat),l[i]?=aa k->l[j]?=aa k->i=j
 |[],_,i,j,k,hi,_=>by grind
 |x::r,h,i,j,k,hi,a=>by
  simp only[eg] at h;cases b:fJ x r with
  |true=>grind
  |false =>
   simp only[b] at h;have no:∀ q,r[q]?=aa x->False:=λq c=>by
    have:=rD (bT c)
    grind
   cases i with
   |zero =>
    grind
   |succ i =>
    cases j with
    |zero =>
     grind
    |succ j =>
     simp at hi a;rw[vA h i j k hi a]
def GN(n:Nat):A->Bool
 |.ptr l _|.vec l _ _ _|.ref l|.bp l _=>bo (l+1) n
 |_=>ab
def DH(n:Nat):List A->Bool
 |[]=>ab
 |a::r=>match GN n a with|true=>DH n r|false=>ae
def Ji(n:Nat):E1->Bool
 |.one a=>GN n a
 |.agg cs=>DH n cs
def xB(n:Nat):List E1->Bool
 |[]=>ab
 |a::r=>match Ji n a with|true=>xB n r|false=>ae
def u5(n:Nat):D->Bool
 |.e x=>Ji n x
 |.eJ xs=>xB n xs
 |.any=>ab
def ow(n:Nat):List D->Bool
 |[]=>ab
 |a::r=>match u5 n a with|true=>ow n r|false=>ae
section sub
variable {ks:List Nat}{σ σ':List aV}{s:St}{β':List Loc}
def gv.sub(t:kI ks σ=aa σ')(r:kI ks s.β=aa β'){v:ak}{a:A}(d:gv σ s v (oy ks a))(e:GN ks.length a=ab):gv σ' { s with β:=β' } v a:=by
 obtain⟨u,j⟩:=iA t;obtain⟨z,g2⟩:=iA r;cases a with
 |c x=>exact d
 |any=>exact d
 |ptr l o =>
  have hl:l<ks.length:=c7 e;simp only[oy,eY,br hl] at d;obtain⟨h1,L,b,h2,g,q⟩:=d;obtain⟨x,i,m⟩:=j l _ (br hl);obtain⟨y,h,f⟩:=g2 l _ (br hl);rw[f] at h2;cases h2;exact⟨λB p=>h1 B (by grind),L,b,h,g,q⟩
 |vec l k n es =>
  have hl:l<ks.length:=c7 e;simp only[oy,eY,br hl] at d;obtain⟨h1,h2,g⟩:=d;obtain⟨x,i,m⟩:=j l _ (br hl);obtain⟨y,h,f⟩:=g2 l _ (br hl);refine⟨h1,by grind,λE k' n' es' p=>?_⟩
  grind
 |ref l =>
  have hl:l<ks.length:=c7 e;simp only[oy,eY,br hl] at d;obtain⟨h1,L,h2,g,q⟩:=d;obtain⟨x,i,m⟩:=j l _ (br hl);obtain⟨y,h,f⟩:=g2 l _ (br hl);rw[f] at h2;cases h2;exact⟨λB p=>h1 B (by grind),L,h,g,q⟩
 |bp l w =>
  have hl:l<ks.length:=c7 e;simp only[oy,eY,br hl] at d;obtain⟨lv,h1,h2,g⟩:=d;obtain⟨x,i,m⟩:=j l _ (br hl);obtain⟨y,h,f⟩:=g2 l _ (br hl);refine⟨lv,h1,(cp.1 i).1,λE k n es p=>?_⟩
  grind
def gv.mW{σ2:List aV}{s2:St}(u:s2.M=s.M)(e:∀ (j:Nat)(B:aV),σ[j]?=aa B->∃ k,ks[j]?=aa k/\σ2[k]?=aa B)(h:∀ (j:Nat)(L:Loc),s.β[j]?=aa L->∃ k,ks[j]?=aa k/\s2.β[k]?=aa L)(t:s.β.length=σ.length)
  {v:ak} {a:A} (f:gv σ s v a):gv σ2 s2 v (oy ks a):=by
 cases a with
 |c x=>simp only[oy,gv,u];exact f
 |any=>exact f
 |ptr l o =>
  obtain⟨h1,L,b,h2,g,p⟩:=f;obtain⟨k,k1,q⟩:=h l L h2;have hl:l<σ.length:=by grind
  obtain⟨k',d,r⟩:=e l _ (br hl);rw[k1] at d;cases d;simp only[oy,eY,k1];refine⟨λB m=>?_,L,b,q,g,p⟩
  grind
 |vec l k n es =>
  obtain⟨h1,h2,g⟩:=f;obtain⟨k1,i,p2⟩:=e l _ (br h2);simp only[oy,eY,i];refine⟨by grind,(cp.1 p2).1,λE k' n' es' m=>?_⟩
  grind
 |ref l =>
  obtain⟨h1,L,h2,g,p⟩:=f;obtain⟨k,k1,q⟩:=h l L h2;have hl:l<σ.length:=by grind
  obtain⟨k',d,r⟩:=e l _ (br hl);rw[k1] at d;cases d;simp only[oy,eY,k1];refine⟨λB m=>?_,L,q,g,p⟩
  grind
 |bp l w =>
  obtain⟨lv,h1,h2,g⟩:=f;obtain⟨k1,i,p2⟩:=e l _ (br h2);simp only[oy,eY,i];refine⟨lv,h1,(cp.1 p2).1,λE k' n' es' m=>?_⟩
  grind
def dM.sub(c:kI ks σ=aa σ')(b:kI ks s.β=aa β'):∀ {vs:List ak}{cs:List A},dM σ s vs (Bo ks cs)->DH ks.length cs=ab->dM σ' { s with β:=β' } vs cs
 |[],[],_,_=>trivial
 |[],_::_,h,_=>h.elim
 |_::_,[],h,_=>h.elim
 |v::vs,a::al,h,d=>by
  simp only[DH] at d;cases e:GN ks.length a with
  |false=>grind
  |true=>simp only[e] at d;exact⟨h.1.sub c b e,dM.sub c b h.2 d⟩
def mT.sub(c:kI ks σ=aa σ')(b:kI ks s.β=aa β'){v:ak}{x:E1}(h:mT σ s v (zw ks x))(d:Ji ks.length x=ab):mT σ' { s with β:=β' } v x:=by
 cases x with
 |one a=>exact gv.sub c b h d
 |agg cs=>obtain⟨vs,h1,h2⟩:=h;exact⟨vs,h1,h2.sub c b d⟩
def gI.sub(c:kI ks σ=aa σ')(b:kI ks s.β=aa β'):∀ {vs:List ak}{xs:List E1},gI σ s vs (ye ks xs)->xB ks.length xs=ab->gI σ' { s with β:=β' } vs xs
 |[],[],_,_=>trivial
 |[],_::_,h,_=>h.elim
 |_::_,[],h,_=>h.elim
 |v::vs,a::al,h,d=>by
  simp only[xB] at d;cases e:Ji ks.length a with
  |false=>grind
  |true=>simp only[e] at d;exact⟨h.1.sub c b e,gI.sub c b h.2 d⟩
def c8.sub(b:kI ks σ=aa σ')(a:kI ks s.β=aa β'){v:ak}{d:D}(h:c8 σ s v (jB ks d))(c:u5 ks.length d=ab):c8 σ' { s with β:=β' } v d:=by
 cases d with
 |e x=>exact mT.sub b a h c
 |eJ xs=>obtain⟨vs,h1,h2⟩:=h;exact⟨vs,h1,h2.sub b a c⟩
 |any=>trivial
def cw.sub(c:kI ks σ=aa σ')(b:kI ks s.β=aa β'):∀ {vs:List ak}{ds:List D},cw σ s vs (iX ks ds)->ow ks.length ds=ab->cw σ' { s with β:=β' } vs ds
 |[],[],_,_=>trivial
 |[],_::_,h,_=>h.elim
 |_::_,[],h,_=>h.elim
 |v::vs,a::al,h,d=>by
  simp only[ow] at d;cases e:u5 ks.length a with
  |false=>grind
  |true=>simp only[e] at d;exact⟨h.1.sub c b e,cw.sub c b h.2 d⟩
variable {σ2:List aV}{s2:St}
def dM.mW(d:s2.M=s.M)(b:∀ (j:Nat)(B:aV),σ[j]?=aa B->∃ k,ks[j]?=aa k/\σ2[k]?=aa B)(c:∀ (j:Nat)(L:Loc),s.β[j]?=aa L->∃ k,ks[j]?=aa k/\s2.β[k]?=aa L)(a:s.β.length=σ.length) :
  ∀ {vs:List ak} {cs:List A},dM σ s vs cs->dM σ2 s2 vs (Bo ks cs)
 |[],[],_=>trivial
 |[],_::_,h=>h.elim
 |_::_,[],h=>h.elim
 |_::_,_::_,h=>⟨h.1.mW d b c a,dM.mW d b c a h.2⟩
def mT.mW(e:s2.M=s.M)(c:∀ (j:Nat)(B:aV),σ[j]?=aa B->∃ k,ks[j]?=aa k/\σ2[k]?=aa B)(d:∀ (j:Nat)(L:Loc),s.β[j]?=aa L->∃ k,ks[j]?=aa k/\s2.β[k]?=aa L)(b:s.β.length=σ.length)
  {v:ak} {x:E1} (h:mT σ s v x):mT σ2 s2 v (zw ks x):=by
 cases x with
 |one a=>exact gv.mW e c d b h
 |agg cs=>obtain⟨vs,h1,h2⟩:=h;exact⟨vs,h1,h2.mW e c d b⟩
def gI.mW(d:s2.M=s.M)(b:∀ (j:Nat)(B:aV),σ[j]?=aa B->∃ k,ks[j]?=aa k/\σ2[k]?=aa B)(c:∀ (j:Nat)(L:Loc),s.β[j]?=aa L->∃ k,ks[j]?=aa k/\s2.β[k]?=aa L)(a:s.β.length=σ.length) :
  ∀ {vs:List ak} {xs:List E1},gI σ s vs xs->gI σ2 s2 vs (ye ks xs)
 |[],[],_=>trivial
 |[],_::_,h=>h.elim
 |_::_,[],h=>h.elim
 |_::_,_::_,h=>⟨h.1.mW d b c a,gI.mW d b c a h.2⟩
def c8.mW(f:s2.M=s.M)(b:∀ (j:Nat)(B:aV),σ[j]?=aa B->∃ k,ks[j]?=aa k/\σ2[k]?=aa B)(c:∀ (j:Nat)(L:Loc),s.β[j]?=aa L->∃ k,ks[j]?=aa k/\s2.β[k]?=aa L)(a:s.β.length=σ.length)
  {v:ak} {d:D} (h:c8 σ s v d):c8 σ2 s2 v (jB ks d):=by
 cases d with
 |e x=>exact mT.mW f b c a h
 |eJ xs=>obtain⟨vs,h1,h2⟩:=h;exact⟨vs,h1,h2.mW f b c a⟩
 |any=>trivial
end sub
def ef.rE{α:Type}:Nat->α->List α->List α
 |_,_,[]=>[]
 |0,x,_::r=>x::r
 |k+1,x,y::r=>y::ef.rE k x r
def ef{α:Type}:List Nat->List α->List α->List α
 |[],new,old=>old++new
 |k::ks,x::new,old=>ef ks new (ef.rE k x old)
 |_::_,[],old=>old
theorem kz{α:Type}:∀ (k:Nat)(x:α)(l:List α),ef.rE k x l=l.set k x
 |_,_,[]=>by simp[ef.rE]
 |0,x,_::r=>by simp[ef.rE]
 |k+1,x,y::r=>by simp[ef.rE,kz k x r]
def vB{α:Type}:∀ {ks:List Nat}{new old:List α},eg ks=ab->(∀ k∈ks,k<old.length)->ks.length<=new.length ->
  (ef ks new old).length=old.length+(new.length-ks.length)/\(∀ (j k:Nat),ks[j]?=aa k->(ef ks new old)[k]?=new[j]?) /\
  (∀ j,(ef ks new old)[old.length+j]?=new[ks.length+j]?)/\(∀ l,l<old.length->l∉ks->(ef ks new old)[l]?=old[l]?)
 |[],new,old,_,_,_=>by
  refine⟨by simp[ef],by simp,λj=>?_,λl d _=>?_⟩
  .simp only[ef,hZ,bt]
   grind
  .simp[ef,jD d]
 |k::ks,[],old,_,_,h=>by grind
 |k::ks,x::new,old,a,b,g=>by
  have f:=a;simp only[eg] at a;cases e:fJ k ks with
  |true=>grind
  |false =>
   simp only[e] at a;have o:k<old.length:=b k (by simp)
   have c:k∉ks:=λh=>by grind [rD]
   obtain⟨p,i,m,n⟩:=vB (ks:=ks) (new:=new) (old:=old.set k x) a (λk' Zy=>by grind) (by grind)
   simp only[ef,kz]
   grind
def Ev{P:aq}(X:Cx P)(f:aW)(args:List D)(σ:List aV)(res:D)(σ':List aV):Prop :=
 (∃ fn,P.funcs[f]?=aa fn/\(fn.name== "runtime.NumGoroutine")=ae/\fn.body.isNone=ae) /\
 ∀ s (vs:List ak),cw σ s vs args->aJ σ s->∀ (S:au->St->Prop) (cs:List aR),
  (∀ a v s',uq P f a v s'->c8 σ' s' v res->aJ σ' s'->cB σ s σ' s'->fp X S (G a cs) s')->fp X S (G (Frame.enter P f vs.toArray .normal) cs) s
def cK{P:aq}{ι:Type}(X:Cx P)(f:aW)(args:List D)(σ:List aV)(res:ι->D)(σ':ι->List aV):Prop :=
 (∃ fn,P.funcs[f]?=aa fn/\(fn.name== "runtime.NumGoroutine")=ae/\fn.body.isNone=ae) /\
 ∀ s (vs:List ak),cw σ s vs args->aJ σ s->∀ (S:au->St->Prop) (cs:List aR),
  (∀ i a v s',uq P f a v s'->c8 (σ' i) s' v (res i)->aJ (σ' i) s'->cB σ s (σ' i) s'->fp X S (G a cs) s')->fp X S (G (Frame.enter P f vs.toArray .normal) cs) s
def Ev.Bc{P:aq}{X:Cx P}{f:aW}{args:List D}{σ:List aV}{res:D}{σ':List aV}(h:Ev X f args σ res σ'):cK (ι:=Unit) X f args σ (λ_=>res) (λ_=>σ') :=
 ⟨h.1,λs vs hr hh S cs hS=>h.2 s vs hr hh S cs (hS ())⟩
def cK.uv{P:aq}{X:Cx P}{f:aW}{args:List D}{σ:List aV}{res:D}{σ':List aV}(h:cK (ι:=Unit) X f args σ (λ_=>res) (λ_=>σ')):Ev X f args σ res σ' :=
 ⟨h.1,λs vs hr hh S cs hS=>h.2 s vs hr hh S cs (λ_=>hS)⟩
def zy(s:St)(a:List Loc):Nat->Prop:=λb=>s.own b∨((∃ L∈s.β,b∈L.bs)/\∀ L∈a,b∉L.bs)
def mP(n:Nat):Nat->List Nat
 |0=>[]
 |m+1=>n::mP (n+1) m
def Bp:∀ (m n j:Nat),(mP n m)[j]?=if j<m then aa (n+j) else af
 |0,n,j=>by simp[mP]
 |m+1,n,0=>by simp[mP]
 |m+1,n,j+1=>by
  simp only[mP,mJ,Bp m (n+1) j,Nat.add_lt_add_iff_right]
  grind
def frame{ks:List Nat}{σ S σ1:List aV}{s a:St}{p:List Loc}(q:aJ σ s)(U:kI ks σ=aa S)(Z:kI ks s.β=aa p)(hn:eg ks=ab)
  (hp:cU σ1=ab) (z:aJ σ1 a) (st:cB S { s with β:=p,own:=zy s p } σ1 a) (R:ks.length<=σ1.length) {v:ak} {res:D} (hr:c8 σ1 a v res) :
  ∃ s2:St,s2.w=a.w/\c8 (ef ks σ1 σ) s2 v (jB (ks++mP σ.length (σ1.length-ks.length)) res)/\aJ (ef ks σ1 σ) s2/\cB σ s (ef ks σ1 σ) s2/\s2.M=a.M/\s2.own=s.own/\∀ L∈s2.β,L∈a.β∨(L∈s.β/\∀ b∈L.bs,∀ L'∈p,b∉L'.bs):=by
 have H:∀ k∈ks,k<σ.length:=by
  intro k N;obtain⟨j,n,rfl⟩:=dT N;obtain⟨x,_,h2⟩:=(iA U).2 j _ (br n)
  grind
 have A:∀ k∈ks,k<s.β.length:=by rw[q.len];exact H
 have K:ks.length<=a.β.length:=by rw[z.len];exact R
 obtain⟨a1,a2,a3,a4⟩:=vB (new:=σ1) (old:=σ) hn H R;obtain⟨b1,b2,b3,b4⟩:=vB (new:=a.β) (old:=s.β) hn A K;obtain⟨c1,c2⟩:=iA U;obtain⟨d1,d2⟩:=iA Z
 let J:=ks++mP σ.length (σ1.length-ks.length)
 have W:∀ j,j<σ1.length->∃ k,J[j]?=aa k/\(ef ks σ1 σ)[k]?=σ1[j]?/\(ef ks a.β s.β)[k]?=a.β[j]?:=by
  intro j n;rcases cG j ks.length with m|E
  .refine⟨ks[j],?_,a2 j _ (br m),b2 j _ (br m)⟩
   grind
  .refine⟨σ.length+(j-ks.length),?_,?_,?_⟩
   .simp only[J];rw[gh E,Bp,bc (by omega)]
   .rw[a3];grind
   .rw[<-q.len,b3];grind
 have f:∀ l L,(ef ks a.β s.β)[l]?=aa L->(∃ j,j<σ1.length/\a.β[j]?=aa L/\(∀ B,(ef ks σ1 σ)[l]?=aa B->σ1[j]?=aa B)/\(∀ k,ks[j]?=aa k->k=l)/\(j≥ks.length->l=σ.length+(j-ks.length))) ∨
   (l<σ.length/\l∉ks/\s.β[l]?=aa L/\(ef ks σ1 σ)[l]?=σ[l]?):=by
  intro l L c;have hll:l<(ef ks a.β s.β).length:=(cp.1 c).1;rcases cG l σ.length with m|E
  .by_cases r:l∈ks
   .obtain⟨j,n,rfl⟩:=dT r;have N:=br n
    grind
   .exact .inr ⟨m,r,by rw[<-b4 l (by rw[q.len];exact m) r];exact c,a4 l m r⟩
  .rw[b1,z.len,q.len] at hll;refine .inl ⟨ks.length+(l-σ.length),by omega,?_,λB t=>?_,λk N=>?_,λ_=>by omega⟩
   .rw[<-b3,q.len,zm E];exact c
   .rw[<-a3,zm E];exact t
   grind
 have F:∀ L∈p,L∈s.β:=by
  intro L c;obtain⟨j,n,rfl⟩:=dT c;have C:j<ks.length:=by grind
  obtain⟨x,P,V⟩:=d2 j _ (br C)
  grind
 have other:∀ l L,l∉ks->s.β[l]?=aa L->∀ b∈L.bs,b<s.w.heap.size/\∀ L'∈p,b∉L'.bs:=by
  intro l L u c b d;refine⟨q.lt L (bT c) b d,λL' gu oG=>?_⟩
  obtain⟨j,n,rfl⟩:=dT gu;have C:j<ks.length:=by grind
  obtain⟨x,P,V⟩:=d2 j _ (br C);rw[br n] at P;cases P;have:=q.gd l ks[j] L _ c V b d oG
  grind
 have out:∀ b,b<s.w.heap.size->(∀ L∈s.β,b∉L.bs)->∀ L∈p,b∉L.bs:=λb _ h L c=>h L (F L c)
 have ex:Ext σ s (ef ks σ1 σ) ⟨ef ks a.β s.β,a.M,a.w,s.own⟩:=by
  refine⟨st.mem,λl B L t c=>?_⟩
  have m:l<σ.length:=(cp.1 t).1
  by_cases r:l∈ks
  .obtain⟨j,n,rfl⟩:=dT r;have N:=br n;obtain⟨x,P,V⟩:=c2 j _ N;obtain⟨y,y1,y2⟩:=d2 j _ N;rw[t] at V;cases V;rw[c] at y2;cases y2;obtain⟨B',L',p1,p2,p3⟩:=st.box j B L P y1
   grind
  .exact⟨B,L,by grind,by grind,.refl _ _⟩
 refine⟨⟨ef ks a.β s.β,a.M,a.w,s.own⟩,rfl,?_,⟨z.mem,?_,?_,?_,?_,?_⟩,⟨st.size,?_,st.mem,?_,?_,ex.box,st.os,st.tape,st.output,rfl⟩,rfl,rfl,?_⟩
 .refine c8.mW (s:=a) (s2:=⟨ef ks a.β s.β,a.M,a.w,s.own⟩) (σ2:=ef ks σ1 σ) (ks:=J) rfl (λj B t=>?_) (λj L c=>?_) z.len hr
  .grind
  .obtain⟨k,k1,_,k3⟩:=W j (by rw[<-z.len];grind)
   grind
 .simp only;rw[a1,b1,z.len,q.len]
 .intro l B L t c;rcases f l L c with⟨j,n,g,T,_⟩|⟨u,r,gu,Y⟩
  .exact eO.plain (σ:=σ1) (s:=a) (s':=⟨ef ks a.β s.β,a.M,a.w,s.own⟩) rfl rfl (kJ hp B (bT (T B t))) (z.box j B L (T B t) g)
  .rw[Y] at t;refine(q.box l B L t gu).carry ex q.len λb d=>?_
   obtain⟨o1,X⟩:=other l L r gu b d;exact⟨st.eL b (.inr ⟨⟨L,bT gu,d⟩,X⟩),st.jA b o1 X⟩
 .intro l l' L L' c gu b d oG;rcases f l L c with⟨j,n,g,_,Tj,hjn⟩|⟨u,r,i,_⟩ <;> rcases f l' L' gu with⟨j',C,G,_,abJ,abK⟩|⟨Bb,hm',I,_⟩
  .have e:=z.gd j j' L L' g G b d oG
   grind
  .obtain⟨o1,X⟩:=other l' L' hm' I b oG;rcases st.xx L (bT g) b d with h|⟨L0,h0,Q⟩
   .grind
   grind
  .obtain⟨o1,X⟩:=other l L r i b d;rcases st.xx L' (bT G) b oG with h|⟨L0,h0,Q⟩
   .grind
   grind
  .exact q.gd l l' L L' i I b d oG
 .intro L c b d;obtain⟨l,u,rfl⟩:=dT c;rcases f l _ (br u) with⟨j,n,g,_⟩|⟨_,_,i,_⟩
  .exact z.lt _ (bT g) b d
  .have:=q.lt _ (bT i) b d;have:=st.size
   grind
 .intro b d;refine⟨?_,λL c O=>?_⟩
  .have:=(q.own b d).1;have:=st.size
   grind
  .obtain⟨l,u,rfl⟩:=dT c;rcases f l _ (br u) with⟨j,n,g,_⟩|⟨_,_,i,_⟩
   .have ho:a.own b:=by rw[st.own];exact .inl d
    exact(z.own b ho).2 _ (bT g) O
   .exact(q.own b d).2 _ (bT i) O
 .intro b d;exact st.eL b (.inl d)
 .intro b d WE o;exact st.jA b d (out b d WE) o
 .intro L c b d;obtain⟨l,u,rfl⟩:=dT c;rcases f l _ (br u) with⟨j,n,g,_⟩|⟨_,_,i,_⟩
  .rcases st.xx _ (bT g) b d with h|⟨L0,h0,Q⟩
   .grind
   grind
  grind
 .intro L c;obtain⟨l,u,rfl⟩:=dT c;rcases f l _ (br u) with⟨j,n,g,_⟩|⟨_,r,i,_⟩
  .grind
  grind
def eP:D->Option (aW×List C)
 |.e (.one (.c (.fn (.func f) [] cap)))=>aa (f,cap)
 |_=>af
theorem nH{σ:List aV}{s:St}{ρ:an->ak}{a:an->D}(b:∀ y,c8 σ s (ρ y) (a y)):∀ l:List an,cw σ s (l.map ρ) (l.map a)
 |[]=>trivial
 |x::r=>⟨b x,nH b r⟩
def cw.append{σ:List aV}{s:St}:∀ {vs vC:List ak}{ds Fp:List D},cw σ s vs ds->cw σ s vC Fp->cw σ s (vs++vC) (ds++Fp)
 |[],_,[],_,_,h=>h
 |[],_,_::_,_,h,_=>h.elim
 |_::_,_,[],_,h,_=>h.elim
 |_::_,_,_::_,_,h,a=>⟨h.1,cw.append h.2 a⟩
def QC:A->A
 |.vec _ k n es=>.c (.sl ae k n es)
 |.c (.sl _ k n es)=>.c (.sl ae k n es)
 |a=>a
def Ft{σ:List aV}{s:St}{v:ak}{a:A}(h:gv σ s v a):gv σ s v (QC a):=by
 cases a with
 |vec l k n es=>exact h.1
 |c x=>cases x <;> first|exact h|exact Rd.loose h
 |_=>exact h
def QD:List A->List A
 |[]=>[]
 |a::r=>QC a::QD r
def Fu{σ:List aV}{s:St}:∀ {vs:List ak}{cs:List A},dM σ s vs cs->dM σ s vs (QD cs)
 |[],[],_=>trivial
 |[],_::_,h=>h.elim
 |_::_,[],h=>h.elim
 |_::_,_::_,h=>⟨Ft h.1,Fu h.2⟩
def TJ:D->D
 |.e (.one a)=>.e (.one (QC a))
 |.e (.agg cs)=>.e (.agg (QD cs))
 |d=>d
def Nm{σ:List aV}{s:St}{v:ak}{d:D}(h:c8 σ s v d):c8 σ s v (TJ d):=by
 cases d with
 |e x=>cases x with
  |one a=>exact Ft h
  |agg cs=>obtain⟨vs,b,c⟩:=h;exact⟨vs,b,Fu c⟩
 |eJ xs=>exact h
 |any=>trivial
def oe:List D->List D
 |[]=>[]
 |a::r=>TJ a::oe r
theorem rF{σ:List aV}{s:St}:∀ {vs:List ak}{ds:List D},cw σ s vs ds->cw σ s vs (oe ds)
 |[],[],_=>trivial
 |[],_::_,h=>h.elim
 |_::_,[],h=>h.elim
 |_::_,_::_,h=>⟨Nm h.1,rF h.2⟩
def fW:List C->List D
 |[]=>[]
 |c::r=>.e (.one (.c c))::fW r
theorem lN{σ:List aV}{s:St}:∀ {vs:List ak}{cs:List C},(∀ (j:Nat)(c:C),cs[j]?=aa c->∃ v,vs[j]?=aa v/\Rd s.M v c)->vs.length=cs.length->cw σ s vs (fW cs)
 |[],[],_,_=>trivial
 |[],_::_,_,h=>by grind
 |_::_,[],_,h=>by grind
 |v::vs,c::cs,h,e=>by
  obtain⟨u,a,b⟩:=h 0 c rfl;simp at a;subst a;exact⟨b,lN (λj c d=>by simpa using h (j+1) c (by grind)) (by grind)⟩
def zz{α:Type}{ks:List Nat}{l r:List α}(h:kI ks l=aa r):∀ x∈r,x∈l:=by
 intro x b;obtain⟨e,a⟩:=iA h;obtain⟨j,f,rfl⟩:=dT b;obtain⟨y,d,c⟩:=a j _ (br (by omega))
 grind
def aJ.sub{ks:List Nat}{σ d:List aV}{s:St}{a:List Loc}(hh:aJ σ s)(p:kI ks σ=aa d)(i:kI ks s.β=aa a)(u:cU d=ab)(hn:eg ks=ab) :
  aJ d { s with β:=a,own:=zy s a }/\eQ s { s with β:=a,own:=zy s a }:=by
 obtain⟨c1,c2⟩:=iA p;obtain⟨d1,d2⟩:=iA i;have f:∀ L∈a,L∈s.β:=zz i;refine⟨⟨hh.mem,by grind,?_,?_,?_,?_⟩,⟨rfl,λ_ _ _ h=>h,λ_ _ _=>rfl,hh.mem,?_⟩⟩
 .intro j B L t c;have hj:j<ks.length:=by grind
  obtain⟨x,r,v⟩:=c2 j _ (br hj);obtain⟨y,g,l⟩:=d2 j _ (br hj);rw[t] at r;cases r;simp only at c;rw[c] at g;cases g;exact eO.plain (σ:=σ) (s:=s) (s':={ s with β:=a,own:=zy s a }) rfl rfl (kJ u B (bT t)) (hh.box _ B L v l)
 .intro j n L L' c k b hb oG;simp only at c k;have hj:j<ks.length:=by grind
  have m:n<ks.length:=by grind
  obtain⟨y,g,l⟩:=d2 j _ (br hj);obtain⟨w,e,q⟩:=d2 n _ (br m);rw[c] at g;cases g;rw[k] at e;cases e;have:=hh.gd _ _ L L' l q b hb oG;exact vA hn j n ks[j] (br hj) (by grind)
 .intro L c b hb;exact hh.lt _ (f L c) b hb
 .rintro b (hb|⟨⟨L,c,hb⟩,o⟩)
  .exact⟨(hh.own b hb).1,λL c=>(hh.own b hb).2 L (f L c)⟩
  .exact⟨hh.lt L c b hb,o⟩
 .rintro b ((hb|⟨⟨L,c,hb⟩,_⟩)|⟨L,c,hb⟩)
  .grind
  .grind
  grind
def eQ.back{σ d σ1:List aV}{s c s2:St}{a:List Loc}(hh:aJ σ s)(h1:aJ σ1 c)(st:cB d { s with β:=a,own:=zy s a } σ1 c)(j:s2.w=c.w)(f:s2.M=c.M)(k:s2.own=s.own)
  (e:∀ L∈s2.β,L∈c.β∨(L∈s.β/\∀ b∈L.bs,∀ L'∈a,b∉L'.bs)):eQ c s2:=by
 refine⟨j,λb o v h=>by grind,λb _ o=>by rw[f],λb o v h=>by rw[f] at h;exact h1.mem b o v h,?_⟩
 rintro b (hb|⟨L,i,hb⟩)
 .left;rw[st.own];exact .inl (by grind)
 .rcases e L i with h|⟨h,g⟩
  .grind
  .left;rw[st.own];exact .inr ⟨⟨L,h,hb⟩,g b hb⟩
def sQ{P:aq}{ι:Type}{X:Cx P}{S:au->St->Prop}{b:aR}{k:List Item}{cs:List aR}{a:Act}{s:St}{ops:Array aw}{i:Nat}{rest:List Nat}{o:aw}{ks:List Nat}{σ g:List aV}{σ1:ι->List aV}{f:aW}{d:List D}{res:ι->D}{vs:List ak}
  (hb:b.kind≠.early) (ho:ops[i]?=aa o) (hw:bj o (yielded ops a.tmps)=ab) (hh:aJ σ s) (A:∀ w,(ay a.eval o).run P w=.ok (.enter f vs.toArray) w) (z:∀ w,(ay a.eval o).events P w #[]=#[])
  (R:cK X f d g res σ1) (x:cw σ s vs (iX ks d)) (O:ow ks.length d=ab) (q:kI ks σ=aa g) (hp:cU g=ab) (K:∀ j,cU (σ1 j)=ab) (hn:eg ks=ab) (V:∀ j,ks.length<=(σ1 j).length)
  (h:∀ j v s',c8 (ef ks (σ1 j) σ) s' v (jB (ks++mP σ.length ((σ1 j).length-ks.length)) (res j))->aJ (ef ks (σ1 j) σ) s'->cB σ s (ef ks (σ1 j) σ) s'->fp X S (G (b.aT (a.put o.dst v) (.inRegion ops rest::k)) cs) s') :
  fp X S (G (b.aT a (.inRegion ops (i::rest)::k)) cs) s:=by
 obtain⟨_,r⟩:=R;refine .next rfl λn Z=>?_
 have Y:=X.ij Z;have e:=hh.rely Y;obtain⟨m,u⟩:=zv (l':=n.β) q e.len;obtain⟨E,N⟩:=e.sub q u hp hn;have p:cw σ n vs (iX ks d):=x.mono Y.stepW.ext hh.len;have C:cw g { n with β:=m,own:=zy n m } vs d:=(p.sub (s:=n) q u O).mono (σ:=g) (s:={ n with β:=m }) (σ':=g) (s':={ n with β:=m,own:=zy n m }) ⟨λ_ _ _ h=>h,λl B L hB hL=>⟨B,L,hB,hL,.refl _ _⟩⟩ E.len
 refine⟨_,n,_,oM ho hw hb (A n.w),?_,.ghost N (r _ vs C E S _ λj fr v s2 hl mL Fc ot=>?_)⟩
 .refine⟨⟨σ,σ,e,e,.refl _ _⟩,eX.seen ?_⟩;rw[z];exact .nil
 refine pL (cs:=cs) (c:=b.aT a (.inRegion ops (i::rest)::k)) Fc hl λs3 t=>?_
 have y:=Fc.rely t;have H:=ot.trans t.stepW;obtain⟨s4,U,I,J,Q,T,W,F⟩:=frame e q u hn (K j) y H (V j) (mL.mono t.stepW.ext Fc.len);refine .ghost (eQ.back e y H U T W F) ?_;have M:=j7 (b:=b) (a:=a) (k:=k) ops i rest v;rw[ho] at M;simp only[nA] at M;rw[M];exact h j v s4 I J (Y.stepW.trans Q)
def Jj{P:aq}{X:Cx P}{S:au->St->Prop}{b:aR}{k:List Item}{cs:List aR}{a:Act}{s:St}{ops:Array aw}{i:Nat}{rest:List Nat}{o:aw}{ks:List Nat}{σ d:List aV}{σ1:List aV}{f:aW}{c:List D}{res:D}{vs:List ak}
  (r:b.kind≠.early) (t:ops[i]?=aa o) (z:bj o (yielded ops a.tmps)=ab) (x:aJ σ s) (j:∀ w,(ay a.eval o).run P w=.ok (.enter f vs.toArray) w) (g:∀ w,(ay a.eval o).events P w #[]=#[])
  (p:Ev X f c d res σ1) (e:cw σ s vs (iX ks c)) (n:ow ks.length c=ab) (q:kI ks σ=aa d) (u:cU d=ab) (l:cU σ1=ab) (y:eg ks=ab) (m:ks.length<=σ1.length)
  (h:∀ v s',c8 (ef ks σ1 σ) s' v (jB (ks++mP σ.length (σ1.length-ks.length)) res)->aJ (ef ks σ1 σ) s'->cB σ s (ef ks σ1 σ) s'->fp X S (G (b.aT (a.put o.dst v) (.inRegion ops rest::k)) cs) s') :
  fp X S (G (b.aT a (.inRegion ops (i::rest)::k)) cs) s :=
 sQ r t z x j g p.Bc e n q u (λ_=>l) y (λ_=>m) (λ_=>h)
theorem gL{P:aq}{o:aw}{i:an}{xs:Array an}{e:Array ar}(j:o.op=.call { callee:=.value i,args:=xs,argTypes:=e }){f:aW}{fn:Func}(d:P.funcs[f]?=aa fn)(k:(fn.name== "runtime.NumGoroutine")=ae)(g:fn.body.isNone=ae)
  {a:Act} {cs:List ak} (l:a.eval i=.func (.func f) #[] cs.toArray) (w:az) :
  (ay a.eval o).run P w=.ok (.enter f (xs.toList.map a.eval++cs).toArray) w/\(ay a.eval o).events P w #[]=#[]:=by
 have h:(xs.map a.eval++cs.toArray)=(xs.toList.map a.eval++cs).toArray:=by grind
 have c:fn.name≠ "runtime.NumGoroutine":=by grind
 have b:fn.body≠af:=by grind
 constructor
 .simp[ay,j,resolve,l,Deferred.ofValue,invoke,callFunc,d,c,b,h]
 .simp[ay,j,resolve,l,Deferred.ofValue,invoke,callFunc,d,c,b]
def jC.Pq{P:aq}{ι:Type}{X:Cx P}{N:Nat}{all rest:List aw}{Q:Fr->List aV->Prop}{φ:Fr}{σ:List aV}{o:aw}{B:an}{xs:Array an}{F:Array ar}
  (V:∀ σ s a,cv N σ s φ a->bj o (yielded all.toArray a.tmps)=ab) (R:o.op=.call { callee:=.value B,args:=xs,argTypes:=F })
  {f:aW} {cap:List C} (A:eP (bZ φ B)=aa (f,cap)) (ks:List Nat) {e:List D} {p:List aV} {σ1:ι->List aV} {res:ι->D} (u:cK X f e p res σ1)
  (n:∀ s vs,cw σ s vs (xs.toList.map (bZ φ)++fW cap)->cw σ s vs (iX ks e)) (G:ow ks.length e=ab) (M:kI ks σ=aa p) (U:cU p=ab) (E:∀ j,cU (σ1 j)=ab) (hn:eg ks=ab) (H:∀ j,ks.length<=(σ1 j).length)
  (d:Option Nat) (Z:o.dst=d) (hN:∀ t,d=aa t->t<N)
  (k:∀ j,jC X N all rest Q (lA d (jB (ks++mP σ.length ((σ1 j).length-ks.length)) (res j)) φ) (ef ks (σ1 j) σ)):jC X N all (o::rest) Q φ σ:=by
 subst Z;intro s a g hh b kk cs S idx hb jG hQ;cases idx with
 |nil=>exact jG.elim
 |cons i idx =>
 obtain⟨hi,jG⟩:=jG;have z:=dN g B;unfold eP at A;split at A
 case h_2=>cases A
 case h_1 f' I0 he =>
  cases A;rw[he] at z;have l:=fx z;generalize T:a.eval B=fv at l;cases l with
  |fn fs ma hl Bb f1 f2 h1 h2 r1 r2 =>
   have L:fs=[]:=hX hl;subst L;have r:cw σ s ma (fW cap):=lN (λj c hj=>⟨f2 j,h2 j (by grind),r2 j c hj⟩) Bb
   have x:cw σ s (xs.toList.map a.eval++ma) (iX ks e):=by
    exact n _ _ ((nH (dN g) xs.toList).append r)
   obtain⟨fn,y,m,h⟩:=u.1;refine sQ hb hi (V _ _ _ g) hh (λw=>(gL R y m h T w).1) (λw=>(gL R y m h T w).2) u x G M U E hn H λj v s' hr k9 st=>?_
   refine k j s' _ ?_ k9 b kk cs S idx hb jG λI K Y a3 q f3 W O=>hQ I K Y a3 q f3 W (st.trans O)
   cases J:o.dst with
   |none=>exact g.mono st hh.len
   |some t=>exact(g.mono st hh.len).put (hN t J) hr
def jC.Pr{P:aq}{ι:Type}{X:Cx P}{N:Nat}{all rest:List aw}{Q:Fr->List aV->Prop}{φ:Fr}{σ:List aV}{o:aw}{q:an}{xs:Array an}{g:Array ar}
  (u:∀ σ s a,cv N σ s φ a->bj o (yielded all.toArray a.tmps)=ab) (r:o.op=.call { callee:=.value q,args:=xs,argTypes:=g })
  {f:aW} {cap:List C} (v:eP (bZ φ q)=aa (f,cap)) (ks:List Nat) {b:List D} {c:List aV} {σ1:ι->List aV} {res:ι->D} (n:cK X f b c res σ1)
  (m:oe (xs.toList.map (bZ φ)++fW cap)=iX ks b) (l:ow ks.length b=ab) (p:kI ks σ=aa c) (w:cU c=ab) (e:∀ j,cU (σ1 j)=ab) (hn:eg ks=ab) (i:∀ j,ks.length<=(σ1 j).length)
  (d:Option Nat) (x:o.dst=d) (y:∀ t,d=aa t->t<N)
  (k:∀ j,jC X N all rest Q (lA d (jB (ks++mP σ.length ((σ1 j).length-ks.length)) (res j)) φ) (ef ks (σ1 j) σ)):jC X N all (o::rest) Q φ σ :=
 jC.Pq u r v ks n (λs vs h=>by grind [rF]) l p w e hn i d x y k
theorem jC.call{P:aq}{X:Cx P}{N:Nat}{all rest:List aw}{Q:Fr->List aV->Prop}{φ:Fr}{σ:List aV}{o:aw}{n:an}{xs:Array an}{h:Array ar}
  (q:∀ σ s a,cv N σ s φ a->bj o (yielded all.toArray a.tmps)=ab) (p:o.op=.call { callee:=.value n,args:=xs,argTypes:=h })
  {f:aW} {cap:List C} (r:eP (bZ φ n)=aa (f,cap)) (ks:List Nat) {b:List D} {c σ1:List aV} {res:D} (l:Ev X f b c res σ1)
  (e:oe (xs.toList.map (bZ φ)++fW cap)=iX ks b) (j:ow ks.length b=ab) (m:kI ks σ=aa c) (u:cU c=ab) (g:cU σ1=ab) (hn:eg ks=ab) (i:ks.length<=σ1.length)
  (d:Option Nat) (v:o.dst=d) (w:∀ t,d=aa t->t<N)
  (k:jC X N all rest Q (lA d (jB (ks++mP σ.length (σ1.length-ks.length)) res) φ) (ef ks σ1 σ)):jC X N all (o::rest) Q φ σ :=
 jC.Pr q p r ks l.Bc e j m u (λ_=>g) hn (λ_=>i) d v w (λ_=>k)
def Names.range(all:List aw):Names all (bh all.toArray.size) all:=by
 have key:∀ (l:List aw) (n:Nat),(∀ j o,l[j]?=aa o->all[n+j]?=aa o)->Names all (List.range' n l.length) l:=by
  intro l
  induction l with
  |nil=>intro n _;trivial
  |cons o r b =>
   intro n h;rw[eZ,List.range'_succ];refine⟨by simpa using h 0 o rfl,b (n+1) λj a hj=>?_⟩
   have:=h (j+1) a (by grind)
   grind
 grind [List.range_eq_range']
theorem AW.region{P:aq}{X:Cx P}{N:Nat}{Q:Post}{φ:Fr}{σ:List aV}{id:Nat}{ops:Array aw}(h:jC X N ops.toList ops.toList (λφ σ=>Q .normal φ σ) φ σ):AW X N (.region id ops ae) Q φ σ:=by
 intro s a f hh b k cs S hb hQ;refine .ctl hh rfl (λ_=>pP) λd h1=>?_
 have:=h d a (f.rely h1 hh) (hh.rely h1) b k cs S (bh ops.size) hb (by simpa using Names.range ops.toList) λc σ' s' a' q g e st=>hQ .normal c σ' s' a' q g e (h1.stepW.trans st)
 simpa using this
def jC.nil{P:aq}{X:Cx P}{N:Nat}{all:List aw}{Q:Fr->List aV->Prop}{φ:Fr}{σ:List aV}(h:Q φ σ):jC X N all [] Q φ σ:=by
 intro s a f hh b k cs S idx _ c e;cases idx with
 |cons i idx=>exact c.elim
 |nil=>exact .ctl hh rfl (λ_=>iW) λd h1=>e φ σ d a h (f.rely h1 hh) (hh.rely h1) h1.stepW
def jC.mono{P:aq}{X:Cx P}{N:Nat}{all rest:List aw}{Q d:Fr->List aV->Prop}{φ:Fr}{σ:List aV}(h:jC X N all rest Q φ σ)(e:∀ φ σ,Q φ σ->d φ σ):jC X N all rest d φ σ :=
 λs a f hh b k cs S idx hb hi hQ=>h s a f hh b k cs S idx hb hi λc σ' s' a' q i g st=>hQ c σ' s' a' (e _ _ q) i g st
def ju:Nat->List D->Fr
 |_,[]=>[]
 |i,d::r=>(i,d)::ju (i+1) r
def nP:∀ (ds:List D)(i t:Nat),look (ju i ds) t=if i<=t then (ds[t-i]?).getD .any else .any
 |[],i,t=>by simp[ju,look]
 |d::r,i,t=>by
  simp only[ju,look]
  by_cases e:i=t
  .grind [Nat.beq_refl]
  .have:aG i t=ae:=by
    grind [Nat.eq_of_beq_eq_true]
   rw[this];simp only[cond,nP r (i+1) t]
   grind
theorem cw.get{σ:List aV}{s:St}:∀ {vs:List ak}{ds:List D},cw σ s vs ds->vs.length=ds.length/\∀ (j:Nat),c8 σ s ((vs[j]?).getD aj) ((ds[j]?).getD .any)
 |[],[],_=>⟨rfl,λj=>by simp[c8]⟩
 |[],_::_,h=>h.elim
 |_::_,[],h=>h.elim
 |v::vs,d::ds,h=>by
  obtain⟨h1,h2⟩:=cw.get h.2;refine⟨by grind,λj=>?_⟩
  cases j with
  |zero=>simpa using h.1
  |succ j=>grind
def xC(φ:Fr):List ResultVar->Option (List D)
 |[]=>aa []
 |.tmp t::r=>match xC φ r with
  |some q=>aa (look φ t::q)
  |none=>af
 |.cell _ _::_=>af
def tH:List D->Option (List E1)
 |[]=>aa []
 |.e x::r=>match tH r with
  |some q=>aa (x::q)
  |none=>af
 |_::_=>af
def rG:List D->Option D
 |[d]=>aa d
 |ds=>match tH ds with
  |some es=>aa (.eJ es)
  |none=>af
def fS(a:Act):ResultVar->Sem ak
 |ResultVar.tmp t=>pure (a.tmps.getD t aj)
 |ResultVar.cell ad t=>do loadVar t (<-asAddr (a.tmps.getD ad aj))
def Fv(P:aq){N:Nat}{σ:List aV}{s:St}{φ:Fr}{a:Act}(f:cv N σ s φ a):∀ {rs:List ResultVar}{ds:List D},xC φ rs=aa ds ->
  ∃ vs,(∀ w,(rs.mapM (fS a)).run P w=Result.ok vs w)/\cw σ s vs ds/\cN P (rs.mapM (fS a))
 |[],ds,h=>by cases h;exact⟨[],by simp,av,by rw[List.mapM_nil];exact .pure⟩
 |.tmp t::r,ds,h=>by
  simp only[xC] at h;cases b:xC φ r with
  |none=>grind
  |some q =>
   simp[b] at h;subst h;obtain⟨vs,c,d,e⟩:=Fv P f b;refine⟨a.tmps.getD t aj::vs,?_,⟨f.slot t,d⟩,?_⟩
   .intro w;simp only[lz,bX,fS,cW,b8,c]
   .rw[lz];exact .bind .pure λ_=>.bind e λ_=>.pure
 |.cell ad t::r,ds,h=>by simp[xC] at h
def Bq{σ:List aV}{s:St}:∀ {vs:List ak}{ds:List D}{es:List E1},tH ds=aa es->cw σ s vs ds->gI σ s vs es
 |[],[],es,h,_=>by cases h;trivial
 |[],_::_,_,_,h=>h.elim
 |_::_,[],_,_,h=>h.elim
 |v::vs,.e x::r,es,h,a=>by
  simp only[tH] at h;cases b:tH r with
  |none=>grind
  |some q=>simp[b] at h;subst h;exact⟨a.1,Bq b a.2⟩
 |_::_,.eJ _::_,es,h,_=>by simp[tH] at h
 |_::_,.any::_,es,h,_=>by simp[tH] at h
def Br{σ:List aV}{s:St}{vs:List ak}{ds:List D}{d:D}(h:rG ds=aa d)(a:cw σ s vs ds):c8 σ s (if h:vs.length=1 then vs[0] else .tuple vs.toArray) d:=by
 unfold rG at h;split at h
 .rename_i g
  cases h
  match vs,a with
  |[v],a=>simpa using a.1
 .rename_i c
  cases b:tH ds with
  |none=>grind
  |some es =>
   simp[b] at h;subst h;have f:vs.length≠1:=by
    intro e;rw[(cw.get a).1] at e
    match ds,e with
    |[x],_=>grind
   rw[dif_neg f];exact⟨vs,rfl,Bq b a⟩
def Bt(P:aq)(fn:Func)(φ:Fr)(d:D):Prop:=∀ {N:Nat}{σ:List aV}{s:St}{a:Act},cv N σ s φ a->∃ v,c8 σ s v d/\∀ w,(∀ b o u,s.M b o=aa u->w.cell? ⟨b,o,af⟩=aa u)->(results fn a.tmps).run P w=.ok v w/\∀ e∈(results fn a.tmps).events P w #[],∃ b o u,e=⟨.cell ⟨b,o,af⟩,ae,ae⟩/\s.M b o=aa u
def tI{P:aq}{N:Nat}{σ:List aV}{s:St}{φ:Fr}{a:Act}(f:cv N σ s φ a){fn:Func}{ds:List D}{d:D}(h:xC φ fn.results.toList=aa ds)(c:rG ds=aa d) :
  ∃ v,(∀ w,(results fn a.tmps).run P w=.ok v w)/\c8 σ s v d/\cN P (results fn a.tmps):=by
 obtain⟨vs,i,b,g⟩:=Fv P f h;refine⟨_,λw=>?_,Br c b,?_⟩
 .have e:(fn.results.mapM (fS a)).run P w=Result.ok vs.toArray w:=by
   grind [Array.mapM_eq_mapM_toList,Sem.run_map,Go.Result.andThen_ok]
  unfold results;rw[bX];refine(dn (λr=>Result.andThen r _) (Eq.trans ?_ e)).trans ?_
  .congr 2
  .simp
 .unfold results;have e:cN P (fn.results.mapM (fS a)):=by
   rw[qt];exact .map g
  exact .bind e λ_=>.pure
theorem Bt.of{P:aq}{fn:Func}{φ:Fr}{ds:List D}{d:D}(h:xC φ fn.results.toList=aa ds)(hj:rG ds=aa d):Bt P fn φ d:=by
 intro N σ s a f;obtain⟨v,h1,h2,c⟩:=tI (P:=P) f h hj;exact⟨v,h2,λw _=>⟨h1 w,λe b=>by rw[c w #[]] at b;grind⟩⟩
end
section
open Go.Conc (G)
def aJ.lC{σ:List aV}{s:St}(h:aJ σ s):aJ (σ.map λ_=>.dead) s:=by
 refine⟨h.mem,by simp[h.len],λl B L a c=>?_,h.gd,h.lt,h.own⟩
 simp only[nz] at a;cases b:σ[l]? with
 |none=>grind
 |some x=>rw[b] at a;cases a;trivial
structure Pt (ls:List Nat)(s s':St):Prop where
 β:s'.β=s.β
 M:s'.M=s.M
 own:s'.own=s.own
 size:s.w.heap.size<=s'.w.heap.size
 eL:∀ b,(s.own b∨∃ (l:Nat) (L:Loc),s.β[l]?=aa L/\l∉ls/\b∈L.bs)->s'.w.heap[b]?=s.w.heap[b]?
 mem:∀ b o v,s.M b o=aa v->s'.w.cell? ⟨b,o,af⟩=aa v
 os:s'.w.os=s.w.os
 tape:s'.w.tape=s.w.tape
 output:s'.w.output=s.w.output
def cg.unR{s s':St}(h:cg s s')(ls:List Nat):Pt ls s s' :=
 ⟨h.β,h.M,h.own,h.size,λb hb=>h.eL b (hb.imp id λ⟨l,L,h1,_,a⟩=>⟨L,bT h1,a⟩),h.mem,h.os,h.tape,h.output⟩
theorem Pt.cat{l:Nat}{ls:List Nat}{s a s2:St}(h:Pt [l] s a)(k:Pt ls a s2):Pt (l::ls) s s2:=by
 refine⟨k.β.trans h.β,k.M.trans h.M,k.own.trans h.own,eK h.size k.size,λb hb=>?_,λb o v d=>k.mem b o v (by rw[h.M];exact d),k.os.trans h.os,k.tape.trans h.tape,k.output.trans h.output⟩
 rw[k.eL b,h.eL b (hb.imp id λ⟨l',L,h1,h2,c⟩=>⟨l',L,h1,λe=>h2 (by grind),c⟩)]
 rw[h.own,h.β]
 grind
def Jo{P:aq}{w:az}{r:Nat}(a:w.heap[r]?=aa (.deferred (aa []))) :
  (Instr.takeDeferred r).run P w=.ok [] { w with heap:=w.heap.setIfInBounds r (.deferred af) }/\(Instr.takeDeferred r).events P w #[]=#[⟨.obj r,ae,ae⟩,⟨.obj r,ab,ae⟩]:=by
 have b:(getObj r).run P w=.ok (.deferred (aa [])) w:=by simp only[getObj,Sem.run,a]
 have c:(setObj r (.deferred af)).run P w=.ok () { w with heap:=w.heap.setIfInBounds r (.deferred af) }:=by simp only[setObj,Sem.run,a]
 have d:∀ es,(getObj r).events P w es=es.push ⟨.obj r,ae,ae⟩:=λes=>by simp only[getObj,Sem.events,Sem.runT,a];rfl
 have e:∀ es,(setObj r (.deferred af)).events P w es=es.push ⟨.obj r,ab,ae⟩:=λes=>by simp only[setObj,Sem.events,Sem.runT,a];rfl
 constructor
 .simp[Instr.takeDeferred,b,c]
 .simp[Instr.takeDeferred,b,d,e]
variable {P:aq}{X:Cx P}{S:au->St->Prop}{cs:List aR}{main:Bool}
def No{a:aR}{r:Nat}{ds:List Deferred}{w:az}(e:a.mode=.returning)(c:a.defers={ target:=.collected r,args:=#[] }::ds)(b:w.heap[r]?=aa (.deferred (aa []))) :
  aK P main (G a cs) w=.go (G { a with defers:=ds } cs) { w with heap:=w.heap.setIfInBounds r (.deferred af) } (seen P a.fn #[⟨.obj r,ae,ae⟩,⟨.obj r,ab,ae⟩]):=by
 obtain⟨f,d⟩:=Jo (P:=P) b;simp[G,aK,unwind,e,c,f,d,GStep.after]
def vH(s:St):List Deferred->List Nat->Prop
 |[],[]=>True
 |d::ds,l::ls=>(∃ r:Nat,s.β[l]?=aa ⟨.int .i64 r,[r]⟩/\s.w.heap[r]?=aa (.deferred (aa []))/\(∀ o,s.M r o=af)/\d={ target:=.collected r,args:=#[] })/\l∉ls/\vH s ds ls
 |_,_=>False
def oz.taken{σ:List aV}{s:St}(hh:aJ σ s):∀ {ds:List Deferred}{ls:List Nat},oz σ s ds ls->vH s ds ls
 |[],[],_=>trivial
 |[],_::_,r=>r.elim
 |_::_,[],r=>r.elim
 |d::ds,l::ls,⟨⟨h1,L,r,h2,c,f⟩,g,a⟩=>by
  obtain⟨r',k1,h,b⟩:=hh.box l _ L h1 h2;subst k1;simp at c;have e:r'=r:=by omega
  subst e;exact⟨⟨r',h2,h,b,f⟩,g,oz.taken hh a⟩
def vH.mono{s s':St}{b:Nat}(h:Pt [b] s s'):∀ {ds:List Deferred}{ls:List Nat},b∉ls->vH s ds ls->vH s' ds ls
 |[],[],_,_=>trivial
 |[],_::_,_,r=>r.elim
 |_::_,[],_,r=>r.elim
 |d::ds,l::ls,a,⟨⟨r,h1,h2,g,e⟩,f,c⟩=>by
  simp only[e9,not_or] at a;refine⟨⟨r,by rw[h.β];exact h1,by rw[h.eL r (.inr ⟨l,_,h1,by grind,by simp⟩)];exact h2,λo=>by rw[h.M];grind,e⟩,f,vH.mono h a.2 c⟩
def qB:∀ (ls:List Nat)(c:aR)(s:St)(σ:List aV),aJ σ s->(∀ B∈σ,B=.dead)->c.mode=.returning->vH s c.defers ls ->
  (∀ s',Pt ls s s'->fp X S (G { c with defers:=[] } cs) s')->fp X S (G c cs) s
 |[],c,s,σ,x,n,D,m,k=>by
  have p:c.defers=[]:=by
   cases p:c.defers with
   |nil=>rfl
   |cons d ds=>rw[p] at m;exact m.elim
  have:=k s ((cg.refl x).unR _);have e:{ c with defers:=[] }=c:=by cases c;simp_all
  grind
 |l::ls,c,s,σ,x,n,D,m,k=>by
  cases p:c.defers with
  |nil=>rw[p] at m;exact m.elim
  |cons d ds =>
   rw[p] at m;obtain⟨⟨r,y,O,U,R⟩,T,N⟩:=m;subst R;refine .next rfl λi F=>?_
   have g:=X.ij F;have a:=x.rely g;have A:i.β[l]?=aa ⟨.int .i64 r,[r]⟩:=by rw[g.β];exact y
   have H:i.w.heap[r]?=aa (.deferred (aa [])):=by rw[g.eL r (.inr ⟨_,bT y,by simp⟩)];exact O
   have Q:∀ o,i.M r o=af:=λo=>by rw[g.M];grind
   let s2:St:={ i with w:={ i.w with heap:=i.w.heap.setIfInBounds r (.deferred af) } }
   have I:∀ b,b≠r->s2.w.heap[b]?=i.w.heap[b]?:=λb f=>by
    grind
   have j:∀ b o v,i.M b o=aa v->s2.w.cell? ⟨b,o,af⟩=aa v:=by
    intro b o v E;have t:b≠r:=by grind
    rw[<-a.mem b o v E];simp only[a9]
    grind
   have q:aJ σ s2:=by
    refine⟨j,a.len,λl' B L J z=>?_,a.gd,λL z b f=>?_,λb f=>⟨?_,(a.own b f).2⟩⟩
    .rw[n B (bT J)];trivial
    .have:=a.lt L z b f;grind
    .have:=(a.own b f).1;grind
   have u:∃ L∈i.β,r∈L.bs:=⟨_,bT A,by simp⟩
   have st:Step σ i σ s2:=by
    refine⟨by grind,λb _ f=>I b ?_,λ_ _ _ h=>h,λ_ _ _ _=>rfl,λL z b f=>.inr ⟨L,z,f⟩,λ_ B L h K=>⟨B,L,h,K,.refl _ _⟩,rfl,rfl,rfl,rfl⟩
    grind
   have un:Pt [l] s s2:=by
    refine⟨g.β,g.M,g.own,eK g.size (by grind),λb f=>?_,λb o v E=>j b o v (by rw[g.M];exact E),g.os,g.tape,g.output⟩
    have t:b≠r:=by
     rintro rfl;rcases f with f|⟨l',L',C,p2,p3⟩
     .exact(x.own b f).2 _ (bT y) (by simp)
     .exact p2 (by simp;exact x.gd l' l L' _ C y b p3 (by simp))
    rw[I b t];exact g.eL b (f.imp id λ⟨l',L',C,_,p3⟩=>⟨L',bT C,p3⟩)
   refine⟨_,s2,_,No D p H,⟨⟨σ,σ,a,q,st⟩,eX.seen (.two ?_ ?_)⟩,?_⟩
   .exact⟨rfl,.inr u⟩
   .exact⟨rfl,.inr u⟩
   refine qB ls { c with defers:=ds } s2 σ q n D (N.mono un T) λs' hu=>?_
   exact k s' (un.cat hu)
end
section
open Go.Conc (G)
def aP(n:Nat)(f g:Nat->List C):Prop:=∀ i,i<n->f i=g i
def Flat.Dp{M:Mem}{k n:Nat}{es es':Nat->List C}{vs:List ak}(h:Flat M k n es vs)(a:aP n es es'):Flat M k n es' vs :=
 ⟨h.len,λi hi=>by rw[<-a i hi];exact h.width i hi,λi hi j c hj=>h.rd i hi j c (by rw[a i hi];exact hj)⟩
def Xy:C->C->Option (List Prop)
 |.int k n,.int k' n'=>match G4 k k' with|true=>aa [n=n']|false=>af
 |.bool b,.bool b'=>aa [b=b']
 |.str s,.str s'=>aa [s=s']
 |.sl t k n es,.sl t' k' n' es'=>match aG k k' with
  |true=>match t,t' with
   |false,ab=>af
   |_,_=>aa [n=n',aP n es es']
  |false=>match t,t' with
   |true,_=>aa [n=0,n'=0]
   |_,_=>af
 |.val x,.val y=>aa [x=y]
 |x,y=>aa [x=y]
def Q7{M:Mem}{v:ak}{x y:C}{ps:List Prop}(h:Xy x y=aa ps)(c:ag ps)(r:Rd M v x):Rd M v y:=by
 unfold Xy at h;split at h
 .rename_i k n k' n'
  cases d:G4 k k' <;> simp[d] at h
  subst h;cases zX d;cases (show n=n' from c)
  exact r
 .cases h;rename_i b f;cases (show b=f from c);exact r
 .cases h;rename_i b f;cases (show b=f from c);exact r
 .rename_i t k n es t' k' n' es'
  cases d:aG k k' with
  |true =>
   simp only[d] at h;have e:=bU d;subst e;cases t <;> cases t' <;> simp at h
   all_goals (subst h;obtain⟨rfl,g⟩:=(show n=n'/\aP n es es' from c);first|exact r.Dp g|exact r.loose.Dp g)
  |false =>
   simp only[d] at h;cases t <;> simp at h
   subst h;obtain⟨rfl,rfl⟩:=(show n=0/\n'=0 from c)
   obtain⟨a,cap,vs,rfl,_,_,i,_⟩:=r.flat
   grind [Rd.jI]
 .cases h;rename_i x y;cases (show x=y from c);exact r
 .cases h;cases c;exact r
def Uc:A->A->Option (List Prop)
 |.c x,.c y=>Xy x y
 |.vec _ k n es,.c (.sl ae k' n' es')=>match aG k k' with|true=>aa [n=n',aP n es es']|false=>af
 |.vec l k n es,.vec l' k' n' es'=>match aG l l' with
  |true=>match aG k k' with|true=>aa [n=n',aP n es es']|false=>af
  |false=>af
 |.ptr l o,.ptr l' o'=>match aG l l' with|true=>(match aG o o' with|true=>aa []|false=>af)|false=>af
 |.ref l,.ref l'=>match aG l l' with|true=>aa []|false=>af
 |.bp l w,.bp l' w'=>match aG l l' with|true=>aa [w=w']|false=>af
 |_,.any=>aa []
 |_,_=>af
def JY{σ:List aV}{s:St}{v:ak}{x y:A}{ps:List Prop}(h:Uc x y=aa ps)(c:ag ps)(r:gv σ s v x):gv σ s v y:=by
 unfold Uc at h;split at h
 .exact Q7 h c r
 .rename_i k n es k' n' es'
  cases b:aG k k' <;> simp[b] at h
  subst h;have e:=bU b;subst e;obtain⟨rfl,d⟩:=(show n=n'/\aP n es es' from c)
  exact r.1.Dp d
 .rename_i l k n es l' k' n' es'
  cases a:aG l l' <;> simp[a] at h
  cases b:aG k k' <;> simp[b] at h
  subst h;have e:=bU b;have f:=bU a;subst e f;obtain⟨rfl,d⟩:=(show n=n'/\aP n es es' from c)
  exact⟨r.1.Dp d,r.2.1,r.2.2⟩
 .grind [Nat.eq_of_beq_eq_true]
 .grind [Nat.eq_of_beq_eq_true]
 .rename_i l w l' w'
  cases a:aG l l' <;> simp[a] at h
  have f:=bU a;subst f;subst h;cases (show w=w' from c)
  exact r
 .exact gv.cell r
 grind
def kl:List Prop->List Prop->List Prop
 |[],q=>q
 |p::r,q=>p::kl r q
theorem ag.cat{p q:List Prop}:ag (kl p q)↔ag p/\ag q:=by
 induction p with
 |nil=>simp[kl,ag]
 |cons x r a=>simp only[kl,ag.cons,a,and_assoc]
def PO:List A->List A->Option (List Prop)
 |[],[]=>aa []
 |a::al,b::bs=>match Uc a b with
  |some p=>match PO al bs with
   |some q=>aa (kl p q)
   |none=>af
  |none=>af
 |_,_=>af
def DX{σ:List aV}{s:St}:∀ {vs:List ak}{xs ys:List A}{ps:List Prop},PO xs ys=aa ps->ag ps->dM σ s vs xs->dM σ s vs ys
 |[],[],[],_,_,_,_=>trivial
 |_::_,[],_,_,_,_,h=>h.elim
 |[],_::_,_,_,_,_,h=>h.elim
 |[],[],_::_,_,h,_,_=>by simp[PO] at h
 |_::_,_::_,[],_,h,_,_=>by simp[PO] at h
 |v::vs,a::al,b::bs,ps,h,c,f=>by
  simp only[PO] at h;cases d:Uc a b with
  |none=>grind
  |some p =>
   cases e:PO al bs with
   |none=>grind
   |some q =>
    simp[d,e] at h;subst h;rw[ag.cat] at c;exact⟨JY d c.1 f.1,DX e c.2 f.2⟩
def Ud:E1->E1->Option (List Prop)
 |.one a,.one b=>Uc a b
 |.agg al,.agg bs=>PO al bs
 |_,_=>af
def JZ{σ:List aV}{s:St}{v:ak}{x y:E1}{ps:List Prop}(h:Ud x y=aa ps)(a:ag ps)(r:mT σ s v x):mT σ s v y:=by
 cases x <;> cases y <;> simp only[Ud,reduceCtorEq] at h
 .exact JY h a r
 .obtain⟨vs,b,c⟩:=r;exact⟨vs,b,DX h a c⟩
def DY:List E1->List E1->Option (List Prop)
 |[],[]=>aa []
 |a::al,b::bs=>match Ud a b with
  |some p=>match DY al bs with
   |some q=>aa (kl p q)
   |none=>af
  |none=>af
 |_,_=>af
def FN{σ:List aV}{s:St}:∀ {vs:List ak}{xs ys:List E1}{ps:List Prop},DY xs ys=aa ps->ag ps->gI σ s vs xs->gI σ s vs ys
 |[],[],[],_,_,_,_=>trivial
 |_::_,[],_,_,_,_,h=>h.elim
 |[],_::_,_,_,_,_,h=>h.elim
 |[],[],_::_,_,h,_,_=>by simp[DY] at h
 |_::_,_::_,[],_,h,_,_=>by simp[DY] at h
 |v::vs,a::al,b::bs,ps,h,c,f=>by
  simp only[DY] at h;cases d:Ud a b with
  |none=>grind
  |some p =>
   cases e:DY al bs with
   |none=>grind
   |some q =>
    simp[d,e] at h;subst h;rw[ag.cat] at c;exact⟨JZ d c.1 f.1,FN e c.2 f.2⟩
def Dh:D->D->Option (List Prop)
 |.e x,.e y=>Ud x y
 |.eJ xs,.eJ ys=>DY xs ys
 |_,.any=>aa []
 |_,_=>af
theorem qy{σ:List aV}{s:St}{v:ak}{x y:D}{ps:List Prop}(h:Dh x y=aa ps)(a:ag ps)(r:c8 σ s v x):c8 σ s v y:=by
 cases x <;> cases y <;> simp only[Dh,reduceCtorEq] at h
 .exact JZ h a r
 .trivial
 .obtain⟨vs,b,c⟩:=r;exact⟨vs,b,FN h a c⟩
 .trivial
 .trivial
def qD(φ:Fr):Fr->Option (List Prop)
 |[]=>aa []
 |(i,d)::r=>match Dh (look φ i) d with
  |some p=>match qD φ r with
   |some q=>aa (kl p q)
   |none=>af
  |none=>af
def dc{φ:Fr}:∀ {a:Fr}{ps:List Prop},qD φ a=aa ps->ag ps->oZ φ a
 |[],_,_,_=>λ_ _ _ _ _=>trivial
 |(i,d)::r,ps,h,c=>by
  simp only[qD] at h;cases f:Dh (look φ i) d with
  |none=>grind
  |some p =>
   cases b:qD φ r with
   |none=>grind
   |some q =>
    simp[f,b] at h;subst h;rw[ag.cat] at c;intro σ s v t e;simp only[look];cases g:aG i t with
    |true =>
     grind [Nat.eq_of_beq_eq_true,qy]
    |false=>exact dc b c.2 σ s v t e
def ld(σ:List aV):Bool:=match cU σ with|true=>mn σ|false=>ae
def yk{σ:List aV}(h:ld σ=ab):cU σ=ab/\mn σ=ab:=by
 unfold ld at h
 grind
def oz.BN{σ:List aV}{s:St}:∀ {ds:List Deferred}{ls:List Nat},oz σ s ds ls->∀ l∈ls,σ[l]?=aa .qS
 |[],[],_,l,hl=>by grind
 |[],_::_,r,_,_=>r.elim
 |_::_,[],r,_,_=>r.elim
 |d::ds,b::ls,⟨⟨h1,_⟩,_,a⟩,l,hl=>by
  rcases e9.1 hl with rfl|hl
  .exact h1
  .exact oz.BN a l hl
def b5(fn:Func)(a:Nat)(res:D)(σ':List aV):Post:=λe φ σ1 =>
 (e=.ret∨e=.normal)/\∃ ks ds d ps,xC φ fn.results.toList=aa ds/\rG ds=aa d/\Dh d (jB ks res)=aa ps/\ag ps/\u5 ks.length res=ab /\
  kI ks σ1=aa σ'/\ld σ'=ab/\eg ks=ab/\(∀ j,j<a->ks[j]?=aa j)
def Bu(P:aq)(fn:Func)(a:Nat)(res:D)(σ':List aV):Post:=λe φ σ1 =>
 (e=.ret∨e=.normal)/\∃ ks d ps,Bt P fn φ d/\Dh d (jB ks res)=aa ps/\ag ps/\u5 ks.length res=ab /\
  kI ks σ1=aa σ'/\ld σ'=ab/\eg ks=ab/\(∀ j,j<a->ks[j]?=aa j)
def b5.toJ{P:aq}{fn:Func}{a:Nat}{res:D}{σ':List aV}{e:Exit}{φ:Fr}{σ1:List aV}(h:b5 fn a res σ' e φ σ1):Bu P fn a res σ' e φ σ1:=by
 obtain⟨b,ks,ds,d,ps,h1,h2,c⟩:=h;exact⟨b,ks,d,ps,Bt.of h1 h2,c⟩
def cK.J0{P:aq}{ι:Type}{X:Cx P}{f:aW}{fn:Func}{c:Code}{args:List D}{σ:List aV}{σ':ι->List aV}{res:ι->D}(Z:P.funcs[f]?=aa fn)(F:(fn.name== "runtime.NumGoroutine")=ae)(hb:fn.body=aa c)(hlen:args.length<=fn.ntmps)
  (h:∀ s a,cv fn.ntmps σ s (ju 0 args) a->aJ σ s->∀ (b:aR) (k:List Item) (cs:List aR) (S:au->St->Prop),b.kind≠.early->b.roundOf=af ->
  (∀ e A σ1 s' a',(∃ j,Bu P fn σ.length (res j) (σ' j) e A σ1)->cv fn.ntmps σ1 s' A a'->aJ σ1 s'->cB σ s σ1 s'->ends X S b k cs e a' s')->fp X S (G (b.aT a (.code c::k)) cs) s):cK X f args σ res σ':=by
 refine⟨⟨fn,Z,F,by grind⟩,λs vs hr hh S cs hS=>?_⟩
 obtain⟨hl,hg⟩:=cw.get hr
 let b:aR:={ fn:=f,tmps:=#[],todo:=[],defers:=[],mode:=.run,kind:=.normal,roundOf:=af }
 have z:Frame.enter P f vs.toArray .normal=b.aT { tmps:=vs.toArray++Array.replicate (fn.ntmps-vs.toArray.size) aj,defers:=[] } [.code c]:=by
  simp[Frame.enter,Frame.aT,Z,hb,b]
 rw[z];refine h s { tmps:=vs.toArray++Array.replicate (fn.ntmps-vs.toArray.size) aj,defers:=[] } ⟨by grind,⟨[],av⟩,λt=>?_⟩ hh b [] cs S (by simp[b]) rfl ?_
 .rw[nP];simp only[gB,cq,me];have:=hg t;rcases cG t vs.length with u4|SU
  .have e:(vs.toArray++Array.replicate (fn.ntmps-vs.toArray.size) aj).getD t aj=(vs[t]?).getD aj:=by
    simp only[dC]
    grind
   grind
  .rw[qX (by omega)]
   trivial
 .rintro e A σ1 s1 a1 ⟨Q,W,ks,d,ps,h1,h3,h4,h5,T,V,h8,h9⟩ f' R st;obtain⟨h7,U⟩:=yk V;have fin:∀ (fr:aR) s2,cg s1 s2->fr.fn=f->fr.tmps=a1.tmps->fr.defers=a1.defers->fr.mode=.returning->fr.kind=.normal->fp X S (G fr cs) s2:=by
   intro fr s2 sG e1 e2 e3 e4 e5;have f2:=f'.rely sG R;have m:=R.rely sG;have g:=st.trans sG.stepW;obtain⟨v,r2,r1⟩:=h1 f2;obtain⟨i,r⟩:=zv (l':=s2.β) T m.len;have r4:=(qy h3 h4 r2).sub T r h5;obtain⟨c1,c2⟩:=iA T;obtain⟨d1,d2⟩:=iA r;have E:∀ L∈i,L∈s2.β:=zz r;have C:aJ (σ' Q) { s2 with β:=i }:=by
    obtain⟨N,_⟩:=m.sub T r h7 h8;refine⟨N.mem,N.len,λj B L H q=>?_,N.gd,N.lt,λb hb=>⟨(m.own b hb).1,λL q=>(m.own b hb).2 L (E L q)⟩⟩
    exact eO.plain (σ:=σ' Q) (s:={ s2 with β:=i,own:=zy s2 i }) (s':={ s2 with β:=i }) rfl rfl (kJ h7 B (bT H)) (N.box j B L H q)
   have Y:cB σ s (σ' Q) { s2 with β:=i }:=by
    refine⟨g.size,g.eL,g.mem,g.jA,λL q b hb=>g.xx _ (E L q) b hb,λl B L H q=>?_,g.os,g.tape,g.output,g.own⟩
    have hl:l<σ.length:=(cp.1 H).1;obtain⟨B',L',p1,p2,p3⟩:=g.box l B L H q
    grind
   obtain⟨ls,J⟩:=f2.defers;refine qB ls fr s2 _ m.lC (by simp) e4 (by rw[e3];exact J.taken m) λK n=>?_
   have p:cg { s2 with β:=i } { K with β:=i }:=by
    refine⟨rfl,n.M,n.own,n.size,λb hb=>n.eL b (hb.imp id ?_),n.mem,n.os,n.tape,n.output⟩
    rintro⟨L,q,hb⟩;obtain⟨j,hj,rfl⟩:=dT q;have I:j<ks.length:=by grind
    obtain⟨y,y1,y2⟩:=d2 j _ (br I);obtain⟨x,x1,x2⟩:=c2 j _ (br I);rw[br hj] at y1;cases y1;refine⟨_,_,y2,λhc=>?_,hb⟩
    rw[J.BN _ hc] at x2;cases x2;exact mZ U _ (bT x1) rfl
   have hG:eQ K { K with β:=i }:=⟨rfl,λ_ _ _ h=>h,λ_ _ _=>rfl,λb o v hv=>n.mem b o v (by rw[<-n.M];exact hv),λb hb=>hb.imp id λ⟨L,q,hb⟩=>⟨L,by rw[n.β];grind,hb⟩⟩
   refine .ghost hG (hS Q _ v _ ⟨e1,e4,rfl,e5,fn,by grind,λw hw=>?_⟩ (r4.mono p.stepW.ext C.len) (C.rely p) (Y.trans p.stepW))
   show (results fn fr.tmps).run P w=_/\∀ e∈(results fn fr.tmps).events P w #[],_;rw[e2];have O:∀ b o u,s2.M b o=aa u->w.cell? ⟨b,o,af⟩=aa u:=λb o u h=>hw b o u (by show K.M b o=aa u;rw[n.M];exact h)
   refine⟨(r1 w O).1,λe W=>?_⟩
   obtain⟨b,o,u,q1,q2⟩:=(r1 w O).2 e W;exact⟨b,o,u,q1,by show K.M b o=aa u;rw[n.M];exact q2⟩
  rcases W with rfl|rfl
  .intro pre;exact .ctl R rfl (λ_=>Ds rfl) λs2 sG=>fin _ s2 sG rfl rfl (k6 _) rfl rfl
  .exact .ctl R rfl (λ_=>Dt rfl) λs2 sG=>fin _ s2 sG rfl rfl (k6 _) rfl rfl
def cK.PN{P:aq}{ι:Type}{X:Cx P}{f:aW}{fn:Func}{c:Code}{args:List D}{σ:List aV}{σ':ι->List aV}{res:ι->D}(l:P.funcs[f]?=aa fn)(i:(fn.name== "runtime.NumGoroutine")=ae)(hb:fn.body=aa c)(g:args.length<=fn.ntmps)
  (h:∀ s a,cv fn.ntmps σ s (ju 0 args) a->aJ σ s->∀ (b:aR) (k:List Item) (cs:List aR) (S:au->St->Prop),b.kind≠.early->b.roundOf=af ->
  (∀ e d σ1 s' a',(∃ j,b5 fn σ.length (res j) (σ' j) e d σ1)->cv fn.ntmps σ1 s' d a'->aJ σ1 s'->cB σ s σ1 s'->ends X S b k cs e a' s')->fp X S (G (b.aT a (.code c::k)) cs) s):cK X f args σ res σ' :=
 cK.J0 l i hb g λs a f hh b k cs S h1 h2 hQ=>h s a f hh b k cs S h1 h2 λe d σ1 s' a' ⟨j,q⟩=>hQ e d σ1 s' a' ⟨j,q.toJ⟩
def cK.Jk{P:aq}{ι:Type}{X:Cx P}{f:aW}{fn:Func}{c:Code}{args:List D}{σ:List aV}{σ':ι->List aV}{res:ι->D}(l:P.funcs[f]?=aa fn)(d:(fn.name== "runtime.NumGoroutine")=ae)(hb:fn.body=aa c)(g:args.length<=fn.ntmps)
  (h:AW X fn.ntmps c (λe φ σ1=>∃ j,Bu P fn σ.length (res j) (σ' j) e φ σ1) (ju 0 args) σ):cK X f args σ res σ' :=
 cK.J0 l d hb g λs a f hh b k cs S m _ i=>h s a f hh b k cs S m i
def cK.intro{P:aq}{ι:Type}{X:Cx P}{f:aW}{fn:Func}{c:Code}{args:List D}{σ:List aV}{σ':ι->List aV}{res:ι->D}(l:P.funcs[f]?=aa fn)(d:(fn.name== "runtime.NumGoroutine")=ae)(hb:fn.body=aa c)(g:args.length<=fn.ntmps)
  (h:AW X fn.ntmps c (λe φ σ1=>∃ j,b5 fn σ.length (res j) (σ' j) e φ σ1) (ju 0 args) σ):cK X f args σ res σ' :=
 cK.PN l d hb g λs a f hh b k cs S m _ i=>h s a f hh b k cs S m i
def Ev.intro{P:aq}{X:Cx P}{f:aW}{fn:Func}{c:Code}{args:List D}{σ σ':List aV}{res:D}(d:P.funcs[f]?=aa fn)(b:(fn.name== "runtime.NumGoroutine")=ae)(hb:fn.body=aa c)(a:args.length<=fn.ntmps)
  (h:AW X fn.ntmps c (b5 fn σ.length res σ') (ju 0 args) σ):Ev X f args σ res σ' :=
 (cK.intro d b hb a (AW.mono h λ_ _ _ q=>⟨(),q⟩)).uv
end
inductive It where
 |code (c:Code)
 |blk (id:Nat)
 |ops (all rest:List aw)
def AK{P:aq}(X:Cx P)(N:Nat)(Qf:Post):List It->Post
 |[],e,φ,σ=>Qf e φ σ
 |.code c::K,.normal,φ,σ=>AW X N c (AK X N Qf K) φ σ
 |.code _::K,e,φ,σ=>AK X N Qf K e φ σ
 |.blk id::K,.exit IV,φ,σ=>if IV=id then AK X N Qf K .normal φ σ else AK X N Qf K (.exit IV) φ σ
 |.blk _::K,e,φ,σ=>AK X N Qf K e φ σ
 |.ops all rest::K,.normal,φ,σ=>jC X N all rest (AK X N Qf K .normal) φ σ
 |.ops _ _::K,e,φ,σ=>AK X N Qf K e φ σ
section
variable {P:aq}{X:Cx P}{N:Nat}{Qf:Post}{K:List It}{φ:Fr}{σ:List aV}
def AK.of_code{c:Code}(h:AK X N Qf [.code c] .normal φ σ):AW X N c Qf φ σ:=h
def AK.skip(h:AK X N Qf K .normal φ σ):AK X N Qf (.code .skip::K) .normal φ σ:=AW.skip h
def AK.seq{x y:Code}(h:AK X N Qf (.code x::.code y::K) .normal φ σ):AK X N Qf (.code (.seq x y)::K) .normal φ σ:=by
 refine AW.seq (AW.mono h ?_);intro e a σ' q;cases e <;> exact q
def AK.block{id:Nat}{c:Code}(h:AK X N Qf (.code c::.blk id::K) .normal φ σ):AK X N Qf (.code (.block id c)::K) .normal φ σ:=by
 refine AW.block (AW.mono h ?_);intro e a σ' q;cases e <;> exact q
def AK.Rh{id:Nat}(h:AK X N Qf K .normal φ σ):AK X N Qf (.blk id::K) .normal φ σ:=h
theorem AK.region{id:Nat}{ops:Array aw}(h:AK X N Qf (.ops ops.toList ops.toList::K) .normal φ σ):AK X N Qf (.code (.region id ops ae)::K) .normal φ σ:=AW.region h
def AK.Ri{all:List aw}(h:AK X N Qf K .normal φ σ):AK X N Qf (.ops all []::K) .normal φ σ:=jC.nil h
def AK.rY:∀ {K:List It},Qf .ret φ σ->AK X N Qf K .ret φ σ
 |[],h=>h
 |.code _::K,h=>AK.rY (K:=K) h
 |.blk _::K,h=>AK.rY (K:=K) h
 |.ops _ _::K,h=>AK.rY (K:=K) h
def AK.ret(h:Qf .ret φ σ):AK X N Qf (.code .ret::K) .normal φ σ:=AW.ret (AK.rY h)
def kM(id:Nat):List It->Option (List It)
 |[]=>af
 |.blk i::K=>match aG id i with|true=>aa K|false=>kM id K
 |_::K=>kM id K
def AK.wa{id:Nat}:∀ {K a:List It},kM id K=aa a->AK X N Qf a .normal φ σ->AK X N Qf K (.exit id) φ σ
 |[],_,h,_=>by cases h
 |.blk i::K,a,h,q=>by
  simp only[kM] at h;cases hb:aG id i with
  |true =>
   simp[hb] at h;subst h;have e:=bU hb;simp only[AK,e,cq];exact q
  |false =>
   simp[hb] at h;have b:id≠i:=λe=>by grind [Nat.beq_refl]
   simp only[AK,b,b9];exact AK.wa h q
 |.code _::K,a,h,q=>AK.wa (K:=K) h q
 |.ops _ _::K,a,h,q=>AK.wa (K:=K) h q
theorem AK.exit{id:Nat}{a:List It}(b:kM id K=aa a)(h:AK X N Qf a .normal φ σ):AK X N Qf (.code (.exit id)::K) .normal φ σ:=AW.exit (AK.wa b h)
theorem AK.cond{c:an}{x y:Code}{b:Bool}{t:Nat}(a:c=.tmp t)(hl:look φ t=.e (.one (.c (.bool b))))
  (d:b=ab->AK X N Qf (.code x::K) .normal φ σ) (f:b=ae->AK X N Qf (.code y::K) .normal φ σ):AK X N Qf (.code (.cond c x y)::K) .normal φ σ:=AW.cond a hl d f
def AK.loop{S:Type}{c:Code}(I:S->Prop)(fr:S->Fr)(st:S->List aV)(b:S->Nat)(x:S)(h:I x)(f:oZ φ (fr x))(d:st x=σ)
  (round:∀ x,I x->AK X N (λe a σ'=>match e with
   |.normal=>∃ y,I y/\b y<b x/\oZ a (fr y)/\σ'=st y
   |e=>AK X N Qf K e a σ') [.code c] .normal (fr x) (st x)):AK X N Qf (.code (.loop c)::K) .normal φ σ:=by
 refine AW.loop I fr st b x h f d λy g=>AW.mono (round y g) ?_
 intro e a σ' q;cases e <;> exact q
end
def c9{α a:Type}:List α->(List α->Option a)->Option a
 |[],k=>k []
 |x::r,k=>c9 r λq=>k (x::q)
theorem cR{α a:Type}(l:List α)(k:List α->Option a):c9 l k=k l:=by
 induction l generalizing k with
 |nil=>rfl
 |cons x r b=>simp[c9,b]
def zK(φ:Fr)(all:List aw)(j:Nat):Option (Option Bool) :=
 match fu j all with
 |some oj=>match oj.dst with
  |some d=>match look φ d with
   |.e (.one (.c (.bool ab)))=>aa (aa ab)
   |.e (.one (.c (.bool ae)))=>aa (aa ae)
   |.eJ []=>aa af
   |_=>af
  |none=>af
 |none=>af
def pV{N:Nat}{φ:Fr}{all:List aw}{j:Nat}{r:Option Bool}(h:zK φ all j=aa r){σ:List aV}{s:St}{a:Act}(f:cv N σ s φ a):yielded all.toArray a.tmps j=r:=by
 unfold zK at h;rw[eY] at h;unfold yielded;cases k:all[j]? with
 |none=>grind
 |some oj =>
  simp only[k] at h;simp only[iI,k,nA];cases l:oj.dst with
  |none=>grind
  |some d =>
   simp only[l] at h;simp only[nA];have c:=f.slot d;have key:∀ v,a.tmps.getD d aj=v->v≠aj->a.tmps[d]?=aa v:=by
    intro v g m;simp only[dC] at g
    grind
   split at h
   .rename_i e
    cases h;rw[e] at c;have b:=fx c;generalize g:a.tmps.getD d aj=v at b;cases b;rw[key _ g (by simp[aj])]
   .rename_i e
    cases h;rw[e] at c;have b:=fx c;generalize g:a.tmps.getD d aj=v at b;cases b;rw[key _ g (by simp[aj])]
   .rename_i e
    cases h;rw[e] at c;obtain⟨vs,o,n⟩:=c;have i:vs=[]:=by cases vs with
     |nil=>rfl
     |cons _ _=>exact n.elim
    subst i;simp only[dC] at o
    grind
   grind
def VX(T:List (Nat×TI))(φ:Fr)(σ:List aV)(o:aw):Option (D×List aV×List Prop) :=
 match o.op with
 |.move x|.assign x=>aa (bZ φ x,σ,[])
 |.pick c a b=>match bZ φ c with
  |.e (.one (.c (.bool ab)))=>aa (bZ φ a,σ,[])
  |.e (.one (.c (.bool ae)))=>aa (bZ φ b,σ,[])
  |_=>af
 |.binOp op _ x y _=>match bZ φ x,bZ φ y with
  |.e (.one (.c a)),.e (.one (.c b))=>match Nt op a b with
   |some (c,obs)=>aa (.e (.one (.c c)),σ,obs)
   |none=>af
  |_,_=>af
 |.unOp op _ x=>match bZ φ x with
  |.e (.one (.c a))=>match VW op a with
   |some c=>aa (.e (.one (.c c)),σ,[])
   |none=>af
  |_=>af
 |.extract x j=>match bZ φ x with
  |.eJ xs=>match fu j xs with
   |some e=>aa (.e e,σ,[])
   |none=>af
  |_=>af
 |.alloc E=>match bE T E with
  |some i=>c9 (σ++[.cells E (i.zero.map A.c)]) λσ'=>aa (.e (.one (.ptr σ.length 0)),σ',[])
  |none=>af
 |.box E x=>match mO (bZ φ x) with
  |some cs=>c9 (σ++[.cells E cs]) λσ'=>aa (.e (.one (.ptr σ.length 0)),σ',[])
  |none=>af
 |.load t x=>match bE T t with
  |some i=>match bZ φ x with
   |.e (.one (.ptr l off))=>match fu l σ with
    |some (.cells _ cs)=>match mX i (hI off cs) with
     |some e=>aa (.e e,σ,[])
     |none=>af
    |_=>af
   |.e (.one (.c (.rp cs)))=>match mX i (cs.map A.c) with
    |some e=>aa (.e e,σ,[])
    |none=>af
   |_=>af
  |none=>af
 |.store t x y=>match bE T t with
  |some i=>match bZ φ x with
   |.e (.one (.ptr l off))=>match fu l σ with
    |some (.cells E cs)=>match mO (bZ φ y) with
     |some new=>match aG new.length i.size with
      |true=>match eU off new cs with
       |some ma=>c9 (ef.rE l (.cells E ma) σ) λσ'=>aa (.any,σ',[])
       |none=>af
      |false=>af
     |none=>af
    |_=>af
   |_=>af
  |none=>af
 |.fieldAddr t x f=>match jL T t f with
  |some (k,_)=>match bZ φ x with
   |.e (.one (.ptr l off))=>aa (.e (.one (.ptr l (off+k))),σ,[])
   |.e (.one (.c (.rp cs)))=>aa (.e (.one (.c (.rp (hI k cs)))),σ,[])
   |_=>af
  |none=>af
 |.field t x f=>match jL T t f with
  |some (k,j)=>match bZ φ x with
   |.e (.agg cs)=>match mX j (hI k cs) with
    |some e=>aa (.e e,σ,[])
    |none=>af
   |_=>af
  |none=>af
 |.nilCheck x=>match bZ φ x with
  |.e (.one (.ptr l off))=>aa (.e (.one (.ptr l off)),σ,[])
  |.e (.one (.c (.rp cs)))=>aa (.e (.one (.c (.rp cs))),σ,[])
  |_=>af
 |.build t parts=>match zI T (bZ φ) t parts.toList with
  |some cs=>aa (.e (.agg cs),σ,[])
  |none=>af
 |.buildSlice t n parts=>match Dx T (bZ φ) t n parts.toList with
  |some (k,es)=>aa (.e (.one (.c (.sl ab k n λi=>es.getD i []))),σ,[])
  |none=>af
 |_=>af
theorem DS{P:aq}{T:List (Nat×TI)}(g:db P T){φ:Fr}{σ σ':List aV}{o:aw}{x:D}{obs:List Prop}(h:VX T φ σ o=aa (x,σ',obs))(n:ag obs):bF P o (bZ φ) σ x σ':=by
 unfold VX at h;split at h
 .grind [bF.move]
 .grind [bF.assign]
 .rename_i c a b d
  split at h
  .rename_i e;cases h;exact bF.pick d e
  .rename_i e;cases h;exact bF.pick d e
  grind
 .grind [bF.binOp]
 .grind [bF.unOp]
 .grind [bF.extract,dw]
 .grind [cR,bF.alloc]
 .grind [cR,bF.box]
 .rename_i t y d
  split at h
  .grind [bF.FD,dw,bF.JF]
  grind
 .rename_i t y z d
  split at h
  .rename_i i hi
   split at h
   .rename_i l off hx
    split at h
    .grind [cR,kz,bF.store,dw,Nat.eq_of_beq_eq_true]
    grind
   grind
  grind
 .rename_i t y f d
  split at h
  .rename_i k j m
   split at h
   .rename_i l off hx;cases h;exact bF.rR g d hx m
   .grind [bF.tK]
   grind
  grind
 .grind [bF.field]
 .grind [bF.tL,bF.vS]
 .grind [bF.build]
 .grind [bF.buildSlice]
 grind
def gw(N:Nat):Option Nat->Bool
 |some d=>bo (d+1) N
 |none=>ab
def ik{N:Nat}{d:Option Nat}(h:gw N d=ab):∀ t,d=aa t->t<N:=by
 intro t a;subst a;exact c7 h
theorem dq{all:List aw}{o:aw}(h:o.guard=af){a:Act}:bj o (yielded all.toArray a.tmps)=ab:=by simp[bj,h]
section
variable {P:aq}{T:List (Nat×TI)}{o:aw}{g:an->D}{σ:List aV}
def uz(g:an->D):Option an->Option (Option Int)
 |none=>aa af
 |some x=>match g x with
  |.e (.one (.c (.int _ j)))=>aa (aa j)
  |_=>af
def jf{s:St}{ρ:an->ak}(c:∀ y,c8 σ s (ρ y) (g y)){x:Option an}{b:Option Int}(h:uz g x=aa b):(x.map ρ=af/\b=af)∨∃ k j,x.map ρ=aa (.int k j)/\b=aa j:=by
 cases x with
 |none=>cases h;grind
 |some y =>
  right
  simp only[uz] at h;split at h
  .rename_i k j a
   cases h;have:=c y;rw[a] at this;have:=fx this;generalize d:ρ y=v at this;cases this
   grind
  grind
def cr(d:Nat):Option Int->Nat
 |none=>d
 |some j=>j.toNat
def iP(n:Nat):Option Int->Option Int->List Prop
 |none,af=>[]
 |some l,af=>[0<=l,l<=n]
 |none,aa h=>[0<=h,h<=n]
 |some l,aa h=>[0<=l,l<=h,h<=n]
def nK{isS:Bool}{n cap:Nat}(q:n<=cap){lo hi:Option ak}{l h:Option Int}(i:(lo=af/\l=af)∨∃ k j,lo=aa (.int k j)/\l=aa j)(m:(hi=af/\h=af)∨∃ k j,hi=aa (.int k j)/\h=aa j)
  (b:ag (iP n l h)) (w:az):(Instr.sliceBounds isS n cap lo hi af).run P w=.ok (cr 0 l,cr n h,cap) w/\cr 0 l<=cr n h/\cr n h<=n:=by
 rcases i with⟨rfl,rfl⟩|⟨d,l,rfl,rfl⟩ <;> rcases m with⟨rfl,rfl⟩|⟨f,h,rfl,rfl⟩
 .exact⟨by simp[Instr.sliceBounds,cr],by simp[cr],by simp[cr]⟩
 .obtain⟨a,c⟩:0<=h/\h<=(n:Int):=b;refine⟨?_,by simp[cr],by simp only[cr];omega⟩
  simp[Instr.sliceBounds,cr,run_sliceBound (P:=P) w f h cap _ a (by omega)]
 .obtain⟨a,c⟩:0<=l/\l<=(n:Int):=b;refine⟨?_,by simp only[cr];omega,by simp[cr]⟩
  simp[Instr.sliceBounds,cr,run_sliceBound (P:=P) w d l n _ a c]
 .obtain⟨a,c,p⟩:0<=l/\l<=h/\h<=(n:Int):=b;have e:((h.toNat:Nat):Int)=h:=q8 (by omega)
  refine⟨?_,by simp only[cr];omega,by simp only[cr];omega⟩
  simp[Instr.sliceBounds,cr,run_sliceBound (P:=P) w f h cap _ (by omega) (by omega),run_sliceBound (P:=P) w d l h.toNat _ a (by omega)]
def eF(w:az)(k:IntKind) (i:Int)(y:Nat)(code:BoundsCode)(a:0<=i)(b:i<=(y:Int))(es:Array Event):(Instr.sliceBound (.int k i) y code).events P w es=es:=by
 simp[Instr.sliceBound,asIntOf,a,b]
def pQ{isS:Bool}{n cap:Nat}{lo hi:Option ak}{l h:Option Int}(r:n<=cap)(m:(lo=af/\l=af)∨∃ k j,lo=aa (.int k j)/\l=aa j)(p:(hi=af/\h=af)∨∃ k j,hi=aa (.int k j)/\h=aa j)
  (b:ag (iP n l h)) (w:az) (es:Array Event):(Instr.sliceBounds isS n cap lo hi af).events P w es=es:=by
 have s:∀ (isS:Bool) (v:Option ak) (d:Nat) (w:az) (es:Array Event),v=af->(Instr.sliceBounds isS n cap af af af).events P w es=es:=λisS v d w es _=>by simp[Instr.sliceBounds]
 rcases m with⟨rfl,rfl⟩|⟨i,l,rfl,rfl⟩ <;> rcases p with⟨rfl,rfl⟩|⟨f,h,rfl,rfl⟩
 .simp[Instr.sliceBounds]
 .obtain⟨a,c⟩:0<=h/\h<=(n:Int):=b;simp[Instr.sliceBounds,eF (P:=P) w f h cap _ a (by omega)]
 .obtain⟨a,c⟩:0<=l/\l<=(n:Int):=b;simp[Instr.sliceBounds,eF (P:=P) w i l n _ a c]
 .obtain⟨a,c,q⟩:0<=l/\l<=h/\h<=(n:Int):=b;have e:((h.toNat:Nat):Int)=h:=q8 (by omega)
  simp[Instr.sliceBounds,run_sliceBound (P:=P) w f h cap _ (by omega) (by omega),eF (P:=P) w f h cap _ (by omega) (by omega),eF (P:=P) w i l h.toNat _ a (by omega)]
def rO(s:List UInt8):Option Int->Option Int->List UInt8
 |none,af=>s
 |some l,af=>s.drop l.toNat
 |none,aa h=>s.take h.toNat
 |some l,aa h=>(s.take h.toNat).drop l.toNat
theorem bF.JC(v:db P T){t:ar}{x:an}{lo hi:Option an}(h:o.op=.slice t x lo hi af){i:TI}(m:bE T t=aa i)(y:i.desc=.string){s:List UInt8}{l u:Option Int}
  (z:g x=.e (.one (.c (.str s)))) (hl:uz g lo=aa l) (r:uz g hi=aa u) (A:ag (iP s.length l u)):bF P o g σ (.e (.one (.c (.str (rO s l u))))) σ:=by
 refine .quiet λst ρ hh hr=>?_
 have h1:=hr x;rw[z] at h1
 replace h1:=fx h1
 generalize j:ρ x=vx at h1;cases h1 with
 |@str sb _ p q =>
 have b:sb.size=s.length:=by rw[<-p];exact jh.symm
 obtain⟨hb,d,f⟩:=nK (P:=P) (isS:=ae) (n:=sb.size) (cap:=sb.size) (bg _) (jf hr hl) (jf hr r) (by grind) st.w
 have a:=(v t i m).run_underlying (w:=st.w);rw[y] at a;have k:=pQ (P:=P) (isS:=ae) (n:=sb.size) (cap:=sb.size) (bg _) (jf hr hl) (jf hr r) (by grind) st.w
 refine⟨.string (sb.extract (cr 0 l) (cr sb.size u)),?_,Rd.str ?_ ?_,by simp[ay,h,j,Instr.sliceAt,a,Instr.slice,k]⟩
 .simp[ay,h,j,Instr.sliceAt,a,Instr.slice,hb]
 .rw[Lib.extract_data,p,b];rw[b] at d f;cases l <;> cases u <;> simp only[rO,cr] at d f ⊢
  .simp
  .simp
  .grind [List.take_of_length_le]
  .rw[List.drop_take]
 .cases l <;> cases u <;> simp only[rO,oJ,List.length_take] <;> omega
def jK(l:Nat)(f:Nat->List C):Nat->List C:=λi=>f (l+i)
def Ns(tt:Bool):Option Int->Bool
 |none=>tt
 |some _=>ae
theorem bF.NB(y:db P T){t:ar}{x:an}{lo hi:Option an}(h:o.op=.slice t x lo hi af){i p:TI}{E:ar}(r:bE T t=aa i)(L:i.desc=.slice E)(N:bE T E=aa p){tt:Bool}{n:Nat}{es:Nat->List C}{l u:Option Int}
  (G:∀ s v,c8 σ s v (g x)->Rd s.M v (.sl tt p.size n es)) (hl:uz g lo=aa l) (B:uz g hi=aa u) (z:ag (iP n l u)) :
  bF P o g σ (.e (.one (.c (.sl (Ns tt u) p.size (cr n u-cr 0 l) (jK (cr 0 l) es))))) σ:=by
 refine .quiet λst ρ hh hr=>?_
 have h1:=G st _ (hr x);obtain⟨a,cap,vs,q,k,I,H,R,Q⟩:=h1.flat;rw[q] at h1;obtain⟨hb,K,F⟩:=nK (P:=P) (isS:=ab) k (jf hr hl) (jf hr B) z st.w;have d:=(y t i r).run_underlying (w:=st.w);rw[L] at d;refine⟨.slice (if cap=cr 0 l then a else a.map (·.add (cr 0 l*p.size))) (cr n u-cr 0 l) (cap-cr 0 l),?_,?_,by simp[ay,h,q,Instr.sliceAt,d,Instr.slice,hb,pQ (P:=P) (isS:=ab) k (jf hr hl) (jf hr B) z st.w]⟩
 .simp[ay,h,q,Instr.sliceAt,d,Instr.slice,hb,(y E p N).run_sizeOf]
 .cases h1 with
  |sl b off f _ _ _ O J hm' Ps =>
   refine Rd.sl b (off+cr 0 l*p.size) (λi j=>f (cr 0 l+i) j) (by omega) (by omega) ?_ (λi hi=>O _ (by omega)) (λA=>?_) (λi hi j c hj=>?_) (λi hi j c hj=>Ps _ (by omega) j c hj)
   .intro m;cases u with
    |none=>simp only[Ns] at m;have:=H m;simp only[cr];omega
    |some u=>cases m
   .rw[aY (by omega),J (by omega)]
    simp[dg]
   .have:=hm' (cr 0 l+i) (by omega) j c hj
    grind
def bF.Nz(m:db P T){b dst:ar}{x:an}(h:o.op=.convert b dst x){i i2:TI}{k k':IntKind}{j:Int}(hi:bE T b=aa i)(l:bE T dst=aa i2)(p:i2.desc=.int k')(q:g x=.e (.one (.c (.int k j))))(n:bu k' j) :
  bF P o g σ (.e (.one (.c (.int k' j)))) σ:=by
 refine .quiet λst ρ hh hr=>?_
 have h1:=hr x;rw[q] at h1
 replace h1:=fx h1
 generalize d:ρ x=vx at h1;cases h1;have f:=(m b i hi).run_underlying (w:=st.w);have a:=(m dst i2 l).run_underlying (w:=st.w);rw[p] at a;exact⟨.int k' j,by simp[ay,h,d,convert,f,a,Conv.intToInt,mj n],Rd.int n,by simp[ay,h,d,convert,f,a,Conv.intToInt]⟩
theorem bF.NA(l:db P T){b dst:ar}{x:an}(h:o.op=.convert b dst x){i i2:TI}{s:List UInt8}(hi:bE T b=aa i)(k:bE T dst=aa i2)(m:i2.desc=.string)(n:g x=.e (.one (.c (.str s)))) :
  bF P o g σ (.e (.one (.c (.str s)))) σ:=by
 refine .quiet λst ρ hh hr=>?_
 have h1:=hr x;rw[n] at h1;have f:=fx h1;generalize d:ρ x=vx at f;cases f;have j:=(l b i hi).run_underlying (w:=st.w);have a:=(l dst i2 k).run_underlying (w:=st.w);rw[m] at a;exact⟨_,by simp[ay,h,d,convert,j,a];rfl,by grind,by simp[ay,h,d,convert,j,a]⟩
def vO(f:Nat->List C):Nat->Nat->Option (List UInt8)
 |_,0=>aa []
 |i,n+1=>match f i with
  |[.int .u8 v]=>match vO f (i+1) n with
   |some r=>aa (UInt8.ofNat v.toNat::r)
   |none=>af
  |_=>af
def yr{M:Mem}{f:Nat->List C}:∀ {n i:Nat}{r:List UInt8}{vs:List ak},vO f i n=aa r->vs.length=n->(∀ j,j<n->∀ c,(f (i+j))[0]?=aa c->∃ v,vs[j]?=aa v/\Rd M v c) ->
  ∃ xs:List Int,vs=xs.map (Value.int .u8)/\r=xs.map (λx=>UInt8.ofNat x.toNat)
 |0,i,r,vs,h,b,_=>by cases h;exact⟨[],by grind,rfl⟩
 |n+1,i,r,[],h,b,_=>by grind
 |n+1,i,r,v::vs,h,b,a=>by
  simp only[vO] at h;split at h
  .rename_i x t
   split at h
   .rename_i q e
    cases h;obtain⟨u,d,k⟩:=a 0 (by omega) (.int .u8 x) (by grind)
    simp at d;subst d;cases k;obtain⟨xs,m,p⟩:=yr (vs:=vs) e (by grind) (λj s c l=>by
     have:=a (j+1) (by omega) c (by grind)
     simpa using this)
    exact⟨x::xs,by grind,by grind⟩
   grind
  grind
def oh{P:aq}(w:az){F:ak->ByteArray->Sem (ForInStep ByteArray)}(a:∀ x s,F (.int .u8 x) s=pure (.yield (s.push (UInt8.ofNat x.toNat)))):∀ (xs:List Int)(s:ByteArray),
  (forIn (m:=Sem) (xs.map (Value.int .u8)) s F).run P w=.ok ⟨s.data++(xs.map λx=>UInt8.ofNat x.toNat).toArray⟩ w
 |[],s=>by simp
 |x::xs,s=>by
  simp only[rl,List.forIn_cons,a,bX,cW,b8];rw[oh w a xs]
  congr 2
  apply Array.ext'
  simp[ByteArray.push]
end
section
open Go.Conc (G)
def OA{P:aq}(X:Cx P)(N:Nat)(all:List aw)(o:aw)(φ:Fr)(σ:List aV)(x:D)(σ':List aV):Prop :=
 ∀ s a,cv N σ s φ a->aJ σ s->∀ (b:aR) (k:List Item) (cs:List aR) (S:au->St->Prop) (i:Nat) (rest:List Nat),b.kind≠.early->all.toArray[i]?=aa o ->
  (∀ v s',c8 σ' s' v x->aJ σ' s'->cB σ s σ' s'->fp X S (G (b.aT (a.put o.dst v) (.inRegion all.toArray rest::k)) cs) s')->fp X S (G (b.aT a (.inRegion all.toArray (i::rest)::k)) cs) s
section
variable {P:aq}{X:Cx P}{N:Nat}{all rest:List aw}{φ m:Fr}{σ σ':List aV}{o:aw}{x:D}
theorem OA.mb(p:∀ σ s a,cv N σ s φ a->bj o (yielded all.toArray a.tmps)=ab)(h:bF P o (bZ φ) σ x σ'):OA X N all o φ σ x σ':=by
 intro s a f hh b k cs S i rest hb hi hK;refine zO hb hi (p _ _ _ f) λe c=>?_
 have d:=hh.rely c;obtain⟨r,s',h1,h2,g,n,q⟩:=h e a.eval d (dN (f.rely c hh));have l:=c.stepW.trans (n.ox d);have j:qv e s' ((ay a.eval o).events P e.w #[]):=⟨⟨σ,σ',d,g,n⟩,q⟩;cases r with
 |value v=>exact⟨_,s',v,h1,.inl rfl,j,hK v s' h2 g l⟩
 |skip=>simp only[Q8] at h2;subst h2;exact⟨_,s',aj,h1,.inr ⟨rfl,rfl⟩,j,hK aj s' av g l⟩
 |_=>exact h2.elim
def OA.pass(e:∀ σ s a,cv N σ s φ a->bj o (yielded all.toArray a.tmps)=ae):OA X N all o φ σ (.eJ []) σ:=by
 intro s a f hh b k cs S i rest hb hi hK;exact .ctl hh rfl (λ_=>Nb hi (e _ _ _ f)) λd c=>hK aj d ⟨[],rfl,av⟩ (hh.rely c) c.stepW
def jC.sZ{Q:Fr->List aV->Prop}(h:OA X N all o φ σ x σ')(g:∀ t,o.dst=aa t->t<N)(k:jC X N all rest Q (lA o.dst x φ) σ'):jC X N all (o::rest) Q φ σ:=by
 intro s a f hh b kk cs S idx hb jG hQ;cases idx with
 |nil=>exact jG.elim
 |cons i idx =>
 refine h s a f hh b kk cs S i idx hb jG.1 λv s' hv k9 st=>k s' _ ?_ k9 b kk cs S idx hb jG.2 λc σ2 s2 a2 q e h2 ot=>hQ c σ2 s2 a2 q e h2 (st.trans ot)
 cases d:o.dst with
 |none=>exact f.mono st hh.len
 |some t=>exact(f.mono st hh.len).put (g t d) hv
end
abbrev dh:=List D->List aV->Option (D×List aV×List Prop)
def ym:List (Nat×dh)->Nat->Option dh
 |[],_=>af
 |(i,g)::r,f=>cond (aG i f) (aa g) (ym r f)
def dG{P:aq}(X:Cx P)(f:aW)(g:dh):Prop:=∀ args σ res σ' obs,g args σ=aa (res,σ',obs)->ag obs->Ev X f args σ res σ'
def bC{P:aq}(X:Cx P)(CT:List (Nat×dh)):Prop:=∀ f g,ym CT f=aa g->dG X f g
def bC.nil{P:aq}{X:Cx P}:bC X []:=λ_ _ h=>by cases h
def bC.cons{P:aq}{X:Cx P}{f:aW}{g:dh}{CT:List (Nat×dh)}(h:dG X f g)(r:bC X CT):bC X ((f,g)::CT):=by
 intro a g2 h2;simp only[ym] at h2;cases hb:aG f a with
 |true=>grind [Nat.eq_of_beq_eq_true]
 |false=>rw[hb] at h2;exact r a g2 h2
def ZX:A->List Nat->List Nat
 |.ptr l _,ks=>cond (fJ l ks) ks (ks++[l])
 |.vec l _ _ _,ks=>cond (fJ l ks) ks (ks++[l])
 |.ref l,ks=>cond (fJ l ks) ks (ks++[l])
 |.bp l _,ks=>cond (fJ l ks) ks (ks++[l])
 |_,ks=>ks
def ZY:List A->List Nat->List Nat
 |[],ks=>ks
 |a::r,ks=>ZY r (ZX a ks)
def bxD:D->List Nat->List Nat
 |.e (.one a),ks=>ZX a ks
 |.e (.agg cs),ks=>ZY cs ks
 |_,ks=>ks
def Ue:List D->List Nat->List Nat
 |[],ks=>ks
 |a::r,ks=>Ue r (bxD a ks)
def BA(l:Nat):List Nat->Nat->Option Nat
 |[],_=>af
 |k::r,i=>match aG k l with|true=>aa i|false=>BA l r (i+1)
def rZ{l:Nat}:∀ {ks:List Nat}{i j:Nat},BA l ks i=aa j->i<=j/\ks[j-i]?=aa l
 |[],_,_,h=>by cases h
 |k::r,i,j,h=>by
  simp only[BA] at h;cases a:aG k l with
  |true=>rw[a] at h;cases h;exact⟨bg _,by grind [Nat.eq_of_beq_eq_true]⟩
  |false =>
   rw[a] at h;obtain⟨b,c⟩:=rZ h
   grind
def S1(ks:List Nat):A->Option A
 |.ptr l o=>match BA l ks 0 with|some i=>aa (.ptr i o)|none=>af
 |.ref l=>match BA l ks 0 with|some i=>aa (.ref i)|none=>af
 |.bp l w=>match BA l ks 0 with|some i=>aa (.bp i w)|none=>af
 |.vec _ _ _ _=>af
 |.c x=>aa (.c x)
 |.any=>aa .any
def V5(ks:List Nat):List A->Option (List A)
 |[]=>aa []
 |a::r=>match S1 ks a with
  |some b=>match V5 ks r with
   |some q=>aa (b::q)
   |none=>af
  |none=>af
def XA(ks:List Nat):D->Option D
 |.e (.one a)=>match S1 ks a with|some b=>aa (.e (.one b))|none=>af
 |.e (.agg cs)=>match V5 ks cs with|some b=>aa (.e (.agg b))|none=>af
 |.eJ _=>af
 |.any=>aa .any
def G5(ks:List Nat):List D->Option (List D)
 |[]=>aa []
 |a::r=>match XA ks a with
  |some b=>match G5 ks r with
   |some q=>aa (b::q)
   |none=>af
  |none=>af
def J3{ks:List Nat}{a b:A}(h:S1 ks a=aa b):oy ks b=a/\GN ks.length b=ab:=by
 cases a with
 |ptr l o =>
  simp only[S1] at h;split at h
  .rename_i i hi
   cases h;obtain⟨_,d⟩:=rZ hi;simp only[me] at d;have e:i<ks.length:=(cp.1 d).1;exact⟨by simp[oy,eY,d],qW e⟩
  grind
 |ref l =>
  simp only[S1] at h;split at h
  .rename_i i hi
   cases h;obtain⟨_,d⟩:=rZ hi;simp only[me] at d;have e:i<ks.length:=(cp.1 d).1;exact⟨by simp[oy,eY,d],qW e⟩
  grind
 |bp l w =>
  simp only[S1] at h;split at h
  .rename_i i hi
   cases h;obtain⟨_,d⟩:=rZ hi;simp only[me] at d;have e:i<ks.length:=(cp.1 d).1;exact⟨by simp[oy,eY,d],qW e⟩
  grind
 |vec l k n es=>cases h
 |c x=>cases h;exact⟨rfl,rfl⟩
 |any=>cases h;exact⟨rfl,rfl⟩
def J4{ks:List Nat}:∀ {a b:List A},V5 ks a=aa b->Bo ks b=a/\DH ks.length b=ab
 |[],b,h=>by cases h;exact⟨rfl,rfl⟩
 |a::r,b,h=>by
  simp only[V5] at h;split at h
  .rename_i x i
   split at h
   .rename_i q c
    cases h;obtain⟨g,d⟩:=J3 i;obtain⟨e,f⟩:=J4 c;exact⟨by simp[Bo,g,e],by simp[DH,d,f]⟩
   grind
  grind
def Q9{ks:List Nat}{a b:D}(h:XA ks a=aa b):jB ks b=a/\u5 ks.length b=ab:=by
 unfold XA at h;split at h
 .rename_i a
  split at h
  .rename_i x e;cases h;obtain⟨c,d⟩:=J3 e;exact⟨by simp[jB,zw,c],by simp[u5,Ji,d]⟩
  grind
 .rename_i cs
  split at h
  .rename_i x e;cases h;obtain⟨c,d⟩:=J4 e;exact⟨by simp[jB,zw,c],by simp[u5,Ji,d]⟩
  grind
 .cases h
 .cases h;exact⟨rfl,rfl⟩
def FP{ks:List Nat}:∀ {a b:List D},G5 ks a=aa b->iX ks b=a/\ow ks.length b=ab
 |[],b,h=>by cases h;exact⟨rfl,rfl⟩
 |a::r,b,h=>by
  simp only[G5] at h;split at h
  .rename_i x i
   split at h
   .rename_i q c
    cases h;obtain⟨g,d⟩:=Q9 i;obtain⟨e,f⟩:=FP c;exact⟨by simp[iX,g,e],by simp[ow,d,f]⟩
   grind
  grind
def JA(CT:List (Nat×dh))(φ:Fr)(σ:List aV)(a:an)(xs:List an):Option (D×List aV×List Prop) :=
 match eP (bZ φ a) with
 |none=>af
 |some (f,cap)=>match ym CT f with
  |none=>af
  |some g =>
   let args:=oe (xs.map (bZ φ)++fW cap)
   let ks:=Ue args []
   match G5 ks args with
   |none=>af
   |some J5=>match kI ks σ with
    |none=>af
    |some σs=>match g J5 σs with
     |none=>af
     |some (res,σ1,obs)=>match cU σs,cU σ1,eg ks,bo ks.length σ1.length with
      |true,ab,ab,ab=>aa (jB (ks++mP σ.length (σ1.length-ks.length)) res,ef ks σ1 σ,obs)
      |_,_,_,_=>af
theorem OA.PQ{P:aq}{X:Cx P}{N:Nat}{all:List aw}{φ:Fr}{σ:List aV}{o:aw}{CT:List (Nat×dh)}(hC:bC X CT){B:an}{xs:Array an}{F:Array ar}
  (R:∀ σ s a,cv N σ s φ a->bj o (yielded all.toArray a.tmps)=ab) (M:o.op=.call { callee:=.value B,args:=xs,argTypes:=F }) {f:aW} {cap:List C} (A:eP (bZ φ B)=aa (f,cap)) {g:dh} (K:ym CT f=aa g)
  {ks:List Nat} {d:List D} {p σ1:List aV} {res:D} {obs:List Prop} (H:G5 ks (oe (xs.toList.map (bZ φ)++fW cap))=aa d) (L:kI ks σ=aa p) (y:g d p=aa (res,σ1,obs))
  (Q:cU p=ab) (E:cU σ1=ab) (hn:eg ks=ab) (I:ks.length<=σ1.length) (r:ag obs):OA X N all o φ σ (jB (ks++mP σ.length (σ1.length-ks.length)) res) (ef ks σ1 σ):=by
 obtain⟨l,G⟩:=FP H;intro s a n hh b kk cs S i rest hb hi hK;have t:=hC f g K _ _ _ _ _ y r;have z:=dN n B;unfold eP at A;split at A
 case h_2=>cases A
 case h_1 f' I0 he =>
  cases A;rw[he] at z;have h:=fx z;generalize O:a.eval B=fv at h;cases h with
  |fn fs ma hl Bb f1 f2 h1 h2 r1 r2 =>
   have J:fs=[]:=hX hl;subst J;have q:cw σ s ma (fW cap):=lN (λj c hj=>⟨f2 j,h2 j (by grind),r2 j c hj⟩) Bb
   have u:cw σ s (xs.toList.map a.eval++ma) (iX ks d):=by
    rw[l];exact rF ((nH (dN n) xs.toList).append q)
   obtain⟨fn,v,k,e⟩:=t.1;exact Jj hb hi (R _ _ _ n) hh (λw=>(gL M v k e O w).1) (λw=>(gL M v k e O w).2) t u G L Q E hn I hK
theorem OA.call{P:aq}{X:Cx P}{N:Nat}{all:List aw}{φ:Fr}{σ σ':List aV}{o:aw}{CT:List (Nat×dh)}(hC:bC X CT){e:an}{xs:Array an}{c:Array ar}{x:D}{obs:List Prop}
  (j:∀ σ s a,cv N σ s φ a->bj o (yielded all.toArray a.tmps)=ab) (i:o.op=.call { callee:=.value e,args:=xs,argTypes:=c })
  (b:JA CT φ σ e xs.toList=aa (x,σ',obs)) (d:ag obs):OA X N all o φ σ x σ':=by
 unfold JA at b;split at b
 .cases b
 rename_i f cap hf
 split at b
 .cases b
 rename_i g h
 simp only at b;split at b
 .cases b
 grind [OA.PQ,Nat.le_of_ble_eq_true]
def BQ{d:D}(h:u5 0 d=ab):jB [] d=d:=by
 have g:∀ {a:A},GN 0 a=ab->oy [] a=a:=by
  intro a b;cases a <;> simp only[GN] at b <;> first|rfl|(simp at b)
 have j:∀ {l:List A},DH 0 l=ab->Bo [] l=l:=by
  intro l
  induction l with
  |nil=>intro _;rfl
  |cons a r f =>
   intro h;simp only[DH] at h;cases b:GN 0 a with
   |false=>grind
   |true=>simp only[b] at h;simp[Bo,g b,f h]
 have i:∀ {a:E1},Ji 0 a=ab->zw [] a=a:=by
  intro a b;cases a with
  |one a=>simp[zw,g b]
  |agg cs=>simp[zw,j b]
 have c:∀ {l:List E1},xB 0 l=ab->ye [] l=l:=by
  intro l
  induction l with
  |nil=>intro _;rfl
  |cons a r f =>
   intro h;simp only[xB] at h;cases b:Ji 0 a with
   |false=>grind
   |true=>simp only[b] at h;simp[ye,i b,f h]
 cases d with
 |e x=>simp[jB,i h]
 |eJ xs=>simp[jB,c h]
 |any=>rfl
def By(CT:List (Nat×dh))(φ:Fr)(a:an)(xs:List an):Option (D×List Prop) :=
 match eP (bZ φ a) with
 |none=>af
 |some (f,cap)=>match ym CT f with
  |none=>af
  |some g=>match G5 [] (oe (xs.map (bZ φ)++fW cap)) with
   |none=>af
   |some J5=>match g J5 [] with
    |some (res,[],obs)=>match u5 0 res with
     |true=>aa (res,obs)
     |false=>af
    |_=>af
theorem OA.By{P:aq}{X:Cx P}{N:Nat}{all:List aw}{φ:Fr}{σ:List aV}{o:aw}{CT:List (Nat×dh)}(hC:bC X CT){k:an}{xs:Array an}{e:Array ar}{x:D}{obs:List Prop}
  (n:∀ σ s a,cv N σ s φ a->bj o (yielded all.toArray a.tmps)=ab) (l:o.op=.call { callee:=.value k,args:=xs,argTypes:=e })
  (b:AM.By CT φ k xs.toList=aa (x,obs)) (c:ag obs):OA X N all o φ σ x σ:=by
 unfold AM.By at b;split at b
 .cases b
 rename_i f cap hf
 split at b
 .cases b
 rename_i g d
 split at b
 .cases b
 rename_i h j
 split at b
 case h_2=>cases b
 rename_i res acI XC
 split at b
 case h_2=>cases b
 rename_i i
 cases b;have:=OA.PQ (σ:=σ) hC n l hf d j rfl XC rfl rfl rfl (bg _) c;simpa[mP,BQ i,ef] using this
structure IN (N:Nat)(σ:List aV)(s:St)(V:Nat->D)(a:Act):Prop where
 size:a.tmps.size=N
 defers:∃ ls,oz σ s a.defers ls
 slot:∀ t,c8 σ s (a.tmps.getD t aj) (V t)
def IN.Jp{N:Nat}{σ:List aV}{s:St}{V:Nat->D}{φ:Fr}{a:Act}(f:IN N σ s V a)(h:∀ t σ s v,c8 σ s v (V t)->c8 σ s v (look φ t)):cv N σ s φ a :=
 ⟨f.size,f.defers,λt=>h t _ _ _ (f.slot t)⟩
def cZ(e:Edge):Bool:=Region.binds .any e
structure vI {P:aq}(X:Cx P)(N:Nat)(ops:Array aw)(φ:Fr)(S:Nat->List aV)(x:Nat->D)(p:Nat->Fr)(free c:Nat->Bool)(q:Nat->Nat->Prop)(idx:Nat->Option Nat)(m:Fr):Prop where
 eh:P.follows Departure.mixedOrders=ab
 back:∀ i o,ops[i]?=aa o->∀ e∈o.after,cZ e=ab->e.on<i
 Jq:∀ i o d,ops[i]?=aa o->o.dst=aa d->idx d=aa i/\d<N
 xE:∀ d i,idx d=aa i->∃ o,ops[i]?=aa o/\o.dst=aa d
 quiet:∀ i,c i=ae->S (i+1)=S i
 one:∀ i o,ops[i]?=aa o->free i=ae->OA X N ops.toList o (p i) (S i) (x i) (S (i+1))
 all:∀ i o,ops[i]?=aa o->free i=ab->c i=ae/\∀ k,OA X N ops.toList o (p i) (S k) (x i) (S k)
 cl:∀ L:Nat->Prop,(∀ i o,ops[i]?=aa o->L i->∀ e∈o.after,cZ e=ab->L e.on)->∀ i j,q i j->(L i->L j)/\∃ o,ops[i]?=aa o/\((∀ e∈o.after,cZ e=ab->L e.on)->L j)
 comp:∀ i f,i<ops.size->f<ops.size->c f=ab->i≠f->free i=ae->(f<i/\q i f)∨(i<f/\q f i)
 SX:∀ i o,ops[i]?=aa o->∀ t σ s v,c8 σ s v (match idx t with|some j=>(if ∃ e∈o.after,cZ e=ab/\e.on=j then x j else if ∃ oj,ops[j]?=aa oj/\∃ e∈oj.after,cZ e=ab/\e.on=i then look φ t else .any)|none=>look φ t)->c8 σ s v (look (p i) t)
 fin:∀ t σ s v,c8 σ s v (match idx t with|some j=>x j|none=>look φ t)->c8 σ s v (look m t)
open Classical in
noncomputable def fZ(φ:Fr)(x:Nat->D)(idx:Nat->Option Nat)(L:Array Bool)(t:Nat):D :=
 match idx t with
 |some j=>if L.getD j ae=ab then x j else look φ t
 |none=>look φ t
theorem mem_ready{ops:Array aw}{L:Array Bool}{i:Nat}:i∈bd .any ops L↔∃ o,ops[i]?=aa o/\L.getD i ab=ae/\∀ e∈o.after,cZ e=ab->L.getD e.on ae=ab:=by
 unfold bd;simp only[mc,rj,bL,ji]
 constructor
 .rintro⟨b,g,a⟩;rw[fQ b] at a;simp only[j6,fI,Array.all_eq_true',mK,ji] at a;refine⟨ops[i],fQ b,g,λe j d=>?_⟩
  rcases a e j with h|h
  .unfold cZ at d;grind
  grind
 .rintro⟨o,b,g,a⟩;have f:i<ops.size:=(hY.1 b).1;refine⟨f,g,?_⟩;rw[b];simp only[j6,fI,Array.all_eq_true',mK,ji];intro e j;cases d:Region.binds .any e with
  |false=>grind
  |true=>exact .inr (a e j d)
section
variable {P:aq}{X:Cx P}{N:Nat}{ops:Array aw}{φ m:Fr}{S:Nat->List aV}{x:Nat->D}{p:Nat->Fr}{free c:Nat->Bool}{q:Nat->Nat->Prop}{idx:Nat->Option Nat}
def vI.chain(h:vI X N ops φ S x p free c q idx m){i:Nat}:∀ {k:Nat},i<=k->(∀ g,i<=g->g<k->c g=ae)->S k=S i
 |0,b,_=>by grind
 |k+1,b,a=>by
  rcases cG k i with hl|hl
  .grind
  .rw[h.quiet k (a k hl (by omega)),h.chain (k:=k) hl (λg h1 h2=>a g h1 (by omega))]
def vI.last(h:vI X N ops φ S x p free c q idx m){L:Array Bool}(e:∀ i,i<ops.size->L.getD i ae=ab){k:Nat}{s0 s:St}{a:Act}(r:k<=ops.size)
  (n:∀ f,f<ops.size->c f=ab->(L.getD f ae=ab↔f<k)) (b:IN N (S k) s (fZ φ x idx L) a) (hh:aJ (S k) s) (st:cB (S 0) s0 (S k) s) :
  cv N (S ops.size) s m a/\aJ (S ops.size) s/\cB (S 0) s0 (S ops.size) s:=by
 have d:S ops.size=S k:=h.chain r (λg h1 h2=>by
  grind)
 rw[<-d] at b hh st;refine⟨b.Jp λt σ s v l=>h.fin t σ s v ?_,hh,st⟩
 unfold fZ at l;cases hi:idx t with
 |none=>grind
 |some j =>
  simp only[hi] at l ⊢;obtain⟨o,u,_⟩:=h.xE _ _ hi
  grind
theorem eC{L:Array Bool}{i j:Nat}(hi:i<L.size):(L.setIfInBounds i ab).getD j ae=ab↔j=i∨L.getD j ae=ab:=by
 simp only[dC]
 grind
theorem count_set:∀ {l:List Bool}{i:Nat},l[i]?=aa ae->((l.set i ab).filter (λb=>!b)).length+1=(l.filter (λb=>!b)).length
 |[],_,h=>by grind
 |b::r,0,h=>by grind
 |b::r,i+1,h=>by
  simp at h;have:=count_set (l:=r) h;cases b <;> simp[List.set_cons_succ] <;> omega
theorem vJ(t:Nat)(L:Array Bool):Region.linearise.go .any ops 0 t L []=[]:=by simp[Region.linearise.go]
theorem oS(n t:Nat)(L:Array Bool):Region.linearise.go .any ops (n+1) t L []=match (bd .any ops L)[t % (bd .any ops L).length]? with
  |some i=>i::Region.linearise.go .any ops n (t / (bd .any ops L).length) (L.setIfInBounds i ab) []
  |none=>[]:=by
 simp only[Region.linearise.go]
 change (match (bd .any ops L)[t % (bd .any ops L).length]? with
   |some i=>Region.linearise.go .any ops n (t / (bd .any ops L).length) (L.setIfInBounds i ab) [i]
   |none=>[].reverse)=_
 grind [linearise_go_acc]
def vI.arr(h:vI X N ops φ S x p free c q idx m){SS:au->St->Prop}{b:aR}{kk:List Item}{cs:List aR}(hb:b.kind≠.early){s0:St}
  (hQ:∀ s a,cv N (S ops.size) s m a->aJ (S ops.size) s->cB (S 0) s0 (S ops.size) s->fp X SS (G (b.aT a kk) cs) s) :
  ∀ (l:Nat) (L:Array Bool),L.size=ops.size->(L.toList.filter (λb=>!b)).length<=l ->
   (∀ i o,ops[i]?=aa o->L.getD i ae=ab->∀ e∈o.after,cZ e=ab->L.getD e.on ae=ab) ->
   ∀ (k:Nat) (s:St) (a:Act),k<=ops.size->(∀ f,f<ops.size->c f=ab->(L.getD f ae=ab↔f<k))->IN N (S k) s (fZ φ x idx L) a->aJ (S k) s->cB (S 0) s0 (S k) s ->
   ∀ t,fp X SS (G (b.aT a (.inRegion ops (Region.linearise.go .any ops l t L [])::kk)) cs) s:=by
 have fin:∀ (s:St) (a:Act),cv N (S ops.size) s m a->aJ (S ops.size) s->cB (S 0) s0 (S ops.size) s->fp X SS (G (b.aT a (.inRegion ops []::kk)) cs) s :=
  λs a a1 a2 a3=>.ctl a2 rfl (λ_=>iW) λs1 T=>hQ s1 a (a1.rely T a2) (a2.rely T) (a3.trans T.stepW)
 intro l
 induction l with
 |zero =>
  intro L hs hf GI k s a hk F r hh st;have B:∀ i,i<ops.size->L.getD i ae=ab:=by
   intro i hi;have hm:L[i]'(by omega)∈L.toList:=by simp
   cases hb:L[i]'(by omega) with
   |true=>simp[dC,fQ (by omega:i<L.size),hb]
   |false =>
    have:L[i]'(by omega)∈L.toList.filter (λb=>!b):=mc.2 ⟨hm,by grind⟩
    grind
  intro t;rw[vJ];obtain⟨a1,a2,a3⟩:=h.last B hk F r hh st
  grind
 |succ l ih =>
  intro L hs hf GI k s a hk F r hh st;intro t;rw[oS];cases WJ:(bd .any ops L)[t % (bd .any ops L).length]? with
  |none =>
   have hr:bd .any ops L=[]:=by
    cases hr:bd .any ops L with
    |nil=>rfl
    |cons y ys =>
     grind [Nat.mod_lt]
   have B:∀ i,i<ops.size->L.getD i ae=ab:=by
    intro i
    induction i using Nat.strongRecOn with
    |_ i ihi =>
     intro hi;cases hb:L.getD i ae with
     |true=>rfl
     |false =>
      have hm:i∈bd .any ops L:=mem_ready.2 ⟨ops[i],fQ hi,by
       grind,λe U hbe=>by
       have:=h.back i _ (fQ hi) e U hbe
       grind⟩
      grind
   obtain⟨a1,a2,a3⟩:=h.last B hk F r hh st
   grind
  |some i =>
   have hi:=bT WJ;obtain⟨o,W,ZA,QF⟩:=mem_ready.1 hi;have O:i<ops.size:=(hY.1 W).1;have M:¬L.getD i ae=ab:=by
    grind
   have Z:=h.cl (λj=>L.getD j ae=ab) GI
   have ZB:∀ g,q g i->¬L.getD g ae=ab:=λg hg hL=>M ((Z g i hg).1 hL)
   have hup:∀ g,q i g->L.getD g ae=ab:=λg hg=>by
    grind
   have H:(L.setIfInBounds i ab).size=ops.size:=by grind
   have E:((L.setIfInBounds i ab).toList.filter (λb=>!b)).length<=l:=by
    have h1:L.toList[i]?=aa ae:=by
     rw[zj,fQ (by omega:i<L.size)]
     simpa[dC,fQ (by omega:i<L.size)] using M
    grind [count_set]
   have WK:∀ j o',ops[j]?=aa o'->(L.setIfInBounds i ab).getD j ae=ab->∀ e∈o'.after,cZ e=ab->(L.setIfInBounds i ab).getD e.on ae=ab:=by
    grind [eC]
   have hfi:cv N (S k) s (p i) a:=r.Jp λt σ s v V=>h.SX i o W t σ s v (by
    unfold fZ at V;cases w:idx t with
    |none=>grind
    |some j =>
     simp only[w] at V ⊢;split
     .grind
     .split
      .grind
      .trivial)
   have Q:∀ (σ':List aV) (s':St) (v:ak),cB (S k) s σ' s'->c8 σ' s' v (x i)->IN N σ' s' (fZ φ x idx (L.setIfInBounds i ab)) (a.put o.dst v):=by
    intro σ' s' v u V;cases hd:o.dst with
    |none =>
     refine⟨r.size,r.defers.imp λ_ h1=>h1.mono u.ext,λt=>?_⟩
     have A:=(r.slot t).mono u.ext hh.len;simp only[Act.put];unfold fZ at A ⊢;cases w:idx t with
     |none=>grind
     |some j =>
      simp only[w] at A ⊢;obtain⟨oj,WL,WM⟩:=h.xE _ _ w
      grind [eC]
    |some d =>
     obtain⟨hid,hdN⟩:=h.Jq i o d W hd;refine⟨by simp[Act.put,r.size],r.defers.imp λ_ h1=>h1.mono u.ext,λt=>?_⟩
     simp only[Act.put]
     by_cases e:d=t
     .subst e;have hs2:d<a.tmps.size:=by rw[r.size];exact hdN
      simp only[dC,vl hs2,fI];unfold fZ;simp only[hid];rw[bc ((eC (by omega)).2 (.inl rfl))]
      exact V
     .have A:=(r.slot t).mono u.ext hh.len;simp only[dC] at A ⊢;rw[sI e];unfold fZ at A ⊢;cases w:idx t with
      |none=>grind
      |some j =>
       simp only[w] at A ⊢;obtain⟨oj,WL,WM⟩:=h.xE _ _ w
       grind [eC]
   have C:∀ (k':Nat),k'<=ops.size->OA X N ops.toList o (p i) (S k) (x i) (S k')->(∀ f,f<ops.size->c f=ab->((L.setIfInBounds i ab).getD f ae=ab↔f<k')) ->
     fp X SS (G (b.aT a (.inRegion ops (i::Region.linearise.go .any ops l (t / (bd .any ops L).length) (L.setIfInBounds i ab) [])::kk)) cs) s:=by
    intro k' Zy hoa WN;have:=hoa s a hfi hh b kk cs SS i (Region.linearise.go .any ops l (t / (bd .any ops L).length) (L.setIfInBounds i ab) []) hb (by grind)
    simp only[oH] at this;exact this λv s' V k9 u=>ih _ H E WK k' s' _ Zy WN (Q _ _ _ u V) k9 (st.trans u) _
   have same:c i=ae->∀ f,f<ops.size->c f=ab->((L.setIfInBounds i ab).getD f ae=ab↔f<k):=by
    grind [eC]
   cases n:free i with
   |true =>
    obtain⟨hq,Y⟩:=h.all i o W n;exact C k hk (Y k) (same hq)
   |false =>
    have z:=h.one i o W n;have I:S i=S k:=by
     rcases Nat.le_total k i with R|R
     .refine h.chain R λg h1 h2=>?_
      cases U:c g with
      |false=>rfl
      |true =>
       exfalso;rcases h.comp i g O (by omega) U (by omega) n with⟨_,hc⟩|⟨hc,_⟩
       .grind
       .omega
     .refine(h.chain R λg h1 h2=>?_).symm
      cases U:c g with
      |false=>rfl
      |true =>
       exfalso;have hLg:=(F g (by omega) U).2 h2
       by_cases QG:g=i
       .grind
       .rcases h.comp i g O (by omega) U (λe=>QG e.symm) n with⟨hc,_⟩|⟨_,hc⟩
        .omega
        grind
    rw[I] at z;cases K:c i with
    |false =>
     rw[h.quiet i K,I] at z;exact C k hk z (same K)
    |true =>
     refine C (i+1) (by omega) z λf SY VS=>?_
     rw[eC (by omega)]
     by_cases J:f=i
     .grind
     .simp only[J,false_or];rcases h.comp i f O SY VS (λe=>J e.symm) n with⟨h1,hc⟩|⟨h1,hc⟩
      .grind
      grind
end
end
def Ke(P:aq):List TypeDesc->List Field->Nat->Prop
 |[],[],_=>True
 |d::ds,f::fs,i=>f.name≠ "_"/\f.offset=i/\P.underlying f.type=aa d/\(match d with|.int _|.string|.bool=>True|_=>False)/\Ke P ds fs (i+1)
 |_,_,_=>False
def Uh(d:Nat)(xs ys:Array ak)(f:Field)(_:Option Bool×Unit):Sem (ForInStep (Option Bool×Unit)) :=
 if f.name= "_" then pure (ForInStep.yield (af,()))
 else do
  let a<-part f.type xs f.offset
  let b<-part f.type ys f.offset
  let r<-Op.equalIn d f.type a b
  if r=ae then pure (ForInStep.done (aa ae,())) else pure (ForInStep.yield (af,()))
def r6{P:aq}(w:az)(d:Nat)(xs ys:Array ak):∀ {ds:List TypeDesc}{fs:List Field}{i:Nat}{vs ws:List ak}{b:Bool},Ke P ds fs i->jP ds vs ws=aa b->(∀ j v,vs[j]?=aa v->xs[i+j]?=aa v)->(∀ j v,ws[j]?=aa v->ys[i+j]?=aa v) ->
  (Op.eqFields (d+1) xs ys fs).run P w=.ok b w/\∀ es,(forIn fs (af,()) (Uh (d+1) xs ys)).events P w es=es
 |[],[],i,[],[],b,_,h,_,_=>by cases h;simp[Op.eqFields]
 |[],[],i,_::_,_,b,_,h,_,_=>by cases h
 |[],[],i,[],_::_,b,_,h,_,_=>by cases h
 |[],_::_,i,_,_,b,q,_,_,_=>q.elim
 |_::_,[],i,_,_,b,q,_,_,_=>q.elim
 |t::ds,f::fs,i,[],_,b,_,h,_,_=>by cases h
 |t::ds,f::fs,i,_::_,[],b,_,h,_,_=>by cases h
 |t::ds,f::fs,i,v::vs,u::us,b,⟨F,C,s,H,I⟩,h,A,G=>by
  simp only[jP] at h;cases m:qH t v u with
  |none=>grind
  |some a =>
   cases B:jP ds vs us with
   |none=>grind
   |some b' =>
    simp[m,B] at h;subst h;obtain⟨K,x⟩:=r6 w d xs ys I B (λj v J=>by have:=A (j+1) v (by grind);grind) (λj v J=>by have:=G (j+1) v (by grind);grind)
    have k:xs[i]?=aa v:=by simpa using A 0 v rfl
    have e:ys[i]?=aa u:=by simpa using G 0 u rfl
    have l:(isAgg f.type).run P w=.ok ae w:=by
     unfold isAgg underlying;cases t <;> simp at H <;> simp[s]
    have p:∀ (c:Array ak) (z:ak),c[i]?=aa z->(part f.type c f.offset).run P w=.ok z w:=by
     intro c z r;unfold part;simp[l,C,r]
    have n:∀ (c:Array ak) (z:ak),c[i]?=aa z->∀ es,(part f.type c f.offset).events P w es=es:=by
     intro c z r es;unfold part;simp[l,C,r]
    have y:∀ es,(Op.equalIn (d+1) f.type v u).events P w es=es:=by
     intro es;unfold qH at m;split at m <;> first
      |(cases m;done)
      |(unfold Op.equalIn;simp[underlying,s];done)
      |(unfold Op.equalIn;simp[underlying,s];split <;> rfl)
    have E:(Op.equalIn (d+1) f.type v u).run P w=.ok a w:=by
     unfold qH at m
     grind [run_equalIn_int,run_equalIn_string,run_equalIn_bool]
    refine⟨?_,λes=>?_⟩
    .rw[Op.eqFields.eq_2,bc F];simp only[bX,p xs v k,p ys u e,E,b8];cases a
     .simp
     grind
    .rw[List.forIn_cons];simp only[Uh,F,b9,aO,bX,p xs v k,p ys u e,E,b8,aU,n xs v k,n ys u e,y];cases a
     .simp
     .simpa using x es
def jQ{P:aq}{t:ar}{fs:List Field}{ds:List TypeDesc}(d:P.underlying t=aa (.struct fs.toArray))(c:P.stoodInHeld t=ae)(i:P.eqGuardType P.depth t=ae)(f:Ke P ds fs 0) :
  P.eqGuardType P.depth t=ae/\∀ (w:az) (vs ws:List ak) (b:Bool),jP ds vs ws=aa b->(Op.equal t (.agg vs.toArray) (.agg ws.toArray)).run P w=.ok b w/\∀ es,(Op.equal t (.agg vs.toArray) (.agg ws.toArray)).events P w es=es:=by
 refine⟨i,λw vs ws b h=>?_⟩
 have l:P.fieldsOf t=fs.toArray:=by unfold Program.fieldsOf;rw[d]
 have key:=r6 w 9998 vs.toArray ws.toArray f h (λj v k=>by grind) (λj v k=>by grind)
 refine⟨?_,λes=>?_⟩
 rotate_left
 .show (Op.equalIn (9999+1) t _ _).events P w es=es;have e:=key.2 es;unfold Op.equalIn;simp[underlying,d,c];show Result.evThen ((forIn fs (af,()) (Uh 9999 vs.toArray ws.toArray)).run P w) ((forIn fs (af,()) (Uh (9998+1) vs.toArray ws.toArray)).events P w es) _=es;rw[e];cases (forIn fs (af,()) (Uh 9999 vs.toArray ws.toArray)).run P w with
  |ok a w'=>obtain⟨o,_⟩:=a;cases o <;> rfl
  |halt x w'=>rfl
 show (Op.equalIn (9999+1) t _ _).run P w=_
 grind [run_equalIn_agg]
def PC:List TypeDesc->List A->List A->Option Bool
 |[],[],[]=>aa ab
 |.int _::ds,.c (.int k a)::cs,.c (.int k' b)::es=>match G4 k k' with
  |true=>match PC ds cs es with
   |some r=>aa ((a==b)&&r)
   |none=>af
  |false=>af
 |.string::ds,.c (.str a)::cs,.c (.str b)::es=>match PC ds cs es with
  |some r=>aa ((a==b)&&r)
  |none=>af
 |.bool::ds,.c (.bool a)::cs,.c (.bool b)::es=>match PC ds cs es with
  |some r=>aa ((a==b)&&r)
  |none=>af
 |_,_,_=>af
def D2{σ:List aV}{s:St}:∀ {ds:List TypeDesc}{cs es:List A}{b:Bool}{vs ws:List ak},PC ds cs es=aa b->dM σ s vs cs->dM σ s ws es->jP ds vs ws=aa b:=by
 intro ds
 induction ds with
 |nil =>
  intro cs es b vs ws h c e;cases cs <;> cases es <;> simp only[PC,reduceCtorEq] at h
  cases vs <;> cases ws <;> first|exact c.elim|exact e.elim|(simpa[jP] using h)
 |cons d ds ih =>
  intro cs es b vs ws h c e;unfold PC at h;split at h
  .grind
  .rename_i n i k a j k' b' es' heq
   cases heq;split at h
   .rename_i m
    cases zX m;split at h
    .rename_i r f
     cases h;cases vs with
     |nil=>exact c.elim
     |cons v vs=>cases ws with
      |nil=>exact e.elim
      |cons w ws =>
       obtain⟨v1,l⟩:=c;obtain⟨w1,w2⟩:=e;cases (show Rd s.M v (.int k a) from v1)
       cases (show Rd s.M w (.int k b') from w1)
       simp[jP,qH,ih f l w2]
    grind
   grind
  .rename_i i a j b' es' heq
   cases heq;split at h
   .rename_i r f
    cases h;cases vs with
    |nil=>exact c.elim
    |cons v vs=>cases ws with
     |nil=>exact e.elim
     |cons w ws =>
      obtain⟨v1,l⟩:=c;obtain⟨w1,w2⟩:=e;cases (show Rd s.M v (.str a) from v1) with
      |str hx _ =>
      cases (show Rd s.M w (.str b') from w1) with
      |str hy _ =>
      simp only[jP,qH,ih f l w2]
      grind [ByteArray.toList_eq]
   grind
  .rename_i i a j b' es' heq
   cases heq;split at h
   .rename_i r f
    cases h;cases vs with
    |nil=>exact c.elim
    |cons v vs=>cases ws with
     |nil=>exact e.elim
     |cons w ws =>
      obtain⟨v1,l⟩:=c;obtain⟨w1,w2⟩:=e;cases (show Rd s.M v (.bool a) from v1)
      cases (show Rd s.M w (.bool b') from w1)
      simp[jP,qH,ih f l w2]
   grind
  grind
section
variable {P:aq}{T:List (Nat×TI)}{o:aw}{g:an->D}{σ:List aV}
def lq:BinOp->Bool->Option Bool
 |.eql,b=>aa b
 |.neq,b=>aa (!b)
 |_,_=>af
def tQ{op:BinOp}{t:ar}{x y:ak}{w:az}{b c:Bool}(d:match x,y with|.agg _,.agg _=>True|.bool _,.bool _=>True|_,_=>False)(a:(Op.equal t x y).run P w=.ok b w)(h:lq op b=aa c) :
  (binOp op t x y).run P w=.ok (.bool c) w:=by
 cases op <;> simp only[lq,reduceCtorEq,de] at h
 .subst h;cases x <;> cases y <;> simp only at d <;> simp[binOp,a]
 .subst h;cases x <;> cases y <;> simp only at d <;> simp[binOp,a]
def o7{op:BinOp}{t:ar}{x y:ak}{w:az}{b c:Bool}(d:match x,y with|.agg _,.agg _=>True|.bool _,.bool _=>True|_,_=>False)(e:(Op.equal t x y).run P w=.ok b w)(a:∀ es,(Op.equal t x y).events P w es=es)(h:lq op b=aa c)(es:Array Event) :
  (binOp op t x y).events P w es=es:=by
 cases op <;> simp only[lq,reduceCtorEq,de] at h <;> (cases x <;> cases y <;> simp only at d <;> simp[binOp,a])
def wu(op:BinOp)(t:ar)(x y:an)(xs ys:Array ak)(w:az)(a:P.eqGuardType P.depth t=ae)(es:Array Event):(eqGuard op t x y (.agg xs) (.agg ys)).events P w es=es:=by
 cases op <;> simp[eqGuard,a]
theorem bF.structEq(u:db P T){op:BinOp}{t ty:ar}{x y:an}(h:o.op=.binOp op t x y ty){i:TI}(hi:bE T t=aa i)(l:i.eq≠[]){cs es:List A}{b c:Bool}(z:g x=.e (.agg cs))(v:g y=.e (.agg es))
  (n:PC i.eq cs es=aa b) (p:lq op b=aa c):bF P o g σ (.e (.one (.c (.bool c)))) σ:=by
 refine .quiet λs ρ hh hr=>?_
 have h1:=hr x;have h2:=hr y;rw[z] at h1;rw[v] at h2;obtain⟨vs,q,j⟩:=h1;obtain⟨k,r,d⟩:=h2;obtain⟨m,heq⟩:=(u t i hi).eqs l;have a:=tQ (x:=.agg vs.toArray) (y:=.agg k.toArray) av (heq s.w vs k b (D2 n j d)).1 p;have f:=o7 (x:=.agg vs.toArray) (y:=.agg k.toArray) av (heq s.w vs k b (D2 n j d)).1 (heq s.w vs k b (D2 n j d)).2 p;refine⟨.bool c,?_,Rd.bool,by simp only[ay,h,q,r,aO,run_eqGuard_agg s.w op t x y _ _ m,wu op t x y _ _ s.w m,aU,bX,b8,a,f,Sem.events_pure]⟩
 simp only[ay,h,q,r,bX,run_eqGuard_agg s.w op t x y _ _ m,b8,a,cW]
theorem bF.QO(p:db P T){op:BinOp}{t ty:ar}{x y:an}(h:o.op=.binOp op t x y ty){i:TI}(hi:bE T t=aa i)(q:i.desc=.bool){a b c:Bool}(u:g x=.e (.one (.c (.bool a))))(r:g y=.e (.one (.c (.bool b))))
  (n:lq op (a==b)=aa c):bF P o g σ (.e (.one (.c (.bool c)))) σ:=by
 refine .quiet λs ρ hh hr=>?_
 have h1:=hr x;have h2:=hr y;rw[u] at h1;rw[r] at h2
 replace h1:=fx h1
 replace h2:=fx h2
 generalize j:ρ x=vx at h1;generalize k:ρ y=vy at h2;cases h1;cases h2;have m:P.underlying t=aa .bool:=by rw[(p t i hi).SW,q]
 have d:=tQ (P:=P) (w:=s.w) (x:=.bool a) (y:=.bool b) av (run_equal_bool s.w t a b m) n;have l:∀ es,(Op.equal t (.bool a) (.bool b)).events P s.w es=es:=λes=>by
  show (Op.equalIn (9999+1) t _ _).events P s.w es=es;unfold Op.equalIn;simp[underlying,m]
 have f:=o7 (P:=P) (w:=s.w) (x:=.bool a) (y:=.bool b) av (run_equal_bool s.w t a b m) l n;refine⟨.bool c,?_,Rd.bool,by simp only[ay,h,j,k,aO,eqGuard_at_bool,Sem.events_pure,cW,aU,bX,b8,d,f]⟩
 simp only[ay,h,j,k,bX,eqGuard_at_bool,cW,b8,d]
def bF.TT{t ty:ar}{x y:an}(h:o.op=.binOp .xor t x y ty){a b:Int}(p:g x=.e (.one (.c (.int .i64 a))))(n:g y=.e (.one (.c (.int .i64 b))))(q:0<=a)(h1:0<=b) :
  bF P o g σ (.e (.one (.c (.int .i64 ((a.toNat ^^^ b.toNat:Nat):Int))))) σ:=by
 refine .quiet λs ρ hh hr=>?_
 have e1:=hr x;have e2:=hr y;rw[p] at e1;rw[n] at e2
 replace e1:=fx e1
 replace e2:=fx e2
 generalize f:ρ x=vx at e1;generalize i:ρ y=vy at e2;cases e1 with|int ha =>
 cases e2 with|int hb =>
 have m:a.toNat ^^^ b.toNat<2 ^ 63:=by
  apply Nat.xor_lt_two_pow <;> simp only[bu] at ha hb <;> omega
 have k:bu .i64 ((a.toNat ^^^ b.toNat:Nat):Int):=by simp only[bu];omega
 refine⟨.int .i64 ((a.toNat ^^^ b.toNat:Nat):Int),?_,.int k,?_⟩
 rotate_left
 .simp only[ay,h,f,i,aO,gy,jJ,aU,Go.binOp,cT,ft,b9,Op.intBits,bX,b8,cW,Sem.events_pure]
 have d:((BitVec.ofInt 64 a) ^^^ (BitVec.ofInt 64 b)).toNat=a.toNat ^^^ b.toNat:=by
  rw[BitVec.toNat_xor,BitVec.toNat_ofInt,BitVec.toNat_ofInt];simp only[bu] at ha hb
  congr 1 <;> omega
 have j:(BitVec.ofInt IntKind.i64.bits a ^^^ BitVec.ofInt IntKind.i64.bits b).toNat=a.toNat ^^^ b.toNat:=d;have l:(Go.binOp .xor t (.int .i64 a) (.int .i64 b)).run P s.w=.ok (.int .i64 ((a.toNat ^^^ b.toNat:Nat):Int)) s.w:=by
  simp only[Go.binOp,cT,ft,b9,Op.intBits,cW]
  grind [mj]
 simp only[ay,h,f,i,bX,gy,b8,l,cW]
def bF.GP(z:db P T){l dst:ar}{x:an}(h:o.op=.convert l dst x){i i2 ie:TI}{E:ar}(hi:bE T l=aa i)(B:bE T dst=aa i2)(R:i.desc=.slice E)(G:i2.desc=.string)(S:bE T E=aa ie)(F:ie.desc=.int .u8)
  {tt:Bool} {n:Nat} {es:Nat->List C} {r:List UInt8} (O:∀ s v,c8 σ s v (g x)->Rd s.M v (.sl tt 1 n es)) (hb:vO es 0 n=aa r):bF P o g σ (.e (.one (.c (.str r)))) σ:=by
 refine .nJ λs ρ hh hr=>?_
 have h1:=O s _ (hr x);obtain⟨vs,N,b⟩:=dK (P:=P) hh h1;obtain⟨a,cap,U,q,K,Q,_⟩:=h1.flat;have L:n<=9223372036854775807:=by omega
 have I:vs.length=n:=by rw[N.len];omega
 obtain⟨xs,e1,e2⟩:=yr (M:=s.M) (vs:=vs) hb I (λj hj c W=>by
  obtain⟨v,V,p2⟩:=N.rd j hj 0 c (by grind)
  grind)
 have J:=(z l i hi).run_underlying (w:=s.w);have f:=(z dst i2 B).run_underlying (w:=s.w);have k:=(z E ie S).run_underlying (w:=s.w);rw[R] at J;rw[G] at f;rw[F] at k;have H:r.length<=9223372036854775807:=by
  grind
 have m:∃ y:ByteArray,(Conv.bytesToString (.slice a n cap)).run P s.w=.ok (.string y) s.w/\y.data.toList=r:=by
  cases a with
  |none =>
   have p:r=[]:=by
    have:vs=[]:=by
     rw[q] at b;have h2:=b.1;simp[Builtin.firstCells] at h2
     grind
    grind
   exact⟨ByteArray.empty,by simp[Conv.bytesToString],by rw[p];rfl⟩
  |some ad =>
   rw[q] at b;have h2:=b.1;simp only[Builtin.firstCells,Nat.mul_one] at h2;refine⟨⟨#[]++(xs.map λx=>UInt8.ofNat x.toNat).toArray⟩,?_,by grind⟩
   simp only[Conv.bytesToString,bX,h2,b8,e1];rw[List.forIn_toArray,oh (P:=P) s.w (λ_ _=>rfl) xs ByteArray.empty]
   rfl
 obtain⟨y,t,A⟩:=m;refine⟨.string y,?_,Rd.str A H,?_⟩
 rotate_left
 .intro e d;simp only[ay,h,q,aO,convert,J,f,aU,b8,k,t,bX,events_underlying,Sem.events_pure] at d;cases a with
  |none=>simp[Conv.bytesToString] at d
  |some ad =>
   have u:=gM (P:=P) hh (h1.Dp (λ_ _=>rfl)) (w:=s.w) rfl
   rw[q] at b u;have h2:=b.1;simp only[Builtin.firstCells,Nat.mul_one] at h2 u;unfold Conv.bytesToString at d;simp only at d;rw[aO,h2,aU,cN.bind (P:=P) ?_ λ_=>.pure] at d
   .grind [sL]
   .rw[List.forIn_toArray];refine cN.Jx (λx s=>?_) _ _
    split
    .exact .pure
    .exact .bind .stuck λ_=>.pure
 simp only[ay,h,q,bX,convert,J,f,b8,k,t,cW]
end
def vP(g:an->D):List an->Option (List C)
 |[]=>aa []
 |x::r=>match g x with
  |.e (.one (.c c))=>match vP g r with
   |some q=>aa (c::q)
   |none=>af
  |_=>af
def wv{σ:List aV}{s:St}{ρ:an->ak}{g:an->D}(a:∀ y,c8 σ s (ρ y) (g y)):∀ {xs:List an}{cs:List C},vP g xs=aa cs->xs.length=cs.length/\∀ (j:Nat)(c:C),cs[j]?=aa c->∃ v,(xs.map ρ)[j]?=aa v/\Rd s.M v c
 |[],cs,h=>by cases h;grind
 |x::r,cs,h=>by
  simp only[vP] at h;split at h
  .rename_i c e
   split at h
   .rename_i q d
    cases h;obtain⟨k,i⟩:=wv a d;refine⟨by grind,λj f b=>?_⟩
    cases j with
    |zero =>
     simp at b;subst b;have:=a x;rw[e] at this;exact⟨ρ x,by simp,fx this⟩
    |succ j=>grind
   grind
  grind
section
variable {P:aq}{T:List (Nat×TI)}{o:aw}{g:an->D}{σ:List aV}
theorem bF.makeFunc{fn:Fn}{a b:Array an}(h:o.op=.makeFunc fn a b){f d:List C}(i:vP g a.toList=aa f)(hb:vP g b.toList=aa d):bF P o g σ (.e (.one (.c (.fn fn f d)))) σ:=by
 refine .quiet λs ρ hh hr=>?_
 obtain⟨a1,a2⟩:=wv hr i;obtain⟨n,m⟩:=wv hr hb;have k:a.map ρ=(a.toList.map ρ).toArray:=by grind
 have l:b.map ρ=(b.toList.map ρ).toArray:=by grind
 refine⟨.func fn (a.toList.map ρ).toArray (b.toList.map ρ).toArray,?_,?_,by simp only[ay,h,Instr.makeFunc];rfl⟩
 .simp only[ay,h,Instr.makeFunc,k,l];rfl
 .refine Rd.fn _ _ (by grind) (by grind) (λj=>((a.toList.map ρ)[j]?).getD aj) (λj=>((b.toList.map ρ)[j]?).getD aj) ?_ ?_ ?_ ?_
  .grind
  .grind
  .grind
  grind
def rQ:TypeDesc->Bool
 |.interface _=>ab
 |_=>ae
def vb(t:ar):D->Option C
 |.e (.one (.c c))=>aa (.ifs t c)
 |.e (.agg cs)=>match gk cs with
  |some q=>aa (.Jn t q)
  |none=>af
 |_=>af
def D3{s:St}{v:ak}{t:ar}{d:D}{c:C}(h:vb t d=aa c)(r:c8 σ s v d):Rd s.M (.iface t v) c:=by
 unfold vb at h;split at h
 .cases h;exact Rd.ifs (fx r) (fx r).cell
 .split at h
  .rename_i q e
   cases h;obtain⟨vs,rfl,i⟩:=r;have b:=ki e i;refine Rd.Jn (by have:=b.length;grind) (λj=>(vs[j]?).getD aj) (λj l=>by grind) λj c l=>?_
   obtain⟨v,k,f⟩:=b.get (j:=j) (a:=.c c) (by grind)
   rw[k];exact f
  grind
 grind
theorem bF.makeInterface(f:db P T){t:ar}{x:an}(h:o.op=.makeInterface t x){i:TI}(hi:bE T t=aa i)(b:rQ i.desc=ae){c:C}(j:vb t (g x)=aa c):bF P o g σ (.e (.one (.c c))) σ:=by
 refine .quiet λs ρ hh hr=>?_
 have d:=(f t i hi).run_underlying (w:=s.w);refine⟨.iface t (ρ x),?_,D3 j (hr x),?_⟩
 rotate_left
 .simp only[ay,h,Instr.makeInterface,aO,bX,d,aU,b8,events_underlying];cases a:i.desc <;> rw[a] at b <;> first|(cases b;done)|simp
 simp only[ay,h,Instr.makeInterface,bX,d,b8];cases a:i.desc <;> rw[a] at b <;> first|(cases b;done)|simp
def yt(i:TI):Option E1:=match i.agg with
 |true=>aa (.agg (i.zero.map A.c))
 |false=>af
def Kf{i:TI}{t:ar}(f:bG P t i){s:St}{e:E1}(d:yt i=aa e):∃ z,(zeroValue t).run P s.w=.ok z s.w/\mT σ s z e:=by
 obtain⟨z,l,a⟩:=f.BU σ s;refine⟨z,l,?_⟩;obtain⟨n,h,k,p,q,m,u,⟨cs,b⟩,r⟩:=f.info;have c:h=z:=by
  have:(zeroValue t).run P s.w=.ok h s.w:=by simp[zeroValue,typeInfo,k,m]
  grind
 subst c;unfold yt at d;cases j:i.agg with
 |true =>
  rw[j] at d b;simp only[cq] at b;cases d;rw[b] at a ⊢;exact⟨cs.toList,by simp,by simpa[Value.cells] using a⟩
 |false=>grind
def pU(t:ar)(i:TI):C->Option (E1×Bool)
 |.ifs t' c=>match aG t' t with
  |true=>aa (.one (.c c),ab)
  |false=>match yt i with
   |some e=>aa (e,ae)
   |none=>af
 |.Jn t' cs=>match aG t' t with
  |true=>aa (.agg (cs.map A.c),ab)
  |false=>match yt i with
   |some e=>aa (e,ae)
   |none=>af
 |.nN=>match yt i with
  |some e=>aa (e,ae)
  |none=>af
 |_=>af
theorem bF.typeAssert(F:db P T){x:an}{y t:ar}(h:o.op=.typeAssert x y t ab){i:TI}(hi:bE T t=aa i)(I:rQ i.desc=ae){c:C}(K:g x=.e (.one (.c c))){e:E1}{b:Bool}(k:pU t i c=aa (e,b)) :
  bF P o g σ (.eJ [e,.one (.c (.bool b))]) σ:=by
 refine .quiet λs ρ hh hr=>?_
 have h1:=hr x;rw[K] at h1
 replace h1:=fx h1
 generalize r:ρ x=vx at h1;have q:=(F t i hi).run_underlying (w:=s.w);have key:∀ (v:ak) (b:Bool),(Instr.typeAssert vx y t ab).run P s.w=.ok (.tuple #[v,.bool b]) s.w->mT σ s v e->(Instr.typeAssert vx y t ab).events P s.w #[]=#[]->∃ v,(ay ρ o).run P s.w=.ok (.value v) s.w/\c8 σ s v (.eJ [e,.one (.c (.bool b))])/\(ay ρ o).events P s.w #[]=#[]:=by
  intro v b h1 h2 h3;refine⟨.tuple #[v,.bool b],?_,⟨[v,.bool b],rfl,h2,Rd.bool,av⟩,by simp only[ay,h,r,aO,h1,h3,aU,Sem.events_pure]⟩
  simp only[ay,h,r,bX,h1,b8,cW]
 have fail:∀ p,yt i=aa p->(∀ z,(zeroValue t).run P s.w=.ok z s.w->(Instr.typeAssert vx y t ab).run P s.w=.ok (.tuple #[z,.bool ae]) s.w/\(Instr.typeAssert vx y t ab).events P s.w #[]=#[])->e=p->b=ae->∃ v,(ay ρ o).run P s.w=.ok (.value v) s.w/\c8 σ s v (.eJ [e,.one (.c (.bool b))])/\(ay ρ o).events P s.w #[]=#[]:=by
  intro p l G B hb;subst B hb;obtain⟨z,h3,N⟩:=Kf (σ:=σ) (F t i hi) (s:=s) l
  grind
 have d:∀ m,i.desc≠.interface m:=by intro m e;rw[e] at I;cases I
 cases h1 with
 |@ifs t' v c h2 hc =>
  simp only[pU] at k;cases hb:aG t' t with
  |true =>
   rw[hb] at k;cases k;have E:=bU hb;subst E;refine key v ab ?_ h2 ?_ <;>
   .unfold Instr.typeAssert;simp only[bX,q,b8,aO,aU,events_underlying];cases a:i.desc <;> first|(exact absurd a (d _))|simp
  |false =>
   rw[hb] at k;have n:t'≠t:=λe=>by grind [Nat.beq_refl]
   simp only at k;split at k
   .rename_i p l
    cases k;refine fail _ l (λz h3=>⟨?_,?_⟩) rfl rfl <;>
    .unfold Instr.typeAssert;simp only[bX,q,b8,aO,aU,events_underlying];cases a:i.desc <;> first|(exact absurd a (d _))|simp[n,h3]
   grind
 |@Jn t' vs cs hl f L J =>
  simp only[pU] at k;cases hb:aG t' t with
  |true =>
   rw[hb] at k;cases k;have E:=bU hb;subst E;refine key (.agg vs.toArray) ab ?_ ⟨vs,rfl,?_⟩ ?_
   rotate_left 2
   .unfold Instr.typeAssert;simp only[q,aO,aU,events_underlying];cases a:i.desc <;> first|(exact absurd a (d _))|simp
   .unfold Instr.typeAssert;simp only[bX,q,b8];cases a:i.desc <;> first|(exact absurd a (d _))|simp
   .have go:∀ (vs:List ak) (cs:List C),vs.length=cs.length->(∀ (j:Nat) (c:C),cs[j]?=aa c->∃ v,vs[j]?=aa v/\Rd s.M v c)->dM σ s vs (cs.map A.c):=by
     intro vs
     induction vs with
     |nil=>intro cs hl _;cases cs with|nil=>trivial|cons _ _=>grind
     |cons v vs ih =>
      intro cs hl hg;cases cs with
      |nil=>grind
      |cons c cs =>
       obtain⟨u,H,p2⟩:=hg 0 c rfl;simp at H;subst H;exact⟨p2,ih cs (by grind) (λj c hj=>by simpa using hg (j+1) c (by grind))⟩
    grind
  |false =>
   rw[hb] at k;have n:t'≠t:=λe=>by grind [Nat.beq_refl]
   simp only at k;split at k
   .rename_i p l
    cases k;refine fail _ l (λz h3=>⟨?_,?_⟩) rfl rfl <;>
    .unfold Instr.typeAssert;simp only[bX,q,b8,aO,aU,events_underlying];cases a:i.desc <;> first|(exact absurd a (d _))|simp[n,h3]
   grind
 |nN =>
  simp only[pU] at k;split at k
  .rename_i p l
   cases k;refine fail _ l (λz h3=>⟨?_,?_⟩) rfl rfl <;>
   .unfold Instr.typeAssert;simp only[bX,q,b8,aO,aU,events_underlying];cases a:i.desc <;> first|(exact absurd a (d _))|simp[h3]
  grind
 |_=>simp[pU] at k
end
def Bi(op:BinOp)(k:IntKind) (a:Int)(k':IntKind) (b:Int):Option (Int×List Prop) :=
 match k with
 |.u64=>match op with
  |.shl=>aa (((a.toNat*2 ^ b.toNat % 18446744073709551616:Nat):Int),[0<=b,b<=64])
  |.shr=>aa (((a.toNat / 2 ^ b.toNat:Nat):Int),[0<=b,b<=64])
  |.and=>match k' with|.u64=>aa (((a.toNat &&& b.toNat:Nat):Int),[])|_=>af
  |.xor=>match k' with|.u64=>aa (((a.toNat ^^^ b.toNat:Nat):Int),[])|_=>af
  |_=>af
 |_=>af
section
variable {P:aq}{T:List (Nat×TI)}{o:aw}{d:an->D}{σ:List aV}
def bits_nat{a:Int}(h:bu .u64 a):(BitVec.ofInt IntKind.u64.bits a).toNat=a.toNat:=by
 rw[BitVec.toNat_ofInt];simp only[bu] at h;simp only[IntKind.bits];omega
def GJ{op:BinOp}{k k':IntKind}{a b c:Int}{obs:List Prop}(t:ar)(f:Bi op k a k' b=aa (c,obs))(l:ag obs)(h:bu k a)(i:bu k' b)(w:az) :
  bu k c/\(Go.binOp op t (.int k a) (.int k' b)).run P w=.ok (.int k c) w/\(Go.binOp op t (.int k a) (.int k' b)).events P w #[]=#[]:=by
 unfold Bi at f;split at f
 .split at f
  .cases f;obtain⟨q,n⟩:0<=b/\b<=64:=l;have s:a.toNat*2 ^ b.toNat % 18446744073709551616<18446744073709551616:=jF _ (by decide)
   simp only[bu] at h;refine⟨by simp only[bu];omega,?_⟩
   have j:IntKind.wrap .u64 (a*2 ^ (min b.toNat IntKind.u64.bits))=((a.toNat*2 ^ b.toNat % 18446744073709551616:Nat):Int):=by
    have m:min b.toNat IntKind.u64.bits=b.toNat:=by rw[show IntKind.u64.bits=64 from rfl];omega
    have p:a=(a.toNat:Int):=by omega
    rw[m,p];simp only[IntKind.wrap,IntKind.bits,IntKind.signed,bz]
    grind
   simp only[Go.binOp,Op.shift,aY (show ¬b<0 by omega),j]
   exact⟨rfl,rfl⟩
  .cases f;obtain⟨q,n⟩:0<=b/\b<=64:=l;simp only[bu] at h;have r:a.toNat / 2 ^ b.toNat<=a.toNat:=Nat.div_le_self _ _;refine⟨by simp only[bu];grind,?_⟩
   have j:a.fdiv (2 ^ (min b.toNat IntKind.u64.bits))=((a.toNat / 2 ^ b.toNat:Nat):Int):=by
    have m:min b.toNat IntKind.u64.bits=b.toNat:=by rw[show IntKind.u64.bits=64 from rfl];omega
    grind
   simp only[Go.binOp,Op.shift,aY (show ¬b<0 by omega),j]
   exact⟨rfl,rfl⟩
  .split at f
   .cases f;have n:a.toNat &&& b.toNat<=a.toNat:=Nat.and_le_left;have g:bu .u64 ((a.toNat &&& b.toNat:Nat):Int):=by simp only[bu] at h ⊢;omega
    refine⟨g,?_⟩;have e:(BitVec.ofInt IntKind.u64.bits a &&& BitVec.ofInt IntKind.u64.bits b).toNat=a.toNat &&& b.toNat:=by rw[BitVec.toNat_and,bits_nat h,bits_nat i]
    simp only[Go.binOp,cT,ft,b9,Op.intBits,e,mj g];exact⟨rfl,rfl⟩
   .cases f
  .split at f
   .cases f;have g:bu .u64 ((a.toNat ^^^ b.toNat:Nat):Int):=by
     simp only[bu] at h i ⊢;have:a.toNat ^^^ b.toNat<2 ^ 64:=Nat.xor_lt_two_pow (by omega) (by omega)
     omega
    refine⟨g,?_⟩;have e:(BitVec.ofInt IntKind.u64.bits a ^^^ BitVec.ofInt IntKind.u64.bits b).toNat=a.toNat ^^^ b.toNat:=by rw[BitVec.toNat_xor,bits_nat h,bits_nat i]
    simp only[Go.binOp,cT,ft,b9,Op.intBits,e,mj g];exact⟨rfl,rfl⟩
   .cases f
  .cases f
 .cases f
theorem bF.bits{op:BinOp}{t ty:ar}{x y:an}{k k':IntKind}{a b c:Int}{obs:List Prop}(h:o.op=.binOp op t x y ty)(q:d x=.e (.one (.c (.int k a))))(n:d y=.e (.one (.c (.int k' b))))(m:Bi op k a k' b=aa (c,obs))(l:ag obs) :
  bF P o d σ (.e (.one (.c (.int k c)))) σ:=by
 refine .quiet λs ρ hh hr=>?_
 have h1:=hr x;have h2:=hr y;rw[q] at h1;rw[n] at h2
 replace h1:=fx h1
 replace h2:=fx h2
 generalize f:ρ x=vx at h1;generalize g:ρ y=vy at h2;cases h1 with|int ha =>
 cases h2 with|int hb =>
 obtain⟨j,i,p⟩:=GJ (P:=P) t m l ha hb s.w;exact⟨.int k c,by simp only[ay,h,bX,f,g,gy,b8,i,cW],.int j,by simp[ay,h,f,g,gy,jJ,i,p]⟩
end
section
open Go.Conc (G)
def m9(i:Nat)(ci:List C)(es:Nat->List C):Nat->List C:=λj=>if j=i then ci else es j
def oQ(lo hi:Nat)(z:List C)(es:Nat->List C):Nat->List C:=λj=>if lo<=j/\j<hi then z else es j
section
variable {P:aq}{T:List (Nat×TI)}{o:aw}{B:an->D}{σ:List aV}{s:St}{l g:Nat}{E:ar}{k n:Nat}{es:Nat->List C}
def Kl(r:aJ σ s)(e:σ[l]?=aa (.buf E k n es)){k' i f:Nat}{v:ak}(u:gv σ s v (.bp l (.el g k' i f)))(q:g=n) :
  ∃ b c vs zs,s.β[l]?=aa ⟨.slice (aa ⟨b,0,af⟩) 0 c,[b]⟩/\v=.pointer (aa ⟨b,i*k'+f,af⟩)/\s.w.heap[b]?=aa (.cells (vs++zs).toArray E (0,0))/\(vs++zs).length=c*k/\n<=c/\c<=9223372036854775807/\Flat s.M k n es vs/\∀ o,s.M b o=af:=by
 obtain⟨G,⟨b,c,d,p⟩,_,A⟩:=u;obtain⟨L,h,a⟩:=(A _ _ _ _ e).2 q;rw[d] at a;rcases r.box l _ L e h with⟨_,rfl⟩|⟨F,c1,vs,zs,rfl,t,x,y,m,z,j⟩
 .cases a
 .cases a;exact⟨b,c,vs,zs,h,p,t,x,y,m,z,j⟩
def Km{g:Nat->ak}:∀ {ds:List C}{m:Nat},(∀ j c,ds[j]?=aa c->Rd s.M (g (m+j)) c)->dM σ s ((bh ds.length).map λj=>g (m+j)) (ds.map A.c)
 |[],m,_=>trivial
 |d::ds,m,h=>by
  rw[eZ,zg];refine⟨h 0 d rfl,?_⟩;have:=Km (ds:=ds) (m:=m+1) (λj c a=>by have:=h (j+1) c (by grind);rwa [show m+1+j=m+(j+1) by omega])
  grind [Function.comp_def]
theorem bF.W3(H:db P T){t:ar}{x y:an}(h:o.op=.indexAddr t x y){i f:TI}{E:ar}(hi:bE T t=aa i)(M:i.desc=.slice E)(N:bE T E=aa f)
  {q m:Nat} {j:Int} {kk:IntKind} (K:B x=.e (.one (.bp l (.sl g f.size q m)))) (Q:B y=.e (.one (.c (.int kk j)))) (U:0<=j) (h1:j<m):bF P o B σ (.e (.one (.bp l (.el g f.size (q+j.toNat) 0)))) σ:=by
 refine .quiet λs ρ hh hr=>?_
 have p:=hr x;rw[K] at p;have h2:=hr y;rw[Q] at h2
 replace h2:=fx h2
 generalize A:ρ y=vy at h2;cases h2;have d:=p
 change gv σ s (ρ x) (.bp l _) at d
 obtain⟨lv,⟨a,a0,cap,L,O,R,J,S,z,G⟩,u,v⟩:=d;obtain⟨b,rfl,rfl⟩:=G (by omega)
 have I:=(H t i hi).run_underlying (w:=s.w);rw[M] at I;obtain⟨r,rfl⟩:∃ r:Nat,j=r:=⟨j.toNat,by omega⟩
 have F:r<m:=by omega
 refine⟨.pointer (aa ⟨b,(q+r)*f.size,af⟩),?_,⟨lv,⟨b,L,z,by simp⟩,u,v⟩,?_⟩ <;>
 simp[ay,h,O,A,Instr.indexAt,asIntOf,I,(H E f N).run_sizeOf,dg,F,gQ]
def bF.QQ(r:db P T){t:ar}{x:an}{f:Nat}(h:o.op=.fieldAddr t x f){d i q off:Nat}{j:TI}(y:B x=.e (.one (.bp l (.el g d i q))))(u:jL T t f=aa (off,j)):bF P o B σ (.e (.one (.bp l (.el g d i (q+off))))) σ:=by
 refine .quiet λs ρ hh hr=>?_
 have h1:=hr x;rw[y] at h1;have a:=h1
 change gv σ s (ρ x) (.bp l _) at a
 obtain⟨lv,⟨b,w,p,v⟩,c,m⟩:=a;exact⟨.pointer (aa ⟨b,i*d+q+off,af⟩),by simp[ay,h,v,my r u],⟨lv,⟨b,w,p,by grind⟩,c,m⟩,by simp[ay,h,v,nV r u]⟩
theorem bF.W4{x:an}(h:o.op=.nilCheck x){d i q:Nat}(r:B x=.e (.one (.bp l (.el g d i q)))):bF P o B σ (.e (.one (.bp l (.el g d i q)))) σ:=by
 refine .quiet λs ρ hh hr=>?_
 have h1:=hr x;rw[r] at h1;have c:=h1;have a:=h1
 change gv σ s (ρ x) (.bp l _) at a
 obtain⟨lv,⟨b,t,p,f⟩,j,m⟩:=a;exact⟨ρ x,by simp[ay,h,f],c,by simp[ay,h,f]⟩
theorem bF.W5(r:db P T){x:an}{b:Array ar}{t:ar}(h:o.op=.call { callee:=.builtin .len,args:=#[x],argTypes:=b })(H:b[0]?=aa t){i:TI}{E:ar}(hi:bE T t=aa i)(u:i.desc=.slice E)
  {p q m:Nat} (J:B x=.e (.one (.bp l (.sl g p q m)))):bF P o B σ (.e (.one (.c (.int .i64 m)))) σ:=by
 refine .quiet λs ρ hh hr=>?_
 have h1:=hr x;rw[J] at h1;have d:=h1
 change gv σ s (ρ x) (.bp l _) at d
 obtain⟨lv,⟨a,a0,cap,K,F,v,G,A,z,I⟩,j,y⟩:=d;have f:=(r t i hi).run_underlying (w:=s.w);rw[u] at f;refine⟨.int .i64 m,?_,Rd.int (by simp only[bu];omega),?_⟩ <;>
 simp[ay,h,resolve,invoke,builtin,Builtin.len_,F,f,goInt,H]
theorem bF.sliceB(G:db P T){t:ar}{x:an}{lo hi:Option an}(h:o.op=.slice t x lo hi af){i f:TI}{E:ar}(z:bE T t=aa i)(R:i.desc=.slice E)(S:bE T E=aa f){q m:Nat}{d u:Option Int}
  (N:B x=.e (.one (.bp l (.sl g f.size q m)))) (hl:uz B lo=aa d) (K:uz B hi=aa u) (H:ag (iP m d u)):bF P o B σ (.e (.one (.bp l (.sl g f.size (q+cr 0 d) (cr m u-cr 0 d))))) σ:=by
 refine .quiet λst ρ hh hr=>?_
 have h1:=hr x;rw[N] at h1;have j:=h1
 change gv σ st (ρ x) (.bp l _) at j
 obtain⟨lv,⟨a,a0,cap,O,I,p,L,F,y,A⟩,r,v⟩:=j;obtain⟨hb,Q,M⟩:=nK (P:=P) (isS:=ab) p (jf hr hl) (jf hr K) H st.w;have c:=(G t i z).run_underlying (w:=st.w);rw[R] at c;refine⟨.slice (if cap=cr 0 d then a else a.map (·.add (cr 0 d*f.size))) (cr m u-cr 0 d) (cap-cr 0 d),?_,⟨lv,⟨_,a0,_,O,rfl,by omega,by omega,F,y,λJ=>?_⟩,r,v⟩,by simp[ay,h,I,Instr.sliceAt,c,Instr.slice,hb,pQ (P:=P) (isS:=ab) p (jf hr hl) (jf hr K) H st.w]⟩
 .simp[ay,h,I,Instr.sliceAt,c,Instr.slice,hb,(G E f S).run_sizeOf]
 .obtain⟨b,rfl,rfl⟩:=A (by omega)
  refine⟨b,rfl,?_⟩;rw[aY (by omega)]
  simp[dg,gQ]
def bF.BC(I:db P T){t:ar}{x:an}(h:o.op=.load t x){i f:Nat}{F:TI}{e:E1}(R:B x=.e (.one (.bp l (.el g k i f))))(z:g=n)(hl:σ[l]?=aa (.buf E k n es))(hi:bE T t=aa F)(K:mX F ((hI f (es i)).map A.c)=aa e)(q:i<n):bF P o B σ (.e e) σ:=by
 refine .nJ λs ρ hh hr=>?_
 have h1:=hr x;rw[R] at h1;obtain⟨b,X,vs,V,U,L,d,O,Q,S,N,Y⟩:=Kl hh hl h1 z;have Z:=N.width i q
 let g:Nat->ak:=λj=>vs.getD (i*k+j) aj
 have z:∀ j c,(hI f (es i))[j]?=aa c->vs[i*k+(f+j)]?=aa (g (f+j))/\Rd s.M (g (f+j)) c:=by
  intro j c hj;rw[nb,nB] at hj;obtain⟨v,v1,W⟩:=N.rd i q (f+j) c hj
  grind
 have G:=Km (σ:=σ) (s:=s) (g:=g) (ds:=hI f (es i)) (m:=f) (λj c hj=>(z j c hj).2)
 have a:∀ (j:Nat) (v:ak),((bh (hI f (es i)).length).map λj=>g (f+j))[j]?=aa v->s.w.cell? ⟨b,i*k+f+j,af⟩=aa v:=by
  intro j v hj;simp only[nz] at hj
  by_cases p:j<(hI f (es i)).length
  .simp[p] at hj;subst hj;have h2:=(z j _ (br p)).1;simp only[a9,d]
   grind
  grind
 obtain⟨v,u,H⟩:=o5 (s:=s) (σ:=σ) (P:=P) (I t F hi) (b:=b) (off:=i*k+f) (e:=e) a G K;refine⟨v,by simp[ay,h,L,Instr.loadAt,Instr.sureAddr,u],H,λJ r=>?_⟩
 have y:J∈(loadVar t ⟨b,i*k+f,af⟩).events P s.w #[]:=by
  have e:ay ρ o=(do pure (.value (<-loadVar t ⟨b,i*k+f,af⟩))):=by simp[ay,h,L,Instr.loadAt,Instr.sureAddr]
  rw[e] at r;simpa[u] using r
 obtain⟨j,hj,rfl⟩:=kg (I t F hi) (n:=(hI f (es i)).length) (λj hj=>⟨_,a j (g (f+j)) (by grind)⟩) (by have:=rH K;grind) J y
 exact rz (bT U) (by simp)
def Flat.put{M:Mem}{vs ou:List ak}{i f:Nat}{cc ci:List C}(h:Flat M k n es vs)(hi:i<n)(r:eU f cc (es i)=aa ci)(hl:ou.length=cc.length)(w:∀ (j:Nat)(c:C),cc[j]?=aa c->∃ v,ou[j]?=aa v/\Rd M v c) :
  i*k+f+ou.length<=vs.length/\Flat M k n (m9 i ci es) (vs.take (i*k+f)++ou++vs.drop (i*k+f+ou.length)):=by
 obtain⟨h1,h2⟩:=pY r;have A:=h.width i hi;have hb:i*k+k<=n*k:=by
  have:=et k (show i+1<=n by omega)
  grind
 have u:=h.len;have q:i*k+f+ou.length<=vs.length:=by omega
 have d:∀ p,(vs.take (i*k+f)++ou++vs.drop (i*k+f+ou.length))[p]?=if p<i*k+f then vs[p]? else if p<i*k+f+ou.length then ou[p-(i*k+f)]? else vs[p]?:=by
  intro p;have z:(vs.take (i*k+f)).length=i*k+f:=by grind
  by_cases c1:p<i*k+f
  .grind
  .rw[aY c1]
   by_cases c2:p<i*k+f+ou.length
   .grind
   .rw[aY c2,gh (by grind),nB]
    grind
 refine⟨q,⟨by grind,λb a=>?_,λb a j c hj=>?_⟩⟩
 .simp only[m9];split
  .grind
  .exact h.width b a
 .simp only[m9] at hj;rw[d];split at hj
  .rename_i e
   subst e;rw[h2] at hj
   by_cases c1:j<f
   .rw[j5,jD (by grind),gO,bc c1] at hj
    rw[bc (by omega)]
    exact h.rd b hi j c hj
   .by_cases c2:j<f+cc.length
    .rw[j5,gh (by grind),jD (by grind)] at hj
     obtain⟨v,v1,y⟩:=w _ c hj;refine⟨v,?_,y⟩;rw[aY (by omega),bc (by omega),<-v1]
     congr 1
     grind
    .rw[gh (by grind),nB] at hj
     rw[aY (by omega),aY (by omega)]
     refine h.rd b hi j c ?_
     grind
  .rename_i e
   have x:j<k:=by have:=(cp.1 hj).1;have:=h.width b a;omega
   rcases cG b i with m|t
   .have:(b+1)*k<=i*k:=et k m;rw[gQ,Nat.one_mul] at this;rw[bc (by omega)]
    exact h.rd b a j c hj
   .have:(i+1)*k<=b*k:=et k (by omega)
    rw[gQ,Nat.one_mul] at this;rw[aY (by omega),aY (by omega)]
    exact h.rd b a j c hj
def aJ.ef(hh:aJ σ s)(hl:σ[l]?=aa (.buf E k n es)){b:Nat}{vs zs vC:List ak}{d:Nat}(z:s.β[l]?=aa ⟨.slice (aa ⟨b,0,af⟩) 0 d,[b]⟩)(q:(vs++zs).length=d*k)(j:n<=d)(m:d<=9223372036854775807){es':Nat->List C}(e:s.w.heap[b]?=aa (.cells (vs++zs).toArray E (0,0)))(y:Flat s.M k n es' vC)(A:vC.length=vs.length)(r:∀ o,s.M b o=af) :
  aJ (σ.set l (.buf E k n es')) { s with w:=s.w.setRow b (vC++zs).toArray }/\Step σ s (σ.set l (.buf E k n es')) { s with w:=s.w.setRow b (vC++zs).toArray }:=by
 have i:(s.w.setRow b (vC++zs).toArray).heap[b]?=aa (.cells (vC++zs).toArray E (0,0)):=setRow_heap s.w b _ _ E _ e;have f:∀ a,a≠b->(s.w.setRow b (vC++zs).toArray).heap[a]?=s.w.heap[a]?:=λa c=>setRow_other s.w b a _ c
 have p:s.β.set l ⟨.slice (aa ⟨b,0,af⟩) 0 d,[b]⟩=s.β:=by
  apply iL
  grind
 obtain⟨F,G⟩:=hh.iO (M':=s.M) (w':=s.w.setRow b (vC++zs).toArray) (B':=.buf E k n es') (L':=⟨.slice (aa ⟨b,0,af⟩) 0 d,[b]⟩) hl z ⟨λ_=>rfl,bg _⟩ (by simp[World.setRow])
  (λa c hn=>f a (by grind)) (λ_ _ _ _=>rfl) (λ_ _ _ h=>h) (λa t v u=>by
   have x:a≠b:=by grind
   have:=hh.mem a t v u;rw[<-this];simp only[a9]
   grind) (λa c=>⟨.inl c,by grind⟩) rfl rfl rfl
  (.inr ⟨b,d,vC,zs,rfl,i,by grind,j,m,y,r⟩)
 grind
def rS{α:Type}:∀ {new l:List α},new.length=l.length->eU 0 new l=aa new
 |[],[],_=>rfl
 |[],_::_,h=>by grind
 |_::_,[],h=>by grind
 |n::ns,c::cs,h=>by simp only[eU,rS (new:=ns) (l:=cs) (by grind)]
def bF.JE(Q:db P T){t:ar}{x y:an}(h:o.op=.store t x y){i f:Nat}{u:TI}{new:List A}{cc ci:List C}(Y:B x=.e (.one (.bp l (.el g k i f))))(Z:g=n)(hl:σ[l]?=aa (.buf E k n es))(hi:bE T t=aa u)(hy:mO (B y)=aa new)(hn:new.length=u.size)(J:gk new=aa cc)(O:(es i).length=k->eU f cc (es i)=aa ci)(p:i<n) :
  bF P o B σ .any (σ.set l (.buf E k n (m9 i ci es))):=by
 intro s ρ hh hr;have h1:=hr x;rw[Y] at h1;obtain⟨b,c0,vs,m,W,U,a,K,L,N,V,S⟩:=Kl hh hl h1 Z;have d:=mV hy (hr y);have z:=ki J d;have M:=dM.closed z;have F:(ρ y).cells.toList.length=cc.length:=by have:=z.length;grind
 replace O:=O (V.width i p)
 obtain⟨q1,q2⟩:=V.put p O F M;have H:(ρ y).cells.size=u.size:=by rw[<-hn,<-d.length,jh]
 obtain⟨t1,t2⟩:=hh.ef hl W K L N a q2 (by grind) S
 have G:=run_storeCells_at P b (i*k+f) E (ρ y).cells.toList 0 (vs++m).toArray s.w a (by grind) d.cell
 have I:((vs++m).toArray.toList.take (i*k+f+0)++(ρ y).cells.toList++(vs++m).toArray.toList.drop (i*k+f+0+(ρ y).cells.toList.length))=vs.take (i*k+f)++(ρ y).cells.toList++vs.drop (i*k+f+(ρ y).cells.toList.length)++m:=by
  grind
 rw[I] at G;refine⟨.skip,_,?_,rfl,t1,t2,?_⟩
 .simp[ay,h,U,Instr.storeAt,Instr.sureAddr,storeVar,(Q t u hi).run_sizeOf,H,G]
 .intro R c;have e:ay ρ o=(do storeVar t ⟨b,i*k+f,af⟩ (ρ y);pure .skip):=by simp[ay,h,U,Instr.storeAt,Instr.sureAddr]
  rw[e] at c;have q:R∈(storeCells ⟨b,i*k+f,af⟩ (ρ y).cells.toList).events P s.w #[]:=by
   simp only[storeVar,aO,(Q t u hi).run_sizeOf,H,aU,events_sizeOf,cT,ft,b9,bX,b8,Sem.events_pure] at c;generalize (storeCells ⟨b,i*k+f,af⟩ (ρ y).cells.toList).run P s.w=r at c;cases r with
   |ok v w'=>simpa using c
   |halt x w'=>simpa using c
  rcases eE (ρ y).cells.toList 0 (vs++m).toArray s.w #[] a (by grind) d.cell R q with X|⟨j,_,_,rfl⟩
  .grind
  .exact mh (bT W) (by simp) (S _)
end
section
variable {σ:List aV}
def aJ.zn{s:St}(hh:aJ σ s){b:Nat}{vs:List ak}(j:∀ o,s.M b o=af)(h:∀ o v,vs[o]?=aa v->s.w.cell? ⟨b,o,af⟩=aa v) :
  aJ (σ.map λ_=>.dead) { s with M:=λa o=>if a=b then vs[o]? else s.M a o }/\∀ a o v,s.M a o=aa v->(if a=b then vs[o]? else s.M a o)=aa v:=by
 have c:=hh.lC;refine⟨⟨λa o v f=>?_,c.len,λl B L g i=>?_,c.gd,c.lt,c.own⟩,λa o v f=>?_⟩
 .by_cases e:a=b
  .grind
  .simp only[e,b9] at f;exact c.mem a o v f
 .have:=bT g;simp at this;rw[<-this.2];trivial
 grind
def eX.vm{s:St}{M':Mem}{b:Nat}{es:Array Event}(h:eX { s with M:=M' } es){L:Loc}(j:L∈s.β)(hb:b∈L.bs)(l:∀ c o v,s.M c o=aa v->M' c o=aa v)(f:∀ c o v,M' c o=aa v->c=b∨s.M c o=aa v):eX s es:=by
 intro e g;have h1:=h e g;unfold ov at h1 ⊢;split at h1
 .obtain⟨a1,a2,a3⟩:=h1;refine⟨a1,a2,?_⟩;rcases a3 with a3|⟨a3,a4⟩|⟨a3,v,a4⟩
  .grind
  .refine .inr (.inl ⟨a3,λi=>?_⟩)
   have:=a4 i
   rename_i a _
   cases k:s.M a.block a.off with
   |none=>rfl
   |some v=>grind
  grind
 all_goals exact h1
end
def IM(k:Nat)(f:Nat->Nat->ak):Nat->List C:=λi=>(bh k).map λj=>.val (f i j)
theorem pM{k:Nat}{f:Nat->Nat->ak}{i j:Nat}{c:C}(h:(IM k f i)[j]?=aa c):j<k/\c=.val (f i j):=by
 have a:j<k:=by
  have:=(cp.1 h).1;simpa[IM] using this
 simp[IM,a] at h
 grind
def Dq{k:Nat}{f:Nat->Nat->ak}{i j:Nat}(h:j<k):(IM k f i)[j]?=aa (.val (f i j)):=by simp[IM,h]
def Rd.exact{M:Mem}{v:ak}{t:Bool}{k n:Nat}{es:Nat->List C}(h:Rd M v (.sl t k n es)) :
  ∃ f:Nat->Nat->ak,Rd M v (.sl t k n (IM k f))/\(∀ i,i<n->(es i).length=k)/\∀ i,i<n->∀ j c,(es i)[j]?=aa c->Rd M (f i j) c:=by
 cases h with
 |sl b off f a hb ht hk ha hm hr =>
  have e:∀ i,i<n->∀ j,j<k->∃ c,(es i)[j]?=aa c:=λi hi j hj=>⟨_,br (by grind)⟩
  refine⟨f,.sl b off f a hb ht (λi _=>by simp[IM]) ha (λi hi j c hj=>?_) (λi hi j c hj=>?_),hk,hr⟩
  .grind [pM]
  .obtain⟨h1,rfl⟩:=pM hj;obtain⟨g,h2⟩:=e i hi j h1;exact .val (hr i hi j g h2).cell
def Ab{σ:List aV}{s:St}{l:Nat}{E:ar}{k n:Nat}{es:Nat->List C}{L:Loc}{a c:Option Addr}{cap:Nat}(e:σ[l]?=aa (.buf E k n es))(g:s.β[l]?=aa L)(i:L.v=.slice c 0 cap)(j:n<=cap)(f:cap<=9223372036854775807)
  (m:0<cap->∃ b,c=aa ⟨b,0,af⟩/\a=aa ⟨b,0,af⟩):gv σ s (.slice a n cap) (.bp l (.sl n k 0 n)) :=
 ⟨L.v,⟨a,c,cap,cap,rfl,j,by omega,f,i,λh=>by grind⟩,(cp.1 e).1,λp k' n' es' he=>by
  rw[e] at he;cases he;exact⟨bg _,λ_=>⟨L,g,rfl⟩⟩⟩
def rn{P:aq}{o:aw}{σ:List aV}{x y:an}{E:ar}{g:TI}(h:mg P o x y E g){l n p:Nat}{tx:Bool}{es es':Nat->List C}{s:St}{ρ:an->ak}(r:aJ σ s)
  (h1:gv σ s (ρ x) (.bp l (.sl n g.size 0 n))) (hl:σ[l]?=aa (.buf E g.size n es)) (W:Rd s.M (ρ y) (.sl tx g.size p es')) (K:(n+p)*g.bytes<=140737488355328) :
  ∃ nx s',(ay ρ o).run P s.w=.ok nx s'.w/\Q8 (σ.set l (.buf E g.size (n+p) (cO n es es'))) s' nx (.e (.one (.bp l (.sl (n+p) g.size 0 (n+p)))))/\aJ (σ.set l (.buf E g.size (n+p) (cO n es es'))) s'/\Step σ s (σ.set l (.buf E g.size (n+p) (cO n es es'))) s'/\eX s ((ay ρ o).events P s.w #[]):=by
 obtain⟨t,t2,i,i2,ho,hi,hd,B,A⟩:=h.op;have I:l<σ.length:=(cp.1 hl).1;obtain⟨lv,⟨a,a0,cap,u,hv,N,SP,O,GG,Wn⟩,_,VH⟩:=h1;obtain⟨L,hL,V7⟩:=(VH _ _ _ _ hl).2 rfl;rw[GG] at V7;have Pn:u=cap:=by omega
 subst Pn;have R:0<u->∃ b,a0=aa ⟨b,0,af⟩/\a=aa ⟨b,0,af⟩:=λh=>by grind
 have U:l<s.β.length:=(cp.1 hL).1;have Ti:=bT hL;have S:=r.box l _ L hl hL;rw[cY ho,hv];have row:0<u->∃ b vs zs,a=aa ⟨b,0,af⟩/\L=⟨.slice (aa ⟨b,0,af⟩) 0 u,[b]⟩/\s.w.heap[b]?=aa (.cells (vs++zs).toArray E (0,0))/\(vs++zs).length=u*g.size/\Flat s.M g.size n es vs/\∀ o,s.M b o=af:=by
  intro G;obtain⟨b,e1,e2⟩:=R G;rcases S with⟨_,rfl⟩|⟨q,c1,vs,zs,rfl,h3,h4,h5,h6,h7,h8⟩
  .grind
  grind
 by_cases h0:p=0
 .subst h0;have m:=jd (P:=P) (ty:=o.type) hi hd B A h.elem r (a:=a) N W;simp only[iN];have ha:aP n es (cO n es es'):=λi hi=>by simp[cO,hi]
  have VL:eO (σ.set l (.buf E g.size n (cO n es es'))) ⟨s.β.set l L,s.M,s.w,s.own⟩ (.buf E g.size n (cO n es es')) L:=by
   rcases S with h3|⟨q,c1,vs,zs,W,h3,h4,h5,h6,h7,h8⟩
   .exact .inl h3
   .exact .inr ⟨q,c1,vs,zs,W,h3,h4,h5,h6,h7.Dp ha,h8⟩
  have IT:=r.iO (M':=s.M) (w':=s.w) (B':=.buf E g.size n (cO n es es')) (L':=L) hl hL ⟨λ_=>rfl,bg _⟩ (bg _) (λ_ _ _=>rfl) (λ_ _ _ _=>rfl) (λ_ _ _ h=>h) r.mem
   (λb K=>⟨.inl K,r.lt L Ti b K⟩) rfl rfl rfl VL
  refine⟨.value (.slice a n u),_,?_,?_,IT.1,IT.2,eB (jH hi hd B A h.elem r N W)⟩
  .simp[m]
  .exact Ab (E:=E) (by rw[fH I]) (by grind) V7 N O R
 .by_cases k:n+p<=u
  .obtain⟨b,vs,zs,rfl,rfl,hw,H,hF,hM⟩:=row (by omega)
   obtain⟨f,MR,m⟩:=j8 (P:=P) (ty:=o.type) hi hd B A h.elem r hw H W k;have Po:vs.length=n*g.size:=hF.len;have Tk:f.length=p*g.size:=MR.len;have Zo:n*g.size+p*g.size<=u*g.size:=by rw[<-gQ];exact et _ k
   have X:((vs++zs).take (n*g.size)++f++(vs++zs).drop (n*g.size+f.length))=(vs++f)++zs.drop f.length:=by
    rw[<-Po];simp[List.drop_append]
   rw[X] at m;have I9:=setRow_heap s.w b _ ((vs++f)++zs.drop f.length).toArray E _ hw;have DC:∀ q,q≠b->(s.w.setRow b ((vs++f)++zs.drop f.length).toArray).heap[q]?=s.w.heap[q]?:=λq Q=>setRow_other s.w b q _ Q
   obtain⟨t1,Y⟩:=r.iO (M':=s.M) (w':=s.w.setRow b ((vs++f)++zs.drop f.length).toArray) (B':=.buf E g.size (n+p) (cO n es es')) (L':=⟨.slice (aa ⟨b,0,af⟩) 0 u,[b]⟩) hl hL ⟨λ_=>rfl,by omega⟩ (by simp[World.setRow])
    (λq Q hn=>DC q (by grind)) (λ_ _ _ _=>rfl) (λ_ _ _ h=>h) (λq o' v hmv=>by
     have Bh:q≠b:=by grind
     have:=r.mem q o' v hmv;rw[<-this];simp only[a9]
     grind) (λq Q=>⟨.inl Q,by grind⟩) rfl rfl rfl
    (.inr ⟨b,u,vs++f,zs.drop f.length,rfl,I9,by grind,k,O,hF.append MR,hM⟩)
   refine⟨.value (.slice (aa ⟨b,0,af⟩) (n+p) u),_,?_,?_,t1,Y,eB (lO hi hd B A h.elem r hw H W k Ti (by simp) (λo _=>hM o))⟩
   .simp[m]
   .exact Ab (E:=E) (by rw[fH I]) (by simp only;rw[fH U]) rfl k O λ_=>⟨b,rfl,rfl⟩
  .have hg:u<n+p:=by omega
   obtain⟨f2,h2x,Xn,sG⟩:=W.exact;have ga:∃ (M':Mem) (f0:Nat->Nat->ak),aJ (σ.map λ_=>.dead) { s with M:=M' }/\(∀ q o v,s.M q o=aa v->M' q o=aa v)/\Rd M' (.slice a n u) (.sl ae g.size n (IM g.size f0))/\(∀ {es},eX { s with M:=M' } es->eX s es) /\
     (∀ i,i<n->(es i).length=g.size)/\∀ i,i<n->∀ j c,(es i)[j]?=aa c->Rd s.M (f0 i j) c:=by
    by_cases G:0<u
    .obtain⟨b,vs,zs,rfl,rfl,hw,H,hF,hM⟩:=row G;obtain⟨c1,c2⟩:=r.zn (b:=b) (vs:=vs) hM (λo v ho=>by
      simp only[a9,hw]
      grind)
     have V:∀ i,i<n->∀ j c,(es i)[j]?=aa c->vs[i*g.size+j]?=aa (vs.getD (i*g.size+j) aj)/\Rd s.M (vs.getD (i*g.size+j) aj) c:=by
      intro i hi j c F;obtain⟨v,v1,v2⟩:=hF.rd i hi j c F
      grind
     have SV:∀ i,i<n->∀ j,j<g.size->∃ c,(es i)[j]?=aa c:=λi hi j F=>⟨_,br (by rw[hF.width i hi];exact F)⟩
     refine⟨_,λi j=>vs.getD (i*g.size+j) aj,c1,c2,.sl b 0 (λi j=>vs.getD (i*g.size+j) aj) N O (by simp) (λi _=>by simp[IM]) (λ_=>rfl) (λi hi j c F=>?_) (λi hi j c F=>?_),λhe=>?_,hF.width,λi hi j c F=>(V i hi j c F).2⟩
     .obtain⟨e1,_⟩:=pM F
      grind
     .obtain⟨e1,rfl⟩:=pM F;obtain⟨c',e2⟩:=SV i hi j e1;exact .val (V i hi j c' e2).2.cell
     .exact he.vm (b:=b) Ti (by simp) c2 λq o v hv=>by
       grind
    .have e1:u=0:=by omega
     have e2:n=0:=by omega
     subst e1 e2;have z:=r.lC;exact⟨s.M,λ_ _=>aj,⟨z.mem,z.len,z.box,z.gd,z.lt,z.own⟩,λ_ _ _ h=>h,Rd.jI,λh=>h,λi hi=>by omega,λi hi=>by omega⟩
   obtain⟨M',f0,c1,c2,hR,VP,hw0,hr0⟩:=ga;have WG:Rd ({ s with M:=M' }:St).M (ρ y) (.sl tx g.size p (IM g.size f2)):=h2x.mono c2;obtain⟨vC,zs,J,Z,VM,VN,hlen,m⟩:=il (P:=P) (s:={ s with M:=M' }) (ty:=o.type) hi hd B A h.elem c1 hR WG hg K h.bytes;have M9:=iV (P:=P) (s:={ s with M:=M' }) (ty:=o.type) hi hd B A h.elem c1 hR WG hg K h.bytes;have hFs:Flat s.M g.size (n+p) (cO n es es') vC:=by
    refine⟨Z.len,λi hi=>?_,λi hi j c F=>?_⟩
    .by_cases e:i<n
     .simp only[cO,e,cq];grind
     .simp only[cO,e,b9];grind
    .by_cases e:i<n
     .simp only[cO,e,cq] at F;have Tj:j<g.size:=by grind
      obtain⟨v,v1,v2⟩:=Z.rd i hi j (.val (f0 i j)) (by simp only[cO,e,cq];exact Dq Tj)
      grind [Rd.fX]
     .simp only[cO,e,b9] at F;have Tj:j<g.size:=by grind
      obtain⟨v,v1,v2⟩:=Z.rd i hi j (.val (f2 (i-n) j)) (by simp only[cO,e,b9];exact Dq Tj)
      grind [Rd.fX]
   have nM:∀ o,s.M s.w.heap.size o=af:=λo=>by
    cases hm:s.M s.w.heap.size o with
    |none=>rfl
    |some v=>have:=r.block hm;omega
   obtain⟨t1,Y⟩:=r.iO (M':=s.M) (w':=s.w.drew.alloc (.cells (vC++zs).toArray E)) (B':=.buf E g.size (n+p) (cO n es es')) (L':=⟨.slice (aa ⟨s.w.heap.size,0,af⟩) 0 J,[s.w.heap.size]⟩) hl hL
    ⟨λe=>absurd e (by omega),by omega⟩ (by simp) (λb K _=>cJ s.w.drew _ K) (λ_ _ _ _=>rfl) (λ_ _ _ h=>h) (λb o v hm=>by
     have u4:=r.block hm;rw[<-r.mem b o v hm];simp only[a9];rw[cJ s.w.drew _ u4];rfl) (λb K=>by
     simp at K;subst K;exact⟨.inr (bg _),by simp⟩) rfl rfl rfl (.inr ⟨s.w.heap.size,J,vC,zs,rfl,dt s.w.drew _,hlen,VM,VN,hFs,nM⟩)
   refine⟨.value (.slice (aa ⟨s.w.heap.size,0,af⟩) (n+p) J),_,?_,?_,t1,Y,eB (VP M9)⟩
   .simp only at m;simp[m]
   .exact Ab (E:=E) (by rw[fH I]) (by simp only;rw[fH U]) rfl VM VN λ_=>⟨_,rfl,rfl⟩
def bF.Nx{P:aq}{o:aw}{d:an->D}{σ:List aV}{x y:an}{E:ar}{a:TI}(h:mg P o x y E a){l n b:Nat}{tx:Bool}{es es':Nat->List C}
  (f:d x=.e (.one (.bp l (.sl n a.size 0 n)))) (hl:σ[l]?=aa (.buf E a.size n es)) (c:∀ s v,c8 σ s v (d y)->Rd s.M v (.sl tx a.size b es')) (hb:(n+b)*a.bytes<=140737488355328) :
  bF P o d σ (.e (.one (.bp l (.sl (n+b) a.size 0 (n+b))))) (σ.set l (.buf E a.size (n+b) (cO n es es'))) :=
 λs ρ hh hr=>rn h hh (by have:=hr x;rw[f] at this;exact this) hl (c s _ (hr y)) hb
section
variable {P:aq}{T:List (Nat×TI)}{o:aw}{d:an->D}{σ:List aV}
def bF.W6(g:db P T){x:an}{b:Array ar}{t:ar}(h:o.op=.call { callee:=.builtin .len,args:=#[x],argTypes:=b })(l:b[0]?=aa t){i:TI}{E:ar}(hi:bE T t=aa i)(j:i.desc=.slice E)
  {a:Option Addr} {n cap:Nat} (m:d x=.e (.one (.c (.val (.slice a n cap))))) (hn:n<=9223372036854775807):bF P o d σ (.e (.one (.c (.int .i64 n)))) σ:=by
 refine .quiet λs ρ hh hr=>?_
 have h1:=hr x;rw[m] at h1;have k:=Rd.fX (fx h1);have f:=(g t i hi).run_underlying (w:=s.w);rw[j] at f;refine⟨.int .i64 n,?_,Rd.int (by simp only[bu];omega),?_⟩ <;>
 simp[ay,h,resolve,invoke,builtin,Builtin.len_,k,f,goInt,l]
theorem bF.BA(m:db P T){t:ar}{x y:an}(h:o.op=.indexAddr t x y){i f:TI}{E:ar}(hi:bE T t=aa i)(q:i.desc=.slice E)(r:bE T E=aa f)
  {b off n cap:Nat} {j:Int} {kk:IntKind} (z:d x=.e (.one (.c (.val (.slice (aa ⟨b,off,af⟩) n cap))))) (v:d y=.e (.one (.c (.int kk j)))) (A:0<=j) (h1:j<n):bF P o d σ (.e (.one (.c (.val (.pointer (aa ⟨b,off+j.toNat*f.size,af⟩)))))) σ:=by
 refine .quiet λs ρ hh hr=>?_
 have a:=hr x;rw[z] at a;have u:=Rd.fX (fx a);have h2:=hr y;rw[v] at h2
 replace h2:=fx h2
 generalize k:ρ y=vy at h2;cases h2;have p:=(m t i hi).run_underlying (w:=s.w);rw[q] at p;obtain⟨g,rfl⟩:∃ g:Nat,j=g:=⟨j.toNat,by omega⟩
 have l:g<n:=by omega
 refine⟨.pointer (aa ⟨b,off+g*f.size,af⟩),?_,Rd.val rfl,?_⟩ <;>
 simp[ay,h,u,k,Instr.indexAt,asIntOf,p,(m E f r).run_sizeOf,dg,l]
def bF.QR(i:db P T){t:ar}{x:an}{f:Nat}(h:o.op=.fieldAddr t x f){b off k:Nat}{j:TI}(l:d x=.e (.one (.c (.val (.pointer (aa ⟨b,off,af⟩))))))(g:jL T t f=aa (k,j)):bF P o d σ (.e (.one (.c (.val (.pointer (aa ⟨b,off+k,af⟩)))))) σ:=by
 refine .quiet λs ρ hh hr=>?_
 have h1:=hr x;rw[l] at h1;have a:=Rd.fX (fx h1);exact⟨.pointer (aa ⟨b,off+k,af⟩),by simp[ay,h,a,my i g],Rd.val rfl,by simp[ay,h,a,nV i g]⟩
def bF.slice3(I:db P T){t:ar}{x y z:an}(h:o.op=.slice t x af (aa y) (aa z)){i K:TI}{E:ar}(G:bE T t=aa i)(S:i.desc=.slice E)(V:bE T E=aa K){tt:Bool}{k n:Nat}{es:Nat->List C}{r u:IntKind}{j m:Int}
  (O:∀ s v,c8 σ s v (d x)->Rd s.M v (.sl tt k n es)) (W:d y=.e (.one (.c (.int r j)))) (N:d z=.e (.one (.c (.int u m)))) (H:0<=j) (h1:j<=m) (h2:m<=n):bF P o d σ (.e (.one (.c (.sl ae k j.toNat es)))) σ:=by
 refine .quiet λst ρ hh hr=>?_
 have q:=O st _ (hr x);have g:=hr y;rw[W] at g
 replace g:=fx g
 generalize B:ρ y=vy at g;cases g;have l:=hr z;rw[N] at l
 replace l:=fx l
 generalize A:ρ z=vz at l;cases l;obtain⟨a,cap,vs,F,J,Q,Y,hF,Z⟩:=q.flat;rw[F] at q;have p:=(I t i G).run_underlying (w:=st.w);rw[S] at p;have em:((m.toNat:Nat):Int)=m:=q8 (by omega)
 have hb:(Instr.sliceBounds ab n cap af (aa (.int r j)) (aa (.int u m))).run P st.w=.ok (0,j.toNat,m.toNat) st.w:=by
  simp[Instr.sliceBounds,run_sliceBound (P:=P) st.w u m cap _ (by omega) (by omega),run_sliceBound (P:=P) st.w r j m.toNat _ H (by omega)]
 have U:(Instr.sliceBounds ab n cap af (aa (.int r j)) (aa (.int u m))).events P st.w #[]=#[]:=by
  simp[Instr.sliceBounds,run_sliceBound (P:=P) st.w u m cap _ (by omega) (by omega),run_sliceBound (P:=P) st.w r j m.toNat _ H (by omega),eF (P:=P) st.w u m cap _ (by omega) (by omega),eF (P:=P) st.w r j m.toNat _ H (by omega)]
 refine⟨.slice a j.toNat m.toNat,?_,?_,by simp[ay,h,F,B,A,Instr.sliceAt,p,Instr.slice,hb,U]⟩
 .simp[ay,h,F,B,A,Instr.sliceAt,p,Instr.slice,hb,(I E K V).run_sizeOf];intro _;rcases a with _|⟨b,off,sp⟩ <;> simp[Addr.add]
 .cases q with
  |sl b off f _ _ _ X R hm' Ps =>
   exact Rd.sl b off f (by omega) (by omega) (by simp) (λi hi=>X i (by omega)) (λL=>R (by omega)) (λi hi j c hj=>hm' i (by omega) j c hj) (λi hi j c hj=>Ps i (by omega) j c hj)
end
def Flat.Tg{M:Mem}{k n q m:Nat}{es M8:Nat->List C}{vs ou:List ak}(h:Flat M k n es vs)(b:Flat M k m M8 ou)(f:q+m<=n) :
  Flat M k n (λi=>if q<=i/\i<q+m then M8 (i-q) else es i) (vs.take (q*k)++ou++vs.drop (q*k+ou.length)):=by
 have hl:=h.len;have l:=b.len;have hb:q*k+m*k<=n*k:=by rw[<-gQ];exact et k f
 have r:(vs.take (q*k)).length=q*k:=by grind
 have a:∀ p,(vs.take (q*k)++ou++vs.drop (q*k+ou.length))[p]?=if p<q*k then vs[p]? else if p<q*k+m*k then ou[p-q*k]? else vs[p]?:=by
  intro p
  by_cases c1:p<q*k
  .grind
  .rw[aY c1]
   by_cases c2:p<q*k+m*k
   .grind
   .rw[aY c2,gh (by grind),nB]
    grind
 refine⟨by grind,λi hi=>?_,λi hi j c hj=>?_⟩
 .by_cases e:q<=i/\i<q+m
  .rw[bc e];exact b.width _ (by omega)
  .rw[aY e];exact h.width i hi
 .rw[a]
  by_cases e:q<=i/\i<q+m
  .rw[bc e] at hj;have g:j<k:=by have:=(cp.1 hj).1;rw[b.width _ (by omega)] at this;exact this
   have e1:q*k<=i*k:=et k e.1;have e2:i*k+k<=q*k+m*k:=by rw[<-gQ,<-k8];exact et k e.2
   rw[aY (by omega),bc (by omega)]
   obtain⟨v,v1,s⟩:=b.rd (i-q) (by omega) j c hj
   grind [Nat.sub_mul]
  .rw[aY e] at hj;have g:j<k:=by have:=(cp.1 hj).1;rw[h.width i hi] at this;exact this
   have:i*k+j<q*k∨q*k+m*k<=i*k+j:=by
    by_cases c1:i<q
    .left
     have:i*k+k<=q*k:=by rw[<-k8];exact et k c1
     omega
    .right
     have:(q+m)*k<=i*k:=et k (by omega)
     grind
   rcases this with c1|c1
   .rw[bc c1];exact h.rd i hi j _ hj
   .rw[aY (by omega),aY (by omega)];exact h.rd i hi j _ hj
def uW{s:St}{E k k':Nat}{es VG:Nat->List C}{v:ak}{σ':List aV}{β:List Loc}{l:Nat}(f:Rd s.M v (.sl ab k' 0 VG))(e:σ'[l]?=aa (.buf E k 0 es))(c:β[l]?=aa ⟨.slice af 0 0,[]⟩):gv σ' { s with β:=β } v (.bp l (.sl 0 k 0 0)):=by
 obtain⟨a,cap,vs,g,_,_,b,_,_⟩:=f.flat;have:=b rfl;subst this;refine⟨.slice af 0 0,⟨a,af,0,0,g,by omega,rfl,by omega,rfl,λh=>absurd h (by omega)⟩,(cp.1 e).1,λE2 k2 n2 M8 h=>?_⟩
 rw[e] at h;cases h;exact⟨bg _,λ_=>⟨_,c,rfl⟩⟩
def eX.Th{s:St}{β:List Loc}{v:ak}{es:Array Event}(h:eX { s with β:=β++[⟨v,[]⟩] } es)(c:s.β=β):eX s es:=by
 intro e a;have h1:=h e a;have key:∀ b,(∃ L∈β++[(⟨v,[]⟩:Loc)],b∈L.bs)->∃ L∈s.β,b∈L.bs:=λb ⟨L,f,hb⟩=>by
  grind
 unfold ov at h1 ⊢
 grind
def bF.GD{P:aq}{o:aw}{d:an->D}{σ:List aV}{x y:an}{E:ar}{a:TI}(h:mg P o x y E a){k m:Nat}{tx:Bool}{es es':Nat->List C}
  (u:d x=.e (.one (.c (.sl ab k 0 es)))) (r:∀ s v,c8 σ s v (d y)->Rd s.M v (.sl tx a.size m es')) (hb:(0+m)*a.bytes<=140737488355328) :
  bF P o d σ (.e (.one (.bp σ.length (.sl (0+m) a.size 0 (0+m))))) (σ++[.buf E a.size (0+m) (cO 0 es es')]):=by
 intro s ρ hh hr;have h1:=hr x;rw[u] at h1;have h2:=r s _ (hr y);obtain⟨p,g2⟩:=hh.gR (B:=.buf E a.size 0 es) (L:=⟨.slice af 0 0,[]⟩) (.refl _ _) rfl hh (.inl ⟨rfl,rfl⟩) (by simp)
 have f:gv (σ++[.buf E a.size 0 es]) { s with β:=s.β++[⟨.slice af 0 0,[]⟩] } (ρ x) (.bp σ.length (.sl 0 a.size 0 0)):=uW (E:=E) (es:=es) (fx h1) (by simp) (by simp[<-hh.len])
 obtain⟨t,s',n,g,i,j,q⟩:=rn (P:=P) (σ:=σ++[.buf E a.size 0 es]) (s:={ s with β:=s.β++[⟨.slice af 0 0,[]⟩] }) (l:=σ.length) (es:=es) h p f (by simp) h2 hb
 have b:(σ++[aV.buf E a.size 0 es]).set σ.length (.buf E a.size (0+m) (cO 0 es es'))=σ++[.buf E a.size (0+m) (cO 0 es es')]:=by simp
 rw[b] at g i j;exact⟨t,s',n,g,i,g2.trans j,q.Th rfl⟩
def GF(i j m:Nat)(es:Nat->List C):Nat->List C:=λq=>if i<=q/\q<i+m then es (j+(q-i)) else es q
def bF.I1{P:aq}{o:aw}{d:an->D}{σ:List aV}{x y:an}{E:ar}{f:TI}(h:mg P o x y E f){l n i j m:Nat}{es:Nat->List C}
  (hx:d x=.e (.one (.bp l (.sl n f.size 0 i)))) (hy:d y=.e (.one (.bp l (.sl n f.size j m)))) (hl:σ[l]?=aa (.buf E f.size n es)) (Zl:i+m<=n) (hjm:j+m<=n) :
  bF P o d σ (.e (.one (.bp l (.sl n f.size 0 (i+m))))) (σ.set l (.buf E f.size n (GF i j m es))):=by
 intro s ρ hh hr;obtain⟨t,t2,ti,ti2,ho,hi,hd,Fe,W⟩:=h.op;have h1:=hr x;rw[hx] at h1
 change gv σ s (ρ x) (.bp l _) at h1
 have h2:=hr y;rw[hy] at h2
 change gv σ s (ρ y) (.bp l _) at h2
 obtain⟨lv,⟨a,a0,cap,I,hv,S,SP,Wm,GG,Wn⟩,_,VH⟩:=h1;obtain⟨L,hL,U⟩:=(VH _ _ _ _ hl).2 rfl;rw[GG] at U;obtain⟨lv',⟨a',a0',k,c0',VI,Wo,aaO,aaP,Wp,aaQ⟩,_,Wq⟩:=h2;obtain⟨L',gu,J⟩:=(Wq _ _ _ _ hl).2 rfl;rw[hL] at gu;cases gu;rw[Wp,U] at J;cases J;have Ti:=bT hL;have hu:=hi.run_underlying (w:=s.w);have Y:=Fe.run_underlying (w:=s.w);rw[hd] at hu;rw[W] at Y;rw[cY ho,hv,VI]
 by_cases Wr:n=0
 .have e1:i=0:=by omega
  have e2:m=0:=by omega
  subst Wr e1 e2;have Qn:σ.set l (.buf E f.size 0 (GF 0 j 0 es))=σ:=by
   have:GF 0 j 0 es=es:=by funext q;simp only[GF];grind
   rw[this]
   apply iL
   grind
  have hz:Rd s.M (.slice a' 0 k) (.sl ae f.size 0 λ_=>[]):=.sl 0 0 (λ_ _=>aj) (by omega) (by omega) (by simp) (λi hi=>by omega) (λh=>by omega) (λi hi=>by omega) (λi hi=>by omega)
  have N:=jd (P:=P) (ty:=o.type) hi hd Fe W h.elem hh (a:=a) S hz;rw[Qn];refine⟨.value (.slice a 0 cap),s,?_,?_,hh,.refl _ _,eB (jH hi hd Fe W h.elem hh S hz)⟩
  .simp[N]
  .exact⟨lv,⟨a,a0,cap,I,rfl,S,SP,Wm,GG,Wn⟩,(cp.1 hl).1,VH⟩
 rcases hh.box l _ L hl hL with⟨e,_⟩|⟨b,c1,vs,X,rfl,r,hz1,hz2,hz3,V,hM⟩
 .grind
 cases U;have Z:0<cap:=by omega
 obtain⟨b1,e1,rfl⟩:=Wn Z;cases e1;have Pn:I=cap:=by omega
 subst Pn;rw[show b=b from rfl]
 have Po:vs.length=n*f.size:=V.len;have u:i+m<=I:=by omega
 have hik:i*f.size+m*f.size<=n*f.size:=by rw[<-gQ];exact et _ Zl
 have Tj:j*f.size+m*f.size<=n*f.size:=by rw[<-gQ];exact et _ hjm
 obtain⟨c1,c2⟩:=hh.zn (b:=b) (vs:=vs) hM (λq v O=>by
  simp only[a9,r]
  grind)
 let g:=(vs.drop (j*f.size)).take (m*f.size)
 have Tk:g.length=m*f.size:=by grind
 have hng:∀ p,p<m*f.size->g[p]?=vs[j*f.size+p]?:=λp G=>by grind
 have MR:Flat s.M f.size m (λq=>es (j+q)) g:=by
  refine⟨Tk,λq O=>V.width _ (by omega),λq O p c G=>?_⟩
  have hpk:p<f.size:=by have:=(cp.1 G).1;rw[V.width _ (by omega)] at this;exact this
  obtain⟨v,v1,v2⟩:=V.rd (j+q) (by omega) p c G
  refine⟨v,?_,v2⟩;have hq2:q*f.size+f.size<=m*f.size:=by rw[<-k8];exact et _ O
  grind
 have z:∀ v∈g,v.oneCell'=ab:=MR.cell;have VJ:Rd (λA q=>if A=b then vs[q]? else s.M A q) (.slice a' m k) (.sl ae f.size m (IM f.size λq p=>vs.getD ((j+q)*f.size+p) aj)):=by
  refine .sl b (j*f.size) (λq p=>vs.getD ((j+q)*f.size+p) aj) Wo (by omega) (by simp) (λq _=>by simp[IM]) (λG=>?_) (λq O p c G=>?_) (λq O p c G=>?_)
  .grind
  .obtain⟨p1,_⟩:=pM G;have hq2:q*f.size+f.size<=m*f.size:=by rw[<-k8];exact et _ O
   grind
  .obtain⟨p1,rfl⟩:=pM G;obtain⟨c',Ws⟩:∃ c',(es (j+q))[p]?=aa c':=⟨_,br (by rw[V.width _ (by omega)];exact p1)⟩
   obtain⟨v,v1,v2⟩:=V.rd (j+q) (by omega) p c' Ws
   have e:vs.getD ((j+q)*f.size+p) aj=v:=by grind
   rw[e];exact .val v2.cell
 obtain⟨F,Tl,hf,K⟩:=dK (P:=P) (s:={ s with M:=λA q=>if A=b then vs[q]? else s.M A q }) c1 VJ
 have hnn:F=g:=by
  apply iL
  intro p;have Bb:F.length=m*f.size:=Tl.len
  by_cases G:p<m*f.size
  .have hk:0<f.size:=by
    grind
   have O:p / f.size<m:=pA (by grind)
   have Tm:p / f.size*f.size+p % f.size=p:=pD p f.size;obtain⟨v,v1,v2⟩:=Tl.rd _ O (p % f.size) _ (Dq (jF _ hk));rw[Tm] at v1;rw[v1,hng p G,Rd.fX v2];rw[gQ,uT,Tm,ai,br (by omega)]
   rfl
  grind
 subst hnn;have M9:=gM (P:=P) (s:={ s with M:=λA q=>if A=b then vs[q]? else s.M A q }) c1 VJ (w:=s.w) rfl
 replace hf:(Builtin.firstCells f.size m (.slice a' m k)).run P s.w=.ok g.toArray s.w:=hf
 have aaX:i*f.size+g.length<=(vs++X).length:=by grind
 have H:=run_storeCells_at P b (i*f.size) E g 0 (vs++X).toArray s.w r (by grind) z
 simp only[iN] at H;have Qo:((vs++X).toArray.toList.take (i*f.size)++g++(vs++X).toArray.toList.drop (i*f.size+g.length))=vs.take (i*f.size)++g++vs.drop (i*f.size+g.length)++X:=by
  grind
 rw[Qo] at H;have q2:=V.Tg MR Zl;have he:(λq=>if i<=q/\q<i+m then (λq=>es (j+q)) (q-i) else es q)=GF i j m es:=rfl
 rw[he] at q2;obtain⟨t1,t2'⟩:=hh.ef hl hL hz1 hz2 hz3 r q2 (by grind) hM
 have B:(Builtin.lenOf (.slice a' m k)).run P s.w=.ok m s.w:=by rw[K];rfl
 have R:(Builtin.lenOf (.slice a' m k)).events P s.w #[]=#[]:=by rw[K];rfl
 refine⟨.value (.slice (aa ⟨b,0*f.size,af⟩) (i+m) I),_,?_,?_,t1,t2',eB ?_⟩
 .have N:(Builtin.append_ #[t,t2] o.type #[.slice (aa ⟨b,0*f.size,af⟩) i I,.slice a' m k]).run P s.w=.ok (.slice (aa ⟨b,0*f.size,af⟩) (i+m) I) (s.w.setRow b (vs.take (i*f.size)++g++vs.drop (i*f.size+g.length)++X).toArray):=by
   unfold Builtin.append_;simp only[iI,kW,mJ,bX,hu,Y,b8,h.elem.run_sizeOf,cW,jE,b9,B,u,cq,ia,hf,dg,Nat.zero_mul,bt,H]
  grind [Go.Sem.run_bind,Go.Result.andThen_ok,Go.Sem.run_pure]
 .exact⟨.slice (aa ⟨b,0,af⟩) 0 I,⟨_,_,I,I,rfl,u,by omega,Wm,rfl,λ_=>⟨b,rfl,rfl⟩⟩,by grind,λE2 k2 n2 M8 VK=>by
   rw[fH (cp.1 hl).1] at VK;cases VK;exact⟨bg _,λ_=>⟨_,hL,rfl⟩⟩⟩
 .intro e Q;unfold Builtin.append_ at Q;simp only[iI,kW,mJ,aO,bX,hu,Y,aU,h.elem.run_sizeOf,cW,jE,b9,B,R,u,cq,ia,hf,dg,Nat.zero_mul,bt,H,
   pK,Sem.events_ite,events_underlying,events_sizeOf,Sem.events_pure] at Q
  rcases eE g 0 (vs++X).toArray s.w _ r (by grind) z e Q with h3|⟨p,_,_,rfl⟩
  .have h4:eX { s with M:=λA q=>if A=b then vs[q]? else s.M A q } #[e]:=eX.one (sL (M9 e h3))
   exact h4.vm (b:=b) Ti (by simp) c2 (λA q v hv=>by
    grind) e (by simp)
  grind [mh]
section
variable {P:aq}{T:List (Nat×TI)}{o:aw}{d:an->D}{σ:List aV}
theorem bF.slice3B(J:db P T){t:ar}{x w y z:an}(h:o.op=.slice t x (aa w) (aa y) (aa z)){G H:TI}{E:ar}(I:bE T t=aa G)(R:G.desc=.slice E)(U:bE T E=aa H){l g k q n:Nat}{A u v:IntKind}{i j m:Int}
  (N:d x=.e (.one (.bp l (.sl g k q n)))) (Q:d w=.e (.one (.c (.int A i)))) (V:d y=.e (.one (.c (.int u j)))) (L:d z=.e (.one (.c (.int v m)))) (h0:0<=i) (h1:i<=j) (h2:j<=m) (h3:m<=n):bF P o d σ (.e (.one .any)) σ:=by
 refine .quiet λst ρ hh hr=>?_
 have s:=hr x;rw[N] at s
 change gv σ st (ρ x) (.bp l _) at s
 obtain⟨lv,⟨a,a0,cap,Z,K,X,M,Y,O,W⟩,_,_⟩:=s;have f:=hr w;rw[Q] at f
 replace f:=fx f
 generalize C:ρ w=vw at f;cases f;have b:=hr y;rw[V] at b
 replace b:=fx b
 generalize F:ρ y=vy at b;cases b;have p:=hr z;rw[L] at p
 replace p:=fx p
 generalize B:ρ z=vz at p;cases p;have r:=(J t G I).run_underlying (w:=st.w);rw[R] at r;have hb:(Instr.sliceBounds ab n cap (aa (.int A i)) (aa (.int u j)) (aa (.int v m))).run P st.w=.ok (i.toNat,j.toNat,m.toNat) st.w:=by
  simp[Instr.sliceBounds,run_sliceBound (P:=P) st.w v m cap _ (by omega) (by omega),run_sliceBound (P:=P) st.w u j m.toNat _ (by omega) (by omega),run_sliceBound (P:=P) st.w A i j.toNat _ (by omega) (by omega)]
 have S:(Instr.sliceBounds ab n cap (aa (.int A i)) (aa (.int u j)) (aa (.int v m))).events P st.w #[]=#[]:=by
  simp[Instr.sliceBounds,run_sliceBound (P:=P) st.w v m cap _ (by omega) (by omega),run_sliceBound (P:=P) st.w u j m.toNat _ (by omega) (by omega),run_sliceBound (P:=P) st.w A i j.toNat _ (by omega) (by omega),
   eF (P:=P) st.w v m cap _ (by omega) (by omega),eF (P:=P) st.w u j m.toNat _ (by omega) (by omega),eF (P:=P) st.w A i j.toNat _ (by omega) (by omega)]
 refine⟨.slice (if m.toNat=i.toNat then a else a.map (·.add (i.toNat*H.size))) (j.toNat-i.toNat) (m.toNat-i.toNat),?_,rfl,by simp[ay,h,K,C,F,B,Instr.sliceAt,r,Instr.slice,hb,S]⟩
 simp[ay,h,K,C,F,B,Instr.sliceAt,r,Instr.slice,hb,(J E H U).run_sizeOf]
end
section drop
variable {σ1 rest:List aV}{s:St}
def St.cut(s:St)(n:Nat):St:={ s with β:=s.β.take n }
def gv.drop{v:ak}{a:A}(r:gv (σ1++rest) s v a)(d:GN σ1.length a=ab):gv σ1 (s.cut σ1.length) v a:=by
 have lt:∀ {l:Nat},bo (l+1) σ1.length=ab->l<σ1.length:=λh=>c7 h
 cases a with
 |c x=>exact r
 |any=>exact r
 |ptr l o =>
  have hl:=lt d;obtain⟨f,L,b,i,g⟩:=r;refine⟨λB j=>f B (by grind),L,b,?_,g⟩
  simp only[St.cut,gO,hl,cq];exact i
 |ref l =>
  have hl:=lt d;obtain⟨f,L,i,g⟩:=r;refine⟨λB j=>f B (by grind),L,?_,g⟩
  simp only[St.cut,gO,hl,cq];exact i
 |bp l w =>
  have hl:=lt d;obtain⟨lv,f,_,g⟩:=r;refine⟨lv,f,hl,λE k' n' es' j=>?_⟩
  obtain⟨h1,h2⟩:=g E k' n' es' (by grind)
  refine⟨h1,λe=>?_⟩
  obtain⟨L,m,p⟩:=h2 e;refine⟨L,?_,p⟩;simp only[St.cut,gO,hl,cq];exact m
 |vec l k n es =>
  have hl:=lt d;obtain⟨f,_,g⟩:=r;refine⟨f,hl,λE k' n' es' j=>?_⟩
  obtain⟨h1,h2⟩:=g E k' n' es' (by grind)
  refine⟨h1,λe=>?_⟩
  obtain⟨L,m,p⟩:=h2 e;refine⟨L,?_,p⟩;simp only[St.cut,gO,hl,cq];exact m
def dM.uy:∀ {vs:List ak}{cs:List A},dM (σ1++rest) s vs cs->DH σ1.length cs=ab->dM σ1 (s.cut σ1.length) vs cs
 |[],[],_,_=>trivial
 |[],_::_,r,_=>r.elim
 |_::_,[],r,_=>r.elim
 |v::vs,c::cs,r,h=>by
  simp only[DH] at h;cases a:GN σ1.length c with
  |false=>grind
  |true=>simp only[a] at h;exact⟨r.1.drop a,dM.uy r.2 h⟩
def mT.uy{v:ak}{e:E1}(r:mT (σ1++rest) s v e)(h:Ji σ1.length e=ab):mT σ1 (s.cut σ1.length) v e:=by
 cases e with
 |one a=>exact gv.drop r h
 |agg cs=>obtain⟨vs,h1,h2⟩:=r;exact⟨vs,h1,dM.uy h2 h⟩
def gI.uy:∀ {vs:List ak}{cs:List E1},gI (σ1++rest) s vs cs->xB σ1.length cs=ab->gI σ1 (s.cut σ1.length) vs cs
 |[],[],_,_=>trivial
 |[],_::_,r,_=>r.elim
 |_::_,[],r,_=>r.elim
 |v::vs,c::cs,r,h=>by
  simp only[xB] at h;cases a:Ji σ1.length c with
  |false=>grind
  |true=>simp only[a] at h;exact⟨mT.uy r.1 a,gI.uy r.2 h⟩
def c8.drop{v:ak}{d:D}(r:c8 (σ1++rest) s v d)(h:u5 σ1.length d=ab):c8 σ1 (s.cut σ1.length) v d:=by
 cases d with
 |e x=>exact mT.uy r h
 |eJ xs=>obtain⟨vs,h1,h2⟩:=r;exact⟨vs,h1,gI.uy h2 h⟩
 |any=>trivial
def cB.drop{σ0:List aV}{s0:St}(st:cB σ0 s0 (σ1++rest) s)(a:σ0.length<=σ1.length):cB σ0 s0 σ1 (s.cut σ1.length):=by
 refine⟨st.size,st.eL,st.mem,st.jA,λL c b hb=>st.xx L (iJ c) b hb,?_,st.os,st.tape,st.output,st.own⟩
 intro l B L d c;obtain⟨B',L',h1,h2,e⟩:=st.box l B L d c;have hl:l<σ1.length:=cE (cp.1 d).1 a;rw[jD hl] at h1;exact⟨B',L',h1,by simp only[St.cut,gO,hl,cq];exact h2,e⟩
def gv.rN{σ:List aV}{v:ak}{a:A}(hl:s.β.length=σ.length)(r:gv σ s v a):GN σ.length a=ab:=by
 have ok:∀ {l:Nat},l<σ.length->bo (l+1) σ.length=ab:=λh=>qW h
 have lt:∀ {l:Nat} {L:Loc},s.β[l]?=aa L->l<σ.length:=λh=>by grind
 cases a with
 |c x=>rfl
 |any=>rfl
 |ptr l o=>obtain⟨_,L,b,d,_⟩:=r;exact ok (lt d)
 |ref l=>obtain⟨_,L,d,_⟩:=r;exact ok (lt d)
 |bp l w=>obtain⟨lv,_,h,_⟩:=r;exact ok h
 |vec l k n es=>exact ok r.2.1
def dM.rN{σ:List aV}(hl:s.β.length=σ.length):∀ {vs:List ak}{cs:List A},dM σ s vs cs->DH σ.length cs=ab
 |[],[],_=>rfl
 |[],_::_,r=>r.elim
 |_::_,[],r=>r.elim
 |v::vs,c::cs,r=>by simp only[DH,r.1.rN hl];exact dM.rN hl r.2
def mT.rN{σ:List aV}(hl:s.β.length=σ.length){v:ak}{e:E1}(r:mT σ s v e):Ji σ.length e=ab:=by
 cases e with
 |one a=>exact gv.rN hl r
 |agg cs=>obtain⟨vs,_,h⟩:=r;exact dM.rN hl h
def gI.rN{σ:List aV}(hl:s.β.length=σ.length):∀ {vs:List ak}{cs:List E1},gI σ s vs cs->xB σ.length cs=ab
 |[],[],_=>rfl
 |[],_::_,r=>r.elim
 |_::_,[],r=>r.elim
 |v::vs,c::cs,r=>by simp only[xB,mT.rN hl r.1];exact gI.rN hl r.2
def c8.rN{σ:List aV}(hl:s.β.length=σ.length){v:ak}{d:D}(r:c8 σ s v d):u5 σ.length d=ab:=by
 cases d with
 |e x=>exact mT.rN hl r
 |eJ xs=>obtain⟨vs,_,h⟩:=r;exact gI.rN hl h
 |any=>rfl
def aJ.Px{s0:St}{σ0:List aV}(m:aJ σ0 s0)(a:σ0.length=σ1.length)(x:∀ (l:Nat)(B:aV),σ1[l]?=aa B->(∃ E cs,B=.cells E cs/\DH σ1.length cs=ab)∨σ0[l]?=aa B)(h:aJ (σ1++rest) s):aJ σ1 (s.cut σ1.length):=by
 have hl:σ1.length<=s.β.length:=by rw[h.len];simp
 refine⟨h.mem,by simp[St.cut,hl],?_,?_,?_,λb hb=>⟨(h.own b hb).1,λL d=>(h.own b hb).2 L (iJ d)⟩⟩
 .intro l B L u d;have j:l<σ1.length:=(cp.1 u).1;simp only[St.cut,gO,j,cq] at d;have c:=h.box l B L (by grind) d
  have f:∃ q,s0.β[l]?=aa q:=⟨_,br (by rw[m.len,a];exact j)⟩
  obtain⟨q,f⟩:=f;have i:=(x l B u).imp_right λh=>m.box l B q h f
  have y:=m.len.trans a;cases B with
  |cells E cs =>
   obtain⟨b,vs,h1,h2,o,p⟩:=c;refine⟨b,vs,h1,h2,dM.uy o ?_,p⟩;rcases i with⟨_,_,e,i⟩|⟨_,_,_,_,g3,_⟩
   .grind
   .exact a▸g3.rN m.len
  |vec E k n es=>exact c
  |dz H=>exact c
  |dead=>trivial
  |loop N φ r =>
   obtain⟨l',tmps,fn,v,h1,h2,o,p,w⟩:=c;rcases i with⟨_,_,e,_⟩|⟨_,_,_,_,_,_,_,g4,_⟩
   .cases e
   .exact⟨l',tmps,fn,v,h1,h2,o,λt=>(p t).drop (a▸(g4 t).rN m.len),w⟩
  |qS=>exact c
  |buf E k n es=>exact c
 .intro l l' L L' d g b hb oG;simp only[St.cut,gO] at d g;split at d <;> split at g <;> first|exact h.gd l l' L L' d g b hb oG|grind|grind
 .intro L d b hb;exact h.lt L (iJ d) b hb
def aJ.TP{s0:St}(a:aJ σ1 s0)(h:aJ (σ1++rest) s):aJ σ1 (s.cut σ1.length):=a.Px rfl (λ_ _ h=>.inr h) h
def OA.Bv{P:aq}{X:Cx P}{N:Nat}{all:List aw}{o:aw}{φ:Fr}{σ:List aV}{E:ar}{k n:Nat}{es:Nat->List C}(h:OA X N all o φ σ (.e (.one (.vec σ.length k n es))) (σ++[.vec E k n es])):OA X N all o φ σ (.e (.one (.c (.sl ae k n es)))) σ:=by
 intro s a f hh b kk cs S i rest hb hi hK;refine h s a f hh b kk cs S i rest hb hi λv s' hv k9 st=>?_
 have g:eQ s' (s'.cut σ.length):=⟨rfl,λ_ _ _ h=>h,λ_ _ _=>rfl,k9.mem,λb hb=>hb.imp id λ⟨L,d,hb⟩=>⟨L,iJ d,hb⟩⟩
 exact .ghost g (hK v (s'.cut σ.length) hv.1 (hh.TP k9) (st.drop (bg _)))
end drop
end
end Go.AM
