/- Part 1. No condition. -/
import Derived.Tactics2
import Derived.Conc.Own
import Derived.Conc.Events
import Derived.Conc.Listed
import Derived.Laws.CopyRow
import Derived.Laws.AppendOwn
import Derived.Laws.Rows
import Derived.Laws.Strings
import Derived.Laws.Cells
import Derived.Lib.Strings
import Derived.Laws.Slices
import Derived.Orders
import Derived.Laws.StructEq
set_option linter.all false
set_option maxHeartbeats 8000000
open Go renaming Value → ak
open Option renaming some → aa
open Go renaming Program → aq
open Go renaming TypeId → ar
open Bool renaming true → ab
open Go renaming Goroutine → au
open Go renaming Frame → aR
open Go renaming Oper → aw
open Go renaming FuncId → aW
open Go.Region renaming wanted → bj
open Go renaming execOp → ay
open Go renaming Operand → an
open Option renaming none → af
open Bool renaming false → ae
open Go renaming undef → aj
open Go.World renaming cell? → a9
open List renaming getD_eq_getElem?_getD → ai
open Go.Sem renaming events_bind → aO
open Go.Result renaming evThen_ok → aU
open Go renaming World → az
open Go renaming stepG → aK
open List renaming range → bh
open Nat renaming beq → aG
open Nat renaming ble → bo
open Go.Region renaming ready → bc
open Go.Op renaming bytesLess → bl
namespace Go
section
set_option linter.defProp false
set_option linter.deprecated false
def av:=@_root_.trivial
def br:=@_root_.List.getElem?_eq_getElem
def ba:=@_root_.decide_eq_true_eq
def aE:=@_root_.and_true
def aF:=@_root_.true_and
def bM:=@_root_.decide_eq_false_iff_not
def bA:=@_root_.Int.toNat_natCast
def bX:=@_root_.Nat.eq_of_beq_eq_true
def bU:=@_root_.List.mem_of_getElem?
def cr:=@_root_.List.getElem?_eq_some_iff
def bg:=@_root_.Nat.le_refl
def bR:=@_root_.List.length_append
def bL:=@_root_.Bool.and_eq_true
def bt:=@_root_.Nat.zero_add
def b9:=@_root_.Go.Result.andThen_ok
def dG:=@_root_.Array.getD_eq_getD_getElem?
def b7:=@_root_.List.take_length
def db:=@_root_.Nat.le_of_ble_eq_true
def cG:=@_root_.Nat.lt_of_lt_of_le
def bY:=@_root_.Go.Sem.run_bind
def cn:=@_root_.decide_eq_true
def aY:=@_root_.if_neg
def dt:=@_root_.beq_eq_false_iff_ne
def bd:=@_root_.if_pos
def dH:=@_root_.List.getElem_of_mem
def di:=@_root_.Option.some.injEq
def er:=@_root_.List.length_singleton
def et:=@_root_.Nat.mul_le_mul_right
def fR:=@_root_.Array.getElem?_eq_getElem
def gk:=@_root_.List.getElem?_append_right
def cJ:=@_root_.Nat.lt_or_ge
def hZ:=@_root_.List.eq_nil_of_length_eq_zero
def fI:=@_root_.List.getElem?_set_self
def cY:=@_root_.Go.Sem.run_pure
def ia:=@_root_.Array.getElem?_eq_some_iff
def eB:=@_root_.beq_self_eq_true
def dy:=@_root_.Bool.not_true
def dN:=@_root_.Bool.true_and
def eC:=@_root_.decide_eq_false
def cd:=@_root_.if_false
def fu:=@_root_.not_true_eq_false
def fa:=@_root_.List.length_cons
def jD:=@_root_.List.getElem?_append_left
def fJ:=@_root_.Option.getD_some
def iJ:=@_root_.List.getElem?_toArray
def j4:=@_root_.List.pairwise_iff_getElem
def gQ:=@_root_.List.getElem?_take
def iK:=@_root_.List.mem_of_mem_take
def iL:=@_root_.List.getElem?_set_ne
def cu:=@_root_.if_true
def fb:=@_root_.List.mem_cons
def eL:=@_root_.Nat.le_trans
def jg:=@_root_.Array.length_toList
def gC:=@_root_.List.mem_append
def kX:=@_root_.List.getElem?_cons_zero
def j5:=@_root_.List.take_append_drop
def j6:=@_root_.List.length_filter_le
def iM:=@_root_.List.ext_getElem?
def jh:=@_root_.Bool.not_eq_true'
def ib:=@_root_.List.length_nil
def jE:=@_root_.Bool.false_eq_true
def du:=@_root_.congrArg
def mM:=@_root_.Array.getElem?_replicate
def ic:=@_root_.Bool.not_false
def mN:=@_root_.List.getElem?_cons_succ
def qu:=@_root_.List.findIdx?_eq_some_iff_getElem
def ji:=@_root_.Nat.not_lt_zero
def jk:=@_root_.List.foldl_cons
def j7:=@_root_.List.take_add_one
def lO:=@_root_.List.mem_iff_getElem
def j8:=@_root_.List.append_assoc
def kY:=@_root_.List.mem_singleton
def kZ:=@_root_.bne_self_eq_false
def gD:=@_root_.Nat.zero_le
def fS:=@_root_.beq_iff_eq
def j9:=@_root_.Option.map_some
def gR:=@_root_.Nat.add_mul
def iN:=@_root_.Nat.beq_refl
def iO:=@_root_.Nat.add_zero
def vn:=@_root_.Array.getElem?_setIfInBounds_self_of_lt
def sR:=@_root_.Array.getElem?_setIfInBounds_ne
def ig:=@_root_.decide_true
def k6:=@_root_.List.length_map
def k7:=@_root_.List.append_nil
def qv:=@_root_.Array.mapM_eq_mapM_toList
def oP:=@_root_.Array.toArray_toList
def cW:=@_root_.ne_eq
def k8:=@_root_.Prod.mk.injEq
def nE:=@_root_.List.getElem?_map
def mO:=@_root_.List.mem_filter
def mP:=@_root_.Bool.or_eq_true
def nF:=@_root_.Option.bind_some
def oQ:=@_root_.Nat.eq_zero_or_pos
def nG:=@_root_.List.getElem_mem
def vo:=@_root_.List.find?_eq_some_iff_getElem
def k9:=@_root_.Nat.succ_mul
def sS:=@_root_.Nat.lt_succ_iff_lt_or_eq
def jF:=@_root_.bne_iff_ne
def jG:=@_root_.Nat.mod_lt
def sT:=@_root_.Option.map_eq_some_iff
def me:=@_root_.List.length_drop
def mf:=@_root_.Bool.not_eq_true
def lA:=@_root_.List.mapM_cons
def nH:=@_root_.List.getElem?_drop
def qX:=@_root_.List.findIdx?_eq_none_iff
def mg:=@_root_.Bool.eq_iff_iff
def nI:=@_root_.not_false_eq_true
def kA:=@_root_.decide_false
def pE:=@_root_.Nat.div_lt_of_lt_mul
def nJ:=@_root_.List.foldl_append
def qY:=@_root_.Nat.le_mul_of_pos_right
def pF:=@_root_.Nat.add_sub_cancel
def lB:=@_root_.List.mem_map
def nK:=@_root_.UInt8.toNat_inj
def nL:=@_root_.List.length_set
def qZ:=@_root_.Nat.ble_eq_true_of_le
def q8:=@_root_.List.getElem?_eq_none
def ra:=@_root_.Bool.and_eq_false_iff
def gi:=@_root_.true_or
def kB:=@_root_.Nat.not_lt
def mh:=@_root_.Nat.sub_zero
def pG:=@_root_.Nat.div_add_mod'
def pH:=@_root_.List.mem_flatMap
def pI:=@_root_.List.ext_getElem
def pJ:=@_root_.List.drop_length
def uN:=@_root_.List.drop_eq_getElem_cons
def rb:=@_root_.List.flatMap_append
def rf:=@_root_.Int.toNat_of_nonneg
def rh:=@_root_.List.find?_eq_none
def ri:=@_root_.Int.emod_lt_of_pos
def rj:=@_root_.Bool.not_eq_false'
def uO:=@_root_.Nat.add_sub_cancel_left
def nN:=@_root_.Nat.mul_comm
def uP:=@_root_.List.take_of_length_le
def pK:=@_root_.Bool.false_and
def uQ:=@_root_.Array.mem_of_getElem?
def rl:=@_root_.List.not_mem_nil
def uR:=@_root_.List.mem_cons_of_mem
def rm:=@_root_.List.map_append
def rn:=@_root_.Int.emod_nonneg
def uS:=@_root_.Nat.mul_le_mul_left
def uT:=@_root_.List.filter_eq_self
def rq:=@_root_.List.mem_range
def zl:=@_root_.List.mem_of_find?_eq_some
def uU:=@_root_.List.getElem?_set
def zm:=@_root_.List.set_eq_of_length_le
def ru:=@_root_.List.map_cons
def pL:=@_root_.Go.Sem.run_ite
def rv:=@_root_.Nat.sub_self
def zn:=@_root_.List.range_succ_eq_map
def zo:=@_root_.Array.getElem?_eq_none
def uV:=@_root_.Option.some.inj
def zp:=@_root_.List.contains_iff_mem
def zq:=@_root_.Array.getElem?_toList
def zr:=@_root_.Array.getElem?_modify
def nO:=@_root_.and_self
def zt:=@_root_.Nat.pow_le_pow_right
def mi:=@_root_.Ne.symm
def zu:=@_root_.Nat.add_sub_cancel'
def uW:=@_root_.Nat.add_assoc
end
end Go
namespace Go.AM
inductive C where
  | int (k:IntKind) (n:Int)
  | bool (b:Bool)
  | str (s:List UInt8)
  | sl (tight:Bool) (k n:Nat) (es:Nat->List C)
  | rp (cs:List C)
  | km
  | ifs (t:ar) (c:C)
  | Jw (t:ar) (cs:List C)
  | nV
  | fn (f:Fn) (first cap:List C)
  | zA
  | val (x:ak)
inductive BP where
  | sl (g k o n:Nat)
  | el (g k i f:Nat)
def BP.g:BP->Nat
  | .sl g _ _ _=>g
  | .el g _ _ _=>g
def BP.K:BP->ak->ak->Prop
  | .sl _ k o n,lv,v=>∃ a a0 cap c0,v=.slice a n cap/\n<=cap/\o+cap=c0/\c0<=9223372036854775807/\lv=.slice a0 0 c0/\(0<cap->∃ b,a0=aa ⟨b,0,af⟩/\a=aa ⟨b,o*k,af⟩)
  | .el _ k i f,lv,v=>∃ b c0,lv=.slice (aa ⟨b,0,af⟩) 0 c0/\v=.pointer (aa ⟨b,i*k+f,af⟩)
inductive A where
  | c (x:C)
  | ptr (l off:Nat)
  | vec (l k n:Nat) (es:Nat->List C)
  | ref (l:Nat)
  | bp (l:Nat) (w:BP)
  | any
abbrev A.v (x:ak):A:=.c (.val x)
inductive E1 where
  | one (a:A)
  | agg (cs:List A)
inductive D where
  | e (x:E1)
  | eK (xs:List E1)
  | any
abbrev Fr:=List (Nat×D)
def look:Fr->Nat->D
  | [],_=>.any
  | (i,d)::r,t=>cond (aG i t) d (look r t)
inductive aV where
  | cells (E:ar) (cs:List A)
  | vec (E:ar) (k n:Nat) (es:Nat->List C)
  | dD (H:ak->(Nat->Option Obj)->Prop)
  | dead
  | loop (N:Nat) (φ:Fr) (r:Loop)
  | qV
  | buf (E:ar) (k n:Nat) (es:Nat->List C)
@[simp] def aV.gr:aV->Bool
  | .vec _ _ _ _=>ab
  | .buf _ _ _ _=>ab
  | _=>ae
structure Loc where
  v:ak
  bs:List Nat
abbrev Mem:=Nat->Nat->Option ak
structure St where
  β:List Loc
  M:Mem
  w:az
  own:Nat->Prop
def bx:IntKind->Int->Prop
  | .i8,n=>-128<=n/\n<=127
  | .i16,n=>-32768<=n/\n<=32767
  | .i32,n=>-2147483648<=n/\n<=2147483647
  | .i64,n=>-9223372036854775808<=n/\n<=9223372036854775807
  | .u8,n=>0<=n/\n<=255
  | .u16,n=>0<=n/\n<=65535
  | .u32,n=>0<=n/\n<=4294967295
  | .u64,n=>0<=n/\n<=18446744073709551615
def cZ:ak->Bool
  | .agg _|.tuple _=>ae
  | _=>ab
def BP.K.cell {w:BP} {lv v:ak} (h:w.K lv v):cZ v=ab:=by
  cases w with
  | sl=>obtain⟨_,_,_,_,rfl,_⟩:=h;rfl
  | el=>obtain⟨_,_,_,rfl⟩:=h;rfl
inductive Rd (M:Mem):ak->C->Prop
  | int {k:IntKind} {n:Int} (h:bx k n):Rd M (.int k n) (.int k n)
  | bool {b:Bool}:Rd M (.bool b) (.bool b)
  | str {s:ByteArray} {l:List UInt8} (h:s.data.toList=l) (hl:l.length<=9223372036854775807):Rd M (.string s) (.str l)
  | sl {a:Option Addr} {n cap:Nat} {tight:Bool} {k:Nat} {es:Nat->List C} (b off:Nat) (f:Nat->Nat->ak)
      (GW:n<=cap) (hb:cap<=9223372036854775807) (ht:tight=ab->cap=n) (hk:∀ i,i<n->(es i).length=k)
      (ha:0<n->a=aa ⟨b,off,af⟩)
      (hm:∀ i,i<n->∀ j c,(es i)[j]?=aa c->M b (off+i*k+j)=aa (f i j))
      (hr:∀ i,i<n->∀ j c,(es i)[j]?=aa c->Rd M (f i j) c):Rd M (.slice a n cap) (.sl tight k n es)
  | rp {cs:List C} (b off:Nat) (f:Nat->ak)
      (hm:∀ j c,cs[j]?=aa c->M b (off+j)=aa (f j))
      (hr:∀ j c,cs[j]?=aa c->Rd M (f j) c):Rd M (.pointer (aa ⟨b,off,af⟩)) (.rp cs)
  | km:Rd M (.pointer af) .km
  | ifs {t:ar} {v:ak} {c:C} (h:Rd M v c) (hc:cZ v=ab):Rd M (.iface t v) (.ifs t c)
  | Jw {t:ar} {vs:List ak} {cs:List C} (hl:vs.length=cs.length)
      (f:Nat->ak) (hf:∀ j,j<vs.length->vs[j]?=aa (f j)) (hr:∀ j c,cs[j]?=aa c->Rd M (f j) c):Rd M (.iface t (.agg vs.toArray)) (.Jw t cs)
  | nV:Rd M .nilIface .nV
  | fn {g:Fn} {first cap:List C} (fs cs:List ak) (hl:fs.length=first.length) (Bl:cs.length=cap.length) (f1 f2:Nat->ak)
      (h1:∀ j,j<fs.length->fs[j]?=aa (f1 j)) (h2:∀ j,j<cs.length->cs[j]?=aa (f2 j))
      (r1:∀ j c,first[j]?=aa c->Rd M (f1 j) c) (r2:∀ j c,cap[j]?=aa c->Rd M (f2 j) c):Rd M (.func g fs.toArray cs.toArray) (.fn g first cap)
  | zA:Rd M .nilFunc .zA
  | val {x:ak} (h:cZ x=ab):Rd M x (.val x)
theorem Rd.fZ {M:Mem} {v x:ak} (h:Rd M v (.val x)):v=x:=by cases h;rfl
def Rd.cell {M:Mem} {v:ak} {c:C} (h:Rd M v c):cZ v=ab:=by cases h <;> first|rfl|assumption
def Rd.mono {M M':Mem} (d:∀ b o v,M b o=aa v->M' b o=aa v) {v:ak} {c:C} (h:Rd M v c):Rd M' v c:=by
  induction h with
  | int h=>exact .int h
  | bool=>exact .bool
  | str h hl=>exact .str h hl
  | sl b off f a hb ht hk ha hm hr ih =>
    exact .sl b off f a hb ht hk ha (λi hi j c hj=>d _ _ _ (hm i hi j c hj)) (λi hi j c hj=>ih i hi j c hj)
  | rp b off f hm hr ih=>exact .rp b off f (λj c hj=>d _ _ _ (hm j c hj)) (λj c hj=>ih j c hj)
  | km=>exact .km
  | ifs h g ih=>exact .ifs ih g
  | Jw hl f e hr ih=>exact .Jw hl f e (λj c hj=>ih j c hj)
  | nV=>exact .nV
  | fn fs cs hl Bl f1 f2 h1 h2 r1 r2 ih1 ih2=>exact .fn fs cs hl Bl f1 f2 h1 h2 (λj c hj=>ih1 j c hj) (λj c hj=>ih2 j c hj)
  | zA=>exact .zA
  | val h=>exact .val h
def gx (σ:List aV) (s:St) (v:ak):A->Prop
  | .c x=>Rd s.M v x
  | .ptr l off=>(∀ B,σ[l]?=aa B->B.gr=ae)/\∃ L b,s.β[l]?=aa L/\L.v=.pointer (aa ⟨b,0,af⟩)/\v=.pointer (aa ⟨b,off,af⟩)
  | .vec l k n es=>Rd s.M v (.sl ae k n es)/\l<σ.length/\∀ E k' n' es',σ[l]?=aa (aV.vec E k' n' es')->n<=n'/\(n'=n->∃ L,s.β[l]?=aa L/\v=L.v)
  | .ref l=>(∀ B,σ[l]?=aa B->B.gr=ae)/\∃ L,s.β[l]?=aa L/\v=L.v/\cZ v=ab
  | .bp l w=>∃ a,w.K a v/\l<σ.length/\∀ E k n es,σ[l]?=aa (aV.buf E k n es)->w.g<=n/\(w.g=n->∃ L,s.β[l]?=aa L/\L.v=a)
  | .any=>cZ v=ab
def dW (σ:List aV) (s:St):List ak->List A->Prop
  | [],[]=>True
  | v::vs,a::al=>gx σ s v a/\dW σ s vs al
  | _,_=>False
def mY (σ:List aV) (s:St) (v:ak):E1->Prop
  | .one a=>gx σ s v a
  | .agg cs=>∃ vs:List ak,v=.agg vs.toArray/\dW σ s vs cs
def gJ (σ:List aV) (s:St):List ak->List E1->Prop
  | [],[]=>True
  | v::vs,a::al=>mY σ s v a/\gJ σ s vs al
  | _,_=>False
def dc (σ:List aV) (s:St) (v:ak):D->Prop
  | .e x=>mY σ s v x
  | .eK xs=>∃ vs:List ak,v=.tuple vs.toArray/\gJ σ s vs xs
  | .any=>True
def cz (σ:List aV) (s:St):List ak->List D->Prop
  | [],[]=>True
  | v::vs,a::al=>dc σ s v a/\cz σ s vs al
  | _,_=>False
structure Flat (M:Mem) (k n:Nat) (es:Nat->List C) (vs:List ak):Prop where
  len:vs.length=n*k
  width:∀ i,i<n->(es i).length=k
  rd:∀ i,i<n->∀ (j:Nat) (c:C),(es i)[j]?=aa c->∃ v,vs[i*k+j]?=aa v/\Rd M v c
def Flat.mono {M M':Mem} (a:∀ b o v,M b o=aa v->M' b o=aa v) {k n:Nat} {es:Nat->List C} {vs:List ak} (h:Flat M k n es vs):Flat M' k n es vs :=
  ⟨h.len,h.width,λi hi j c hj=>let ⟨v,h1,h2⟩:=h.rd i hi j c hj;⟨v,h1,h2.mono a⟩⟩
def eP (σ:List aV) (s:St):aV->Loc->Prop
  | .cells E cs,L=>∃ b vs,L=⟨.pointer (aa ⟨b,0,af⟩),[b]⟩/\s.w.heap[b]?=aa (.cells (List.toArray vs) E (0,0))/\dW σ s vs cs/\∀ o,s.M b o=af
  | .vec E k n es,L=>Rd s.M L.v (.sl ae k n es) /\
      (((L.bs=[]/\n=0)/\Rd s.M L.v (.sl ab k n es)) ∨
       ∃ b cap vs,L=⟨.slice (aa ⟨b,0,af⟩) n cap,[b]⟩/\s.w.heap[b]?=aa (.cells (List.toArray vs) E (0,0))/\vs.length=cap*k/\∀ o,n*k<=o->s.M b o=af)
  | .dD H,L=>∃ c,H L.v c/\(∀ (b:Nat) (o:Obj),c b=aa o->s.w.heap[b]?=aa o)/\(∀ b,b∈L.bs↔(c b).isSome=ab)/\∀ b∈L.bs,∀ o,s.M b o=af
  | .dead,_=>True
  | .loop N φ r,L=>∃ l tmps fn df,L=⟨.func (.yield l) #[] #[],[l]⟩/\s.w.heap[l]?=aa (.loop { r with tmps:=tmps,fn:=fn,defers:=df })/\tmps.size=N/\(∀ t,dc σ s (tmps.getD t aj) (look φ t))/\∀ o,s.M l o=af
  | .qV,L=>∃ r:Nat,L=⟨.int .i64 r,[r]⟩/\s.w.heap[r]?=aa (.deferred (aa []))/\∀ o,s.M r o=af
  | .buf E k n es,L=>(n=0/\L=⟨.slice af 0 0,[]⟩)∨∃ b a vs zs,L=⟨.slice (aa ⟨b,0,af⟩) 0 a,[b]⟩/\s.w.heap[b]?=aa (.cells (List.toArray (vs++zs)) E (0,0))/\(vs++zs).length=a*k/\n<=a/\a<=9223372036854775807/\Flat s.M k n es vs/\∀ o,s.M b o=af
structure aJ (σ:List aV) (s:St):Prop where
  mem:∀ b o v,s.M b o=aa v->s.w.cell? ⟨b,o,af⟩=aa v
  len:s.β.length=σ.length
  box:∀ (l:Nat) (B:aV) (L:Loc),σ[l]?=aa B->s.β[l]?=aa L->eP σ s B L
  gg:∀ (l l':Nat) (L L':Loc),s.β[l]?=aa L->s.β[l']?=aa L'->∀ b∈L.bs,b∈L'.bs->l=l'
  lt:∀ L∈s.β,∀ b∈L.bs,b<s.w.heap.size
  own:∀ b,s.own b->b<s.w.heap.size/\∀ L∈s.β,b∉L.bs
def ij:aV->Loc->aV->Loc->Prop
  | .vec _ _ n _,L,.vec _ _ a _,L'=>(a=n->L'.v=L.v)/\n<=a
  | .vec _ _ _ _,_,.dead,_=>True
  | .vec _ _ _ _,_,_,_=>False
  | .buf _ _ n _,L,.buf _ _ a _,L'=>(a=n->L'.v=L.v)/\n<=a
  | .buf _ _ _ _,_,.dead,_=>True
  | .buf _ _ _ _,_,_,_=>False
  | _,_,.vec _ _ _ _,_=>False
  | _,_,.buf _ _ _ _,_=>False
  | .dead,L,.dead,L'=>L'.v=L.v
  | .dead,_,_,_=>False
  | .qV,L,.qV,L'=>L'.v=L.v
  | .qV,_,_,_=>False
  | _,_,.qV,_=>False
  | _,L,_,L'=>L'.v=L.v
structure Ext (σ:List aV) (s:St) (σ':List aV) (s':St):Prop where
  mem:∀ b o v,s.M b o=aa v->s'.M b o=aa v
  box:∀ (l:Nat) (B:aV) (L:Loc),σ[l]?=aa B->s.β[l]?=aa L->∃ B' L',σ'[l]?=aa B'/\s'.β[l]?=aa L'/\ij B L B' L'
structure Step (σ:List aV) (s:St) (σ':List aV) (s':St):Prop where
  size:s.w.heap.size<=s'.w.heap.size
  eN:∀ b,b<s.w.heap.size->(∀ L∈s.β,b∉L.bs)->s'.w.heap[b]?=s.w.heap[b]?
  mem:∀ b o v,s.M b o=aa v->s'.M b o=aa v
  jz:∀ b,b<s.w.heap.size->(∀ L∈s.β,b∉L.bs)->∀ o,s'.M b o=s.M b o
  xC:∀ L'∈s'.β,∀ b∈L'.bs,s.w.heap.size<=b∨∃ L∈s.β,b∈L.bs
  box:∀ (l:Nat) (B:aV) (L:Loc),σ[l]?=aa B->s.β[l]?=aa L->∃ B' L',σ'[l]?=aa B'/\s'.β[l]?=aa L'/\ij B L B' L'
  os:s'.w.os=s.w.os
  tape:s'.w.tape=s.w.tape
  output:s'.w.output=s.w.output
  own:s'.own=s.own
structure cD (σ:List aV) (s:St) (σ':List aV) (s':St):Prop where
  size:s.w.heap.size<=s'.w.heap.size
  eN:∀ b,s.own b->s'.w.heap[b]?=s.w.heap[b]?
  mem:∀ b o v,s.M b o=aa v->s'.M b o=aa v
  jz:∀ b,b<s.w.heap.size->(∀ L∈s.β,b∉L.bs)->∀ o,s'.M b o=s.M b o
  xC:∀ L'∈s'.β,∀ b∈L'.bs,s.w.heap.size<=b∨∃ L∈s.β,b∈L.bs
  box:∀ (l:Nat) (B:aV) (L:Loc),σ[l]?=aa B->s.β[l]?=aa L->∃ B' L',σ'[l]?=aa B'/\s'.β[l]?=aa L'/\ij B L B' L'
  os:s'.w.os=s.w.os
  tape:s'.w.tape=s.w.tape
  output:s'.w.output=s.w.output
  own:s'.own=s.own
structure cj (s s':St):Prop where
  β:s'.β=s.β
  M:s'.M=s.M
  own:s'.own=s.own
  size:s.w.heap.size<=s'.w.heap.size
  eN:∀ b,(s.own b∨∃ L∈s.β,b∈L.bs)->s'.w.heap[b]?=s.w.heap[b]?
  mem:∀ b o v,s.M b o=aa v->s'.w.cell? ⟨b,o,af⟩=aa v
  os:s'.w.os=s.w.os
  tape:s'.w.tape=s.w.tape
  output:s'.w.output=s.w.output
def oE (s:St) (e:Event):Prop :=
  match e.loc with
  | .cell a=>e.sync=ae/\a.spot=af/\(False∨((∃ L∈s.β,a.block∈L.bs)/\(e.write=ab->s.M a.block a.off=af))∨(e.write=ae/\∃ v,s.M a.block a.off=aa v))
  | .obj r=>e.sync=ae/\(False∨∃ L∈s.β,r∈L.bs)
  | .mark m=>m=.noRoom∨∃ f,m=.extern f
  | _=>False
def eZ (s:St) (es:Array Event):Prop:=∀ e∈es,oE s e
def eZ.nil {s:St}:eZ s #[]:=by intro e h;grind
def ij.refl (B:aV) (L:Loc):ij B L B L:=by cases B <;> simp[ij]
def ij.trans {B B' WX:aV} {L L' ZO:Loc} (h:ij B L B' L') (a:ij B' L' WX ZO):ij B L WX ZO:=by
  cases B <;> cases B' <;> cases WX <;> simp_all [ij]
  all_goals
    grind
def Step.refl (σ:List aV) (s:St):Step σ s σ s :=
  ⟨bg _,λ_ _ _=>rfl,λ_ _ _ h=>h,λ_ _ _ _=>rfl,λL h b hb=>.inr ⟨L,h,hb⟩,λ_ B L h a=>⟨B,L,h,a,.refl _ _⟩,rfl,rfl,rfl,rfl⟩
def Step.trans {σ σ1 σ2:List aV} {s d s2:St} (h:Step σ s σ1 d) (k:Step σ1 d σ2 s2):Step σ s σ2 s2:=by
  have out:∀ b,b<s.w.heap.size->(∀ L∈s.β,b∉L.bs)->∀ L∈d.β,b∉L.bs:=by
    intro b hb hn L a c;rcases h.xC L a b c with h1|⟨u,t,q⟩
    · omega
    grind
  refine⟨eL h.size k.size,?_,λb o v p=>k.mem _ _ _ (h.mem _ _ _ p),?_,?_,?_,k.os.trans h.os,k.tape.trans h.tape,k.output.trans h.output,k.own.trans h.own⟩
  · intro b hb hn
    rw[k.eN b (cG hb h.size) (out b hb hn),h.eN b hb hn]
  · intro b hb hn o
    rw[k.jz b (cG hb h.size) (out b hb hn),h.jz b hb hn]
  · intro L a b hb
    rcases k.xC L a b hb with h1|⟨L1,i,f⟩
    · exact .inl (eL h.size h1)
    grind
  · intro l B L g a
    obtain⟨B1,L1,h1,h2,e⟩:=h.box l B L g a;obtain⟨m,n,k1,r,j⟩:=k.box l B1 L1 h1 h2;exact⟨m,n,k1,r,e.trans j⟩
def cD.refl (σ:List aV) (s:St):cD σ s σ s :=
  ⟨bg _,λ_ _=>rfl,λ_ _ _ h=>h,λ_ _ _ _=>rfl,λL h b hb=>.inr ⟨L,h,hb⟩,λ_ B L h a=>⟨B,L,h,a,.refl _ _⟩,rfl,rfl,rfl,rfl⟩
def cD.trans {σ σ1 σ2:List aV} {s d s2:St} (h:cD σ s σ1 d) (k:cD σ1 d σ2 s2):cD σ s σ2 s2:=by
  have out:∀ b,b<s.w.heap.size->(∀ L∈s.β,b∉L.bs)->∀ L∈d.β,b∉L.bs:=by
    intro b hb hn L a c;rcases h.xC L a b c with h1|⟨u,t,q⟩
    · omega
    grind
  refine⟨eL h.size k.size,?_,λb o v p=>k.mem _ _ _ (h.mem _ _ _ p),?_,?_,?_,k.os.trans h.os,k.tape.trans h.tape,k.output.trans h.output,k.own.trans h.own⟩
  · intro b hb
    rw[k.eN b (by rw[h.own];exact hb),h.eN b hb]
  · intro b hb hn o
    rw[k.jz b (cG hb h.size) (out b hb hn),h.jz b hb hn]
  · intro L a b hb
    rcases k.xC L a b hb with h1|⟨L1,i,f⟩
    · exact .inl (eL h.size h1)
    grind
  · intro l B L g a
    obtain⟨B1,L1,h1,h2,e⟩:=h.box l B L g a;obtain⟨m,n,k1,r,j⟩:=k.box l B1 L1 h1 h2;exact⟨m,n,k1,r,e.trans j⟩
def Step.oG {σ σ':List aV} {s s':St} (hh:aJ σ s) (h:Step σ s σ' s'):cD σ s σ' s' :=
  ⟨h.size,λb hb=>h.eN b (hh.own b hb).1 (hh.own b hb).2,h.mem,h.jz,h.xC,h.box,h.os,h.tape,h.output,h.own⟩
def cD.ext {σ σ':List aV} {s s':St} (h:cD σ s σ' s'):Ext σ s σ' s':=⟨h.mem,h.box⟩
def cj.refl {σ:List aV} {s:St} (hh:aJ σ s):cj s s:=⟨rfl,rfl,rfl,bg _,λ_ _=>rfl,hh.mem,rfl,rfl,rfl⟩
def cj.stepW {σ:List aV} {s s':St} (h:cj s s'):cD σ s σ s' :=
  ⟨h.size,λb hb=>h.eN b (.inl hb),λb o v c=>by rw[h.M];exact c,λ_ _ _ _=>by rw[h.M],λL a b hb=>.inr ⟨L,by rw[<-h.β];exact a,hb⟩,
    λl B L d a=>⟨B,L,d,by rw[h.β];exact a,.refl _ _⟩,h.os,h.tape,h.output,h.own⟩
def Step.ext {σ σ':List aV} {s s':St} (h:Step σ s σ' s'):Ext σ s σ' s':=⟨h.mem,h.box⟩
section mono
variable {σ σ':List aV} {s s':St}
def Ext.Nr (h:Ext σ s σ' s') {l:Nat} {L:Loc} (c:s.β[l]?=aa L) (hl:s.β.length=σ.length) (hn:∀ B,σ[l]?=aa B->B.gr=ae) :
    (∀ B,σ'[l]?=aa B->B.gr=ae)/\∃ L',s'.β[l]?=aa L'/\L'.v=L.v:=by
  have a:l<σ.length:=by grind
  obtain⟨B',L',k1,e,d⟩:=h.box l (σ[l]) L (br a) c;have b:=hn _ (br a);generalize σ[l]=B at *;rw[k1];cases B <;> cases B' <;> simp_all [ij,aV.gr]
def gx.mono (h:Ext σ s σ' s') (hl:s.β.length=σ.length) {v:ak} {a:A} (r:gx σ s v a):gx σ' s' v a:=by
  cases a with
  | c x=>exact Rd.mono h.mem r
  | any=>exact r
  | ptr l off =>
    obtain⟨hn,L,b,h1,h2,i⟩:=r;obtain⟨g,L',k1,m⟩:=h.Nr h1 hl hn;exact⟨g,L',b,k1,by grind,i⟩
  | vec l k n es =>
    obtain⟨j,d,p⟩:=r;obtain⟨B',L',k1,m,f⟩:=h.box l (σ[l]) (s.β[l]'(by omega)) (br d) (br (by omega))
    have e:l<σ'.length:=(cr.1 k1).1;refine⟨Rd.mono h.mem j,e,λE k' g es' he=>?_⟩
    rw[he] at k1;cases k1;have o:=br d;generalize σ[l]=B at *;cases B with
    | vec E0 k0 n0 VR =>
      obtain⟨q,t⟩:=f
      grind
    | _=>simp[ij] at f
  | ref l =>
    obtain⟨hn,L,h1,h2,i⟩:=r;obtain⟨g,L',k1,m⟩:=h.Nr h1 hl hn;exact⟨g,L',k1,by grind,i⟩
  | bp l w =>
    obtain⟨lv,j,d,p⟩:=r;obtain⟨B',L',k1,m,f⟩:=h.box l (σ[l]) (s.β[l]'(by omega)) (br d) (br (by omega))
    have e:l<σ'.length:=(cr.1 k1).1;refine⟨lv,j,e,λE k' g es' he=>?_⟩
    rw[he] at k1;cases k1;have o:=br d;generalize σ[l]=B at *;cases B with
    | buf E0 k0 n0 VR =>
      obtain⟨q,t⟩:=f
      grind
    | _=>simp[ij] at f
def dW.mono (h:Ext σ s σ' s') (hl:s.β.length=σ.length) {vs:List ak} {cs:List A} (r:dW σ s vs cs):dW σ' s' vs cs:=by
  induction vs generalizing cs with
  | nil=>cases cs <;> simp_all [dW]
  | cons v vs ih =>
    cases cs with
    | nil=>simp[dW] at r
    | cons a cs=>exact⟨r.1.mono h hl,ih r.2⟩
def mY.mono (h:Ext σ s σ' s') (hl:s.β.length=σ.length) {v:ak} {x:E1} (r:mY σ s v x):mY σ' s' v x:=by
  cases x with
  | one a=>exact gx.mono h hl r
  | agg cs=>obtain⟨vs,h1,h2⟩:=r;exact⟨vs,h1,h2.mono h hl⟩
def gJ.mono (h:Ext σ s σ' s') (hl:s.β.length=σ.length) {vs:List ak} {xs:List E1} (r:gJ σ s vs xs):gJ σ' s' vs xs:=by
  induction vs generalizing xs with
  | nil=>cases xs <;> simp_all [gJ]
  | cons v vs ih =>
    cases xs with
    | nil=>simp[gJ] at r
    | cons a cs=>exact⟨r.1.mono h hl,ih r.2⟩
def dc.mono (h:Ext σ s σ' s') (hl:s.β.length=σ.length) {v:ak} {d:D} (r:dc σ s v d):dc σ' s' v d:=by
  cases d with
  | e x=>exact mY.mono h hl r
  | eK xs=>obtain⟨vs,h1,h2⟩:=r;exact⟨vs,h1,h2.mono h hl⟩
  | any=>trivial
def cz.mono (h:Ext σ s σ' s') (hl:s.β.length=σ.length) {vs:List ak} {xs:List D} (r:cz σ s vs xs):cz σ' s' vs xs:=by
  induction vs generalizing xs with
  | nil=>cases xs <;> simp_all [cz]
  | cons v vs ih =>
    cases xs with
    | nil=>simp[cz] at r
    | cons a cs=>exact⟨r.1.mono h hl,ih r.2⟩
end mono
def oI (σ:List aV) (s:St):List Deferred->List Nat->Prop
  | [],[]=>True
  | d::ds,l::ls=>(σ[l]?=aa .qV/\∃ (L:Loc) (r:Nat),s.β[l]?=aa L/\L.v=.int .i64 r/\d={ target:=.collected r,args:=#[] })/\l∉ls/\oI σ s ds ls
  | _,_=>False
def oI.mono {σ σ':List aV} {s s':St} (h:Ext σ s σ' s'):∀ {ds:List Deferred} {ls:List Nat},oI σ s ds ls->oI σ' s' ds ls
  | [],[],_=>trivial
  | [],_::_,r=>r.elim
  | _::_,[],r=>r.elim
  | d::ds,l::ls,⟨⟨h1,L,r,h2,g,c⟩,b,f⟩=>by
    obtain⟨B',L',k1,e,a⟩:=h.box l _ L h1 h2;cases B' <;> simp[ij] at a
    exact⟨⟨k1,L',r,e,by grind,c⟩,b,oI.mono h f⟩
def mv:List aV->Bool
  | []=>ab
  | .qV::_=>ae
  | _::r=>mv r
def na:∀ {l:List aV},mv l=ab->∀ B∈l,B≠.qV
  | [],_,B,a=>by grind
  | b::r,h,B,a=>by
    have c:b≠.qV/\mv r=ab:=by cases b <;> simp_all [mv]
    rcases fb.1 a with rfl|a
    · exact c.1
    · exact na c.2 B a
def lU {s:St} {r:Nat} {wr:Bool} {L:Loc} (b:L∈s.β) (a:r∈L.bs):oE s ⟨.obj r,wr,ae⟩:=⟨rfl,.inr ⟨L,b,a⟩⟩
def eZ.one {s:St} {e:Event} (h:oE s e):eZ s #[e]:=by intro x a;grind
def eZ.two {s:St} {e a:Event} (h:oE s e) (b:oE s a):eZ s #[e,a]:=by
  intro x c;grind
section
open Go.Conc (G listed)
def qx(s s':St)(es:Array Event):Prop:=(∃ σ σ',aJ σ s/\aJ σ' s'/\Step σ s σ' s')/\eZ s es
structure Cx (P:aq) where
 main:Bool
 rely:St->St->Prop
 xF:au->St->(au->St->Prop)->Prop
 ik:∀ {s s'},rely s s'->cj s s'
 Bp:Prop
class Cx.jr {P:aq} (X:Cx P):Prop where
 ok:X.Bp
structure eR (s s':St):Prop where
 w:s'.w=s.w
 mem:∀ b o v,s.M b o=aa v->s'.M b o=aa v
 jz:∀ b,(∀ L∈s.β,b∉L.bs)->∀ o,s'.M b o=s.M b o
 cell:∀ b o v,s'.M b o=aa v->s.w.cell? ⟨b,o,af⟩=aa v
 blk:∀ b,(s'.own b∨∃ L∈s'.β,b∈L.bs)->s.own b∨∃ L∈s.β,b∈L.bs
structure mR (s s':St):Prop where
 w:s'.w=s.w
 β:s'.β=s.β
 own:s'.own=s.own
 less:∀ b o v,s'.M b o=aa v->s.M b o=aa v
 mem:∀ b o v,s.M b o=aa v->s'.M b o=aa v∨s.own b
inductive ft {P:aq} (X:Cx P) (S:au->St->Prop):au->St->Prop
 |stop {g:au} {s:St}:S g s->ft X S g s
 |step {g:au} {s:St} (ng:St->au) (ns:St->St) (ne:St->Array Event):g.status=.running ->
   (∀ s1,X.rely s s1->aK P X.main g s1.w=.go (ng s1) (ns s1).w (ne s1))->(∀ s1,X.rely s s1->qx s1 (ns s1) (ne s1))->(∀ s1,X.rely s s1->ft X S (ng s1) (ns s1))->ft X S g s
 |ghost {g:au} {s s':St}:eR s s'->ft X S g s'->ft X S g s
 |forget {g:au} {s s':St}:X.Bp->mR s s'->ft X S g s'->ft X S g s
 |xF {g:au} {s:St} {T:au->St->Prop}:X.xF g s T->(∀ g' s',T g' s'->ft X S g' s')->ft X S g s
section
variable {P:aq}{X:Cx P}{S:au->St->Prop}
def ft.next{g:au}{s:St}(f:g.status=.running)(h:∀ c,X.rely s c->∃ g' s' es,aK P X.main g c.w=.go g' s'.w es/\qx c s' es/\ft X S g' s'):ft X S g s:=by
 classical
 have hh:∀ c,∃ r:au×St×Array Event,X.rely s c->aK P X.main g c.w=.go r.1 r.2.1.w r.2.2/\qx c r.2.1 r.2.2/\ft X S r.1 r.2.1:=by
  intro c
  by_cases e:X.rely s c
  .obtain⟨g',s',es,h1⟩:=h c e;exact⟨(g',s',es),λ_=>h1⟩
  .exact⟨(g,c,#[]),λd=>absurd d e⟩
 refine .step (λc=>(Classical.choose (hh c)).1) (λc=>(Classical.choose (hh c)).2.1) (λc=>(Classical.choose (hh c)).2.2) f ?_ ?_ ?_
 .grind
 .grind
 grind
theorem eR.of{σ σ':List aV}{s s':St}(hh:aJ σ s)(c:aJ σ' s')(f:s'.w=s.w)(st:cD σ s σ' s'):eR s s':=by
 have i:∀ b o v,s'.M b o=aa v->s.w.cell? ⟨b,o,af⟩=aa v:=λb o v h=>by rw[<-f];exact c.mem b o v h
 have d:∀ b o v,s.w.cell? ⟨b,o,af⟩=aa v->b<s.w.heap.size:=by
  intro b o v h;rcases cJ b s.w.heap.size with h1|h1
  .exact h1
  .simp[a9,zo h1] at h
 refine⟨f,st.mem,λb hb o=>?_,i,λb hb=>?_⟩
 .rcases cJ b s.w.heap.size with h1|h1
  .exact st.jz b h1 hb o
  .cases h2:s'.M b o with
   |some v=>grind
   |none=>cases g:s.M b o with
    |none=>rfl
    |some v=>have:=d _ _ _ (hh.mem _ _ _ g);omega
 .rcases hb with hb|⟨L,e,hb⟩
  .exact .inl (by rw[<-st.own];exact hb)
  .rcases st.xC L e b hb with h1|h1
   .have:=c.lt L e b hb;grind
   grind
def aJ.rely{σ:List aV}{s s':St}(hh:aJ σ s)(h:cj s s'):aJ σ s':=by
 have ex:Ext σ s σ s':=h.stepW.ext;have C:∀ v a,gx σ s v a->gx σ s' v a:=λv a r=>r.mono ex hh.len
 refine⟨λb o v x=>h.mem b o v (by rw[<-h.M];exact x),by rw[h.β];exact hh.len,?_,by rw[h.β];exact hh.gg,?_,?_⟩
 .intro l B L j e;rw[h.β] at e;have hb:=hh.box l B L j e;have A:∀ b∈L.bs,s'.w.heap[b]?=s.w.heap[b]?:=λb hb=>h.eN b (.inr ⟨L,bU e,hb⟩)
  cases B with
  |cells E cs =>
   obtain⟨b,vs,h1,h2,c,d⟩:=hb;subst h1;exact⟨b,vs,rfl,by grind,c.mono ex hh.len,λo=>by rw[h.M,d]⟩
  |vec E k n es =>
   obtain⟨h1,h2⟩:=hb;refine⟨by rw[h.M];exact h1,?_⟩
   rcases h2 with⟨h2,c⟩|⟨b,cap,vs,h2,c,d,f⟩
   .exact .inl ⟨h2,by rw[h.M];exact c⟩
   .subst h2;exact .inr ⟨b,cap,vs,rfl,by grind,d,λo q=>by rw[h.M,f o q]⟩
  |dD H =>
   obtain⟨ch,h1,h2,c,d⟩:=hb;refine⟨ch,h1,λb o m=>?_,c,λb g o=>by rw[h.M,d b g]⟩
   grind
  |dead=>trivial
  |loop N φ r =>
   obtain⟨l,tmps,fn,i,h1,h2,c,d,f⟩:=hb;subst h1;exact⟨l,tmps,fn,i,rfl,by grind,c,λt=>(d t).mono ex hh.len,λo=>by rw[h.M,f]⟩
  |qV =>
   obtain⟨r,h1,h2,c⟩:=hb;subst h1;exact⟨r,rfl,by grind,λo=>by rw[h.M,c]⟩
  |buf E k n es =>
   rcases hb with hb|⟨b,p,vs,y,h1,h2,c,d,f,u,z⟩
   .exact .inl hb
   .subst h1;exact .inr ⟨b,p,vs,y,rfl,by grind,c,d,f,by rw[h.M];exact u,λo=>by rw[h.M,z]⟩
 .intro L e b hb;rw[h.β] at e;exact cG (hh.lt L e b hb) h.size
 .intro b hb;rw[h.own] at hb;rw[h.β];exact⟨cG (hh.own b hb).1 h.size,(hh.own b hb).2⟩
def qx.quiet{σ:List aV}{s:St}(hh:aJ σ s):qx s s #[]:=⟨⟨σ,σ,hh,hh,.refl _ _⟩,.nil⟩
def _root_.Go.Frame.aT(b:aR)(a:Act)(todo:List Item):aR:={ b with tmps:=a.tmps,todo:=todo,defers:=a.defers++b.defers,mode:=.run }
variable {b:aR}{a:Act}{k:List Item}{cs:List aR}{w:az}{main:Bool}
def Fw(b:aR)(a:Act)(c:List Item):(b.aT a c).eval=a.eval:=by funext x;cases x <;> rfl
def Fx:aK P main (G (b.aT a (.code .skip::k)) cs) w=.go (G (b.aT a k) cs) w:=by simp[G,aK,stepG.exec,Frame.aT]
def qy{id:Nat}:aK P main (G (b.aT a (.inBlock id::k)) cs) w=.go (G (b.aT a k) cs) w:=by simp[G,aK,stepG.exec,Frame.aT]
theorem nR{x y:Code}:aK P main (G (b.aT a (.code (.seq x y)::k)) cs) w=.go (G (b.aT a (.code x::.code y::k)) cs) w:=by simp[G,aK,stepG.exec,Frame.aT]
def u4{c:an}{x y:Code}{t:Bool}(h:a.eval c=.bool t) :
  aK P main (G (b.aT a (.code (.cond c x y)::k)) cs) w=.go (G (b.aT a (.code (if t then x else y)::k)) cs) w:=by
 have d:(b.aT a (.code (.cond c x y)::k)).eval c=.bool t:=by rw[Fw];exact h
 simp only[Frame.aT] at d;simp[G,aK,stepG.exec,Frame.aT,d]
def rB{id:Nat}{c:Code}:aK P main (G (b.aT a (.code (.block id c)::k)) cs) w=.go (G (b.aT a (.code c::.inBlock id::k)) cs) w:=by simp[G,aK,stepG.exec,Frame.aT]
def Fy{c:Code}:aK P main (G (b.aT a (.code (.loop c)::k)) cs) w=.go (G (b.aT a (.code c::.inLoop c::k)) cs) w:=by simp[G,aK,stepG.exec,Frame.aT]
def yh{c:Code}:aK P main (G (b.aT a (.inLoop c::k)) cs) w=.go (G (b.aT a (.code c::.inLoop c::k)) cs) w:=by simp[G,aK,stepG.exec,Frame.aT]
def zx{id:Nat}{k':List Item}(h:exitTo id k=aa k'):aK P main (G (b.aT a (.code (.exit id)::k)) cs) w=.go (G (b.aT a k') cs) w:=by simp[G,aK,stepG.exec,Frame.aT,h]
def pQ{id:Nat}{ops:Array aw}:aK P main (G (b.aT a (.code (.region id ops ae)::k)) cs) w=.go (G (b.aT a (.inRegion ops (bh ops.size)::k)) cs) w:=by simp[G,aK,stepG.exec,Frame.aT]
def lR{id:Nat}{ops:Array aw}:aK P main (G (b.aT a (.code (.region id ops ab)::k)) cs) w =
  .go (G (b.aT a (.inRegion ops (Region.schedule (P.follows .mixedOrders) ops (w.tape w.drawn (.order b.fn id)))::k)) cs) { w with drawn:=w.drawn+1 }:=by
 simp[G,aK,stepG.exec,Frame.aT,choose,Sem.run,Question.forced,Question.cut]
def iW{ops:Array aw}:aK P main (G (b.aT a (.inRegion ops []::k)) cs) w=.go (G (b.aT a k) cs) w:=by simp[G,aK,stepG.exec,Frame.aT]
def DI(h:b.roundOf=af):aK P main (G (b.aT a (.code .ret::k)) cs) w=.go (G { b.aT a (.code .ret::k) with mode:=.returning } cs) w:=by simp[G,aK,stepG.exec,Frame.aT,h]
def DJ(h:b.roundOf=af):aK P main (G (b.aT a []) cs) w=.go (G { b.aT a [] with mode:=.returning } cs) w:=by simp[G,aK,stepG.exec,Frame.aT,h]
def kg(ops:Array aw)(i:Nat)(rest:List Nat)(v:ak) :
  (b.aT a (.inRegion ops (i::rest)::k)).finish v=b.aT (a.put ((ops[i]?).bind (·.dst)) v) (.inRegion ops rest::k):=by
 cases h:(ops[i]?).bind (·.dst) <;> simp[Frame.finish,Frame.aT,Act.put,h]
def Np{ops:Array aw}{i:Nat}{rest:List Nat}{o:aw}(d:ops[i]?=aa o)(e:bj o (yielded ops a.tmps)=ae) :
  aK P main (G (b.aT a (.inRegion ops (i::rest)::k)) cs) w=.go (G (b.aT (a.put o.dst aj) (.inRegion ops rest::k)) cs) w:=by
 have c:=kg (b:=b) (a:=a) (k:=k) ops i rest aj;rw[d] at c;simp only[nF] at c;rw[<-c];simp[G,aK,stepG.exec,Frame.aT,d,e]
theorem rC{ρ:an->ak}{o:aw}{c:Call}(h:o.op=.defer c){f:Next}{w':az}(e:(ay ρ o).run P w=.ok f w'):∃ d,f=.defer d:=by
 simp only[ay,h,bY] at e;cases g:(resolve ρ c o.type).run P w with
 |ok d w2=>rw[g] at e;simp at e;grind
 |halt x w2=>rw[g] at e;simp at e
def u5{ops:Array aw}{i:Nat}{rest:List Nat}{o:aw}(f:ops[i]?=aa o)(e:bj o (yielded ops a.tmps)=ab)(g:∀ c,o.op≠.defer c) :
  aK P main (G (b.aT a (.inRegion ops (i::rest)::k)) cs) w=stepG.apply P ab (b.aT a (.inRegion ops (i::rest)::k)) cs af (ay a.eval o) w:=by
 have d:=Fw b a (.inRegion ops (i::rest)::k);simp only[Frame.aT] at d;simp[G,aK,stepG.exec,stepG.oper,Frame.oper?,Frame.aT,f,e,d]
 grind
theorem Je{ops:Array aw}{i:Nat}{rest:List Nat}{o:aw}{v:ak}{w':az}(f:ops[i]?=aa o)(h:bj o (yielded ops a.tmps)=ab)
  (j:b.kind≠.early) (g:(ay a.eval o).run P w=.ok (.value v) w') :
  aK P main (G (b.aT a (.inRegion ops (i::rest)::k)) cs) w=.go (G (b.aT (a.put o.dst v) (.inRegion ops rest::k)) cs) w' (listed P b.fn a o w):=by
 have d:=kg (b:=b) (a:=a) (k:=k) ops i rest v;rw[f] at d;simp only[nF] at d;have e:(b.kind==CallKind.early)=ae:=by grind
 rw[u5 f h (λc l=>by grind [rC]),<-d]
 simp[stepG.apply,g,G,Frame.aT,e,GStep.after,listed]
theorem Fz{ops:Array aw}{i:Nat}{rest:List Nat}{o:aw}{w':az}(f:ops[i]?=aa o)(h:bj o (yielded ops a.tmps)=ab)
  (j:b.kind≠.early) (g:(ay a.eval o).run P w=.ok .skip w') :
  aK P main (G (b.aT a (.inRegion ops (i::rest)::k)) cs) w=.go (G (b.aT (a.put o.dst aj) (.inRegion ops rest::k)) cs) w' (listed P b.fn a o w):=by
 have d:=kg (b:=b) (a:=a) (k:=k) ops i rest aj;rw[f] at d;simp only[nF] at d;have e:(b.kind==CallKind.early)=ae:=by grind
 rw[u5 f h (λc l=>by grind [rC]),<-d]
 simp[stepG.apply,g,G,Frame.aT,e,GStep.after,listed]
def oS{ops:Array aw}{i:Nat}{rest:List Nat}{o:aw}{f:aW}{args:Array ak}{w':az}(g:ops[i]?=aa o)(h:bj o (yielded ops a.tmps)=ab)
  (j:b.kind≠.early) (e:(ay a.eval o).run P w=.ok (.enter f args) w') :
  aK P main (G (b.aT a (.inRegion ops (i::rest)::k)) cs) w=.go (G (Frame.enter P f args .normal) (b.aT a (.inRegion ops (i::rest)::k)::cs)) w' (listed P b.fn a o w):=by
 have d:(b.kind==CallKind.early)=ae:=by grind
 rw[u5 g h (λc l=>by grind [rC])]
 simp[stepG.apply,e,G,Frame.aT,d,GStep.after,listed]
structure ux (P:aq)(f:aW)(fr:aR)(v:ak)(s:St):Prop where
 isF:fr.fn=f
 mode:fr.mode=.returning
 defers:fr.defers=[]
 kind:fr.kind=.normal
 fn:∃ fn,P.funcs[fr.fn]?=aa fn/\∀ w,(∀ b o u,s.M b o=aa u->w.cell? ⟨b,o,af⟩=aa u)->(results fn fr.tmps).run P w=.ok v w/\∀ e∈(results fn fr.tmps).events P w #[],∃ b o u,e=⟨.cell ⟨b,o,af⟩,ae,ae⟩/\s.M b o=aa u
def ux.mono{f:aW}{fr:aR}{v:ak}{s s':St}(h:ux P f fr v s)(g:∀ b o u,s.M b o=aa u->s'.M b o=aa u):ux P f fr v s':=by
 obtain⟨h1,h2,c,e,fn,d,i⟩:=h;refine⟨h1,h2,c,e,fn,d,λw j=>?_⟩
 grind
def eZ.seen{s:St}{es:Array Event}{fn:aW}(h:eZ s es):eZ s (seen P fn es):=λe c=>h e (Go.Conc.mem_seen c)
def Jf{f:aW}{g c:aR}{v:ak}{s:St}(h:ux P f g v s)(w:az)(n:∀ b o u,s.M b o=aa u->w.cell? ⟨b,o,af⟩=aa u):∃ es,aK P main (G g (c::cs)) w=.go (G (c.finish v) cs) w es/\∀ e∈es,∃ b o u,e=⟨.cell ⟨b,o,af⟩,ae,ae⟩/\s.M b o=aa u:=by
 obtain⟨fn,i,d⟩:=h.fn;obtain⟨l,m⟩:=d w n;refine⟨seen P g.fn ((results fn g.tmps).events P w #[]),?_,λe j=>m e (Go.Conc.mem_seen j)⟩
 simp[G,aK,unwind,doReturn,h.mode,h.defers,h.kind,i,l,GStep.after]
end
end
section
open Go.Conc (G)
structure cx (N:Nat)(σ:List aV)(s:St)(φ:Fr)(a:Act):Prop where
 size:a.tmps.size=N
 defers:∃ ls,oI σ s a.defers ls
 slot:∀ t,dc σ s (a.tmps.getD t aj) (look φ t)
def cx.mono{N:Nat}{σ σ':List aV}{s s':St}{φ:Fr}{a:Act}(h:cD σ s σ' s')(hl:s.β.length=σ.length)(f:cx N σ s φ a):cx N σ' s' φ a :=
 ⟨f.size,f.defers.imp λ_ h1=>h1.mono h.ext,λt=>(f.slot t).mono h.ext hl⟩
def cx.rely{N:Nat}{σ:List aV}{s s':St}{φ:Fr}{a:Act}(h:cj s s')(hh:aJ σ s)(f:cx N σ s φ a):cx N σ s' φ a:=f.mono h.stepW hh.len
def cx.put{N:Nat}{σ:List aV}{s:St}{φ:Fr}{a:Act}(f:cx N σ s φ a){d:Nat}(c:d<N){v:ak}{x:D}(r:dc σ s v x):cx N σ s ((d,x)::φ) (a.put (aa d) v):=by
 refine⟨by simp[Act.put,f.size],f.defers,λt=>?_⟩
 simp only[Act.put,look]
 by_cases e:d=t
 .subst e;rw[show aG d d=ab from iN d]
  have g:d<a.tmps.size:=by rw[f.size];exact c
  simp only[dG,vn g,fJ,cond];exact r
 .have:aG d t=ae:=by
   grind [Nat.eq_of_beq_eq_true]
  rw[this];have h:=f.slot t;simp only[dG] at h ⊢
  grind
def o8(φ c:Fr):Prop:=∀ σ s v t,dc σ s v (look φ t)->dc σ s v (look c t)
def cx.le{N:Nat}{σ:List aV}{s:St}{φ c:Fr}{a:Act}(h:o8 φ c)(f:cx N σ s φ a):cx N σ s c a :=
 ⟨f.size,f.defers,λt=>h _ _ _ _ (f.slot t)⟩
abbrev Post:=Exit->Fr->List aV->Prop
def ends{P:aq}(X:Cx P)(S:au->St->Prop)(b:aR)(k:List Item)(cs:List aR):Exit->Act->St->Prop
 |.normal,a,s=>ft X S (G (b.aT a k) cs) s
 |.exit id,a,s=>∀ pre,(∀ k',exitTo id (pre++k')=exitTo id k')->ft X S (G (b.aT a (.code (.exit id)::(pre++k))) cs) s
 |.ret,a,s=>∀ pre,ft X S (G (b.aT a (.code .ret::pre)) cs) s
 |.panic ch,a,s=>∀ c,ft X S (G { b.aT a c with mode:=.panicking ch } cs) s
 |_,_,_=>False
section
variable {P:aq}{X:Cx P}{S:au->St->Prop}{b:aR}{k:List Item}{cs:List aR}{a:Act}{s:St}
def ends.cons{x:Item}(d:∀ id k',exitTo id (x::k')=exitTo id k'){e:Exit}(c:e≠.normal)(h:ends X S b k cs e a s):ends X S b (x::k) cs e a s:=by
 cases e with
 |normal=>grind
 |exit id =>
  intro pre hp;have:=h (pre++[x]) (λk'=>by grind)
  grind
 |ret=>exact h
 |panic ch=>exact h
 |goto l=>exact h
 |outgrown=>exact h
def ft.ctl{σ:List aV}{g g':au}(hh:aJ σ s)(d:g.status=.running)(e:∀ w,aK P X.main g w=.go g' w #[])(h:∀ c,cj s c->ft X S g' c):ft X S g s :=
 .next d λc h1=>⟨g',c,#[],e c.w,.quiet (hh.rely (X.ik h1)),h c (X.ik h1)⟩
def pM{σ:List aV}{f:aW}{j c:aR}{cs:List aR}{v:ak}{s:St}(m:aJ σ s)(h:ux P f j v s)(k:∀ d,cj s d->ft X S (G (c.finish v) cs) d):ft X S (G j (c::cs)) s:=by
 refine .next rfl λd l=>?_
 have i:=X.ik l;have g:=m.rely i;obtain⟨es,n,q⟩:=Jf (main:=X.main) (c:=c) (cs:=cs) h d.w i.mem;refine⟨_,d,es,n,⟨⟨σ,σ,g,g,.refl _ _⟩,λe p=>?_⟩,k d i⟩
 obtain⟨b,o,u,rfl,r⟩:=q e p;exact⟨rfl,rfl,.inr (.inr ⟨rfl,u,by rw[i.M];exact r⟩)⟩
def wj{c:Code}(I:Nat->Act->St->Prop)(i:∀ n a s,I n a s->∃ σ,aJ σ s/\∀ d,cj s d->I n a d)
  (round:∀ n a s,I n a s->(∀ a' s' m,m<n->I m a' s'->ft X S (G (b.aT a' (.inLoop c::k)) cs) s')->ft X S (G (b.aT a (.code c::.inLoop c::k)) cs) s) {n:Nat} (l:I n a s) :
  ft X S (G (b.aT a (.code (.loop c)::k)) cs) s:=by
 have key:∀ n a s,I n a s->ft X S (G (b.aT a (.inLoop c::k)) cs) s:=by
  intro n
  induction n using Nat.strongRecOn with
  |_ n o =>
   intro a s hi;obtain⟨σ,g,f⟩:=i n a s hi;exact .ctl g rfl (λw=>yh) λd h=>round n a d (f d h) λa' s' m j e=>o m j a' s' e
 obtain⟨σ,g,f⟩:=i n a s l;exact .ctl g rfl (λw=>Fy) λd h=>round n a d (f d h) λa' s' m _ e=>key m a' s' e
end
def AW{P:aq}(X:Cx P)(N:Nat)(c:Code)(Q:Post)(φ:Fr)(σ:List aV):Prop :=
 ∀ s a,cx N σ s φ a->aJ σ s->∀ (b:aR) (k:List Item) (cs:List aR) (S:au->St->Prop),b.kind≠.early ->
  (∀ e d σ' s' a',Q e d σ'->cx N σ' s' d a'->aJ σ' s'->cD σ s σ' s'->ends X S b k cs e a' s')->ft X S (G (b.aT a (.code c::k)) cs) s
def Names(all:List aw):List Nat->List aw->Prop
 |[],[]=>True
 |i::idx,o::rest=>all.toArray[i]?=aa o/\Names all idx rest
 |_,_=>False
def jB{P:aq}(X:Cx P)(N:Nat)(all rest:List aw)(Q:Fr->List aV->Prop)(φ:Fr)(σ:List aV):Prop :=
 ∀ s a,cx N σ s φ a->aJ σ s->∀ (b:aR) (k:List Item) (cs:List aR) (S:au->St->Prop) (idx:List Nat),b.kind≠.early->Names all idx rest ->
  (∀ c σ' s' a',Q c σ'->cx N σ' s' c a'->aJ σ' s'->cD σ s σ' s'->ft X S (G (b.aT a' k) cs) s')->ft X S (G (b.aT a (.inRegion all.toArray idx::k)) cs) s
section rules
variable {P:aq}{X:Cx P}{N:Nat}{Q:Post}{φ:Fr}{σ:List aV}
def AW.mono{c:Code}{f:Post}(h:AW X N c Q φ σ)(l:∀ e φ σ,Q e φ σ->f e φ σ):AW X N c f φ σ :=
 λs a g hh b k cs S hb hQ=>h s a g hh b k cs S hb λe d σ' s' a' q j i st=>hQ e d σ' s' a' (l _ _ _ q) j i st
def AW.le{c:Code}{d:Fr}(h:AW X N c Q d σ)(hl:o8 φ d):AW X N c Q φ σ :=
 λs a e hh b k cs S hb hQ=>h s a (e.le hl) hh b k cs S hb hQ
def AW.skip(h:Q .normal φ σ):AW X N .skip Q φ σ:=λs a e hh b k cs S _ c =>
 .ctl hh rfl (λ_=>Fx) λd h1=>c .normal φ σ d a h (e.rely h1 hh) (hh.rely h1) h1.stepW
def AW.ret(h:Q .ret φ σ):AW X N .ret Q φ σ:=λs a d hh b k cs S _ c=>c .ret φ σ s a h d hh (.refl _ _) k
theorem AW.exit{id:Nat}(h:Q (.exit id) φ σ):AW X N (.exit id) Q φ σ:=λs a d hh b k cs S _ c=>by
 have:=c (.exit id) φ σ s a h d hh (.refl _ _) [] (λ_=>rfl)
 grind
def FZ(next:Fr->List aV->Prop)(Q:Post):Post
 |.normal,φ,σ=>next φ σ
 |e,φ,σ=>Q e φ σ
def AW.seq{x y:Code}(h:AW X N x (FZ (AW X N y Q) Q) φ σ):AW X N (.seq x y) Q φ σ:=by
 intro s a j hh b k cs S hb hQ;refine .ctl hh rfl (λ_=>nR) λl h1=>?_
 refine h l a (j.rely h1 hh) (hh.rely h1) b (.code y::k) cs S hb ?_;intro e i σ' s' a' q g f st;have c:=h1.stepW.trans st;cases e with
 |normal=>exact q s' a' g f b k cs S hb λe d σ2 s2 a2 q2 f2 h2 oB=>hQ e d σ2 s2 a2 q2 f2 h2 (c.trans oB)
 |_=>exact ends.cons (λ_ _=>rfl) (by simp) (hQ _ _ _ _ _ q g f c)
theorem AW.cond{c:an}{x y:Code}{t:Bool}{u:Nat}(o:c=.tmp u)(hl:look φ u=.e (.one (.c (.bool t))))
  (p:t=ab->AW X N x Q φ σ) (l:t=ae->AW X N y Q φ σ):AW X N (.cond c x y) Q φ σ:=by
 intro s a f hh b k cs S hb hQ;have h:=f.slot u;rw[hl] at h;have j:a.eval c=.bool t:=by
  subst o;generalize j:a.tmps.getD u aj=v at h;simp only[dc,mY,gx] at h;cases h;exact j
 refine .ctl hh rfl (λ_=>u4 j) λi h1=>?_
 have g:∀ e d σ' s' a',Q e d σ'->cx N σ' s' d a'->aJ σ' s'->cD σ i σ' s'->ends X S b k cs e a' s':=λe d σ' s' a' q n m st=>hQ e d σ' s' a' q n m (h1.stepW.trans st)
 cases t
 .exact l rfl i a (f.rely h1 hh) (hh.rely h1) b k cs S hb g
 .exact p rfl i a (f.rely h1 hh) (hh.rely h1) b k cs S hb g
def z8(id:Nat)(Q:Post):Post
 |.exit I7,φ,σ=>if I7=id then Q .normal φ σ else Q (.exit I7) φ σ
 |e,φ,σ=>Q e φ σ
def AW.block{id:Nat}{c:Code}(h:AW X N c (z8 id Q) φ σ):AW X N (.block id c) Q φ σ:=by
 intro s a m hh b k cs S hb hQ;refine .ctl hh rfl (λ_=>rB) λn h1=>?_
 refine h n a (m.rely h1 hh) (hh.rely h1) b (.inBlock id::k) cs S hb ?_;intro e g σ' s' a' q i f st;have d:=h1.stepW.trans st;cases e with
 |normal =>
  exact .ctl f rfl (λ_=>qy) λs2 h2=>hQ .normal g σ' s2 a' q (i.rely h2 f) (f.rely h2) (d.trans h2.stepW)
 |exit I7 =>
  simp only[z8] at q;split at q
  .rename_i e
   subst e;intro pre hp;refine .ctl f rfl (λ_=>zx (k':=k) (by rw[hp];simp[exitTo])) λs2 h2=>?_
   exact hQ .normal g σ' s2 a' q (i.rely h2 f) (f.rely h2) (d.trans h2.stepW)
  .rename_i j
   intro pre hp;have:=hQ (.exit I7) g σ' s' a' q i f d (pre++[.inBlock id]) (λk'=>by
    rw[j8,hp];have:(id==I7)=ae:=by grind
    simp[exitTo,this])
   grind
 |ret=>exact hQ _ _ _ _ _ q i f d
 |panic ch=>exact hQ _ _ _ _ _ q i f d
 |goto l=>exact hQ _ _ _ _ _ q i f d
 |outgrown=>exact hQ _ _ _ _ _ q i f d
def AW.loop{S:Type}{c:Code}(I:S->Prop)(fr:S->Fr)(st:S->List aV)(h:S->Nat)(x:S)(w:I x)(j:o8 φ (fr x))(o:st x=σ)
  (round:∀ x,I x->AW X N c (FZ (λi σ'=>∃ y,I y/\h y<h x/\o8 i (fr y)/\σ'=st y) Q) (fr x) (st x)):AW X N (.loop c) Q φ σ:=by
 intro s a t hh b k cs S hb hQ;subst o;refine wj (λn a' s'=>∃ y,I y/\cx N (st y) s' (fr y) a'/\aJ (st y) s'/\cD (st x) s (st y) s'/\h y=n) ?_ ?_ ⟨x,w,t.le j,hh,.refl _ _,rfl⟩
 .rintro n a' s' ⟨y,m,p,g,d,e⟩;exact⟨st y,g,λB h1=>⟨y,m,p.rely h1 g,g.rely h1,d.trans h1.stepW,e⟩⟩
 rintro n a' s' ⟨y,m,p,g,d,rfl⟩ A;refine round y m s' a' p g b (.inLoop c::k) cs S hb ?_;intro e v σ2 s2 a2 q r h2 oB;cases e with
 |normal =>
  obtain⟨z,u,l,f,rfl⟩:=q;exact A a2 s2 (h z) l ⟨z,u,r.le f,h2,d.trans oB,rfl⟩
 |_=>exact ends.cons (λ_ _=>rfl) (by simp) (hQ _ _ _ _ _ q r h2 (d.trans oB))
end rules
end
def dW.length{σ:List aV}{s:St}{vs:List ak}{cs:List A}(r:dW σ s vs cs):vs.length=cs.length:=by
 induction vs generalizing cs with
 |nil=>cases cs <;> simp_all [dW]
 |cons v vs ih =>
  cases cs with
  |nil=>simp[dW] at r
  |cons a cs=>simp[ih r.2]
def gx.cell{σ:List aV}{s:St}{v:ak}{a:A}(r:gx σ s v a):cZ v=ab:=by
 cases a with
 |c x=>exact Rd.cell r
 |ptr l off=>obtain⟨_,_,_,_,_,rfl⟩:=r;rfl
 |vec l k n es=>exact Rd.cell r.1
 |ref l=>obtain⟨_,_,_,_,h⟩:=r;exact h
 |bp l w=>obtain⟨_,h,_⟩:=r;exact h.cell
 |any=>exact r
theorem dW.get{σ:List aV}{s:St}{vs:List ak}{cs:List A}(r:dW σ s vs cs){j:Nat}{a:A}(h:cs[j]?=aa a):∃ v,vs[j]?=aa v/\gx σ s v a:=by
 induction vs generalizing cs j with
 |nil=>cases cs <;> simp_all [dW]
 |cons v vs ih =>
  cases cs with
  |nil=>grind
  |cons b cs =>
   cases j with
   |zero=>simp at h;subst h;exact⟨v,rfl,r.1⟩
   |succ j=>simp at h;obtain⟨u,d,c⟩:=ih r.2 h;grind
def dW.cell{σ:List aV}{s:St}{vs:List ak}{cs:List A}(r:dW σ s vs cs):∀ v∈vs,v.oneCell'=ab:=by
 induction vs generalizing cs with
 |nil=>simp
 |cons v vs ih =>
  cases cs with
  |nil=>simp[dW] at r
  |cons a cs =>
   intro u b;rcases fb.1 b with rfl|b
   .have:=gx.cell r.1;cases u <;> simp_all [cZ,Value.oneCell']
   .exact ih r.2 u b
def dW.append{σ:List aV}{s:St}{vs vF:List ak}{cs mc:List A}(r:dW σ s vs cs)(r':dW σ s vF mc):dW σ s (vs++vF) (cs++mc):=by
 induction vs generalizing cs with
 |nil=>cases cs <;> simp_all [dW]
 |cons v vs ih =>
  cases cs with
  |nil=>simp[dW] at r
  |cons a cs=>exact⟨r.1,ih r.2⟩
def dW.take{σ:List aV}{s:St}{vs:List ak}{cs:List A}(r:dW σ s vs cs)(k:Nat):dW σ s (vs.take k) (cs.take k):=by
 induction vs generalizing cs k with
 |nil=>cases cs <;> simp_all [dW]
 |cons v vs ih =>
  cases cs with
  |nil=>simp[dW] at r
  |cons a cs=>cases k with
   |zero=>simp[dW]
   |succ k=>exact⟨r.1,ih r.2 k⟩
def dW.drop{σ:List aV}{s:St}{vs:List ak}{cs:List A}(r:dW σ s vs cs)(k:Nat):dW σ s (vs.drop k) (cs.drop k):=by
 induction vs generalizing cs k with
 |nil=>cases cs <;> simp_all [dW]
 |cons v vs ih =>
  cases cs with
  |nil=>simp[dW] at r
  |cons a cs=>cases k with
   |zero=>exact r
   |succ k=>simpa using ih r.2 k
def aJ.block{σ:List aV}{s:St}(h:aJ σ s){b o:Nat}{v:ak}(a:s.M b o=aa v):b<s.w.heap.size:=by
 have:=h.mem b o v a;rcases cJ b s.w.heap.size with h|h
 .exact h
 .simp[a9,zo h] at this
def aJ.same{σ:List aV}{s:St}(h:aJ σ s){w':az}(f:w'.heap=s.w.heap):aJ σ { s with w:=w' }:=by
 have z:∀ a,w'.cell? a=s.w.cell? a:=λa=>by simp[a9,f]
 have y:∀ v a,gx σ s v a->gx σ { s with w:=w' } v a:=λv a r=>by cases a <;> exact r
 have g:∀ vs al,dW σ s vs al->dW σ { s with w:=w' } vs al:=by
  intro vs
  induction vs with
  |nil=>intro al r;cases al <;> simp_all [dW]
  |cons v vs ih=>intro al r;cases al with
   |nil=>simp[dW] at r
   |cons a al=>exact⟨y _ _ r.1,ih _ r.2⟩
 refine⟨λb o v u=>by rw[z];exact h.mem b o v u,h.len,?_,h.gg,λL g b hb=>by show b<w'.heap.size;rw[f];exact h.lt L g b hb,λb hb=>⟨by show b<w'.heap.size;rw[f];exact(h.own b hb).1,(h.own b hb).2⟩⟩
 intro l B L j e;have:=h.box l B L j e;cases B with
 |cells E cs =>
  obtain⟨b,vs,h1,h2,c,d⟩:=this;exact⟨b,vs,h1,by grind,g _ _ c,d⟩
 |vec E k n es =>
  obtain⟨h1,h2⟩:=this;refine⟨h1,?_⟩
  grind
 |dD H =>
  obtain⟨ch,h1,h2,c,d⟩:=this;exact⟨ch,h1,λb o hb=>by grind,c,d⟩
 |dead=>trivial
 |loop N φ r =>
  obtain⟨l,tmps,fn,i,h1,h2,c,d,p⟩:=this;exact⟨l,tmps,fn,i,h1,by grind,c,λt=>dc.mono (s:=s) (σ':=σ) (s':={ s with w:=w' }) ⟨λ_ _ _ h=>h,λ_ B L h q=>⟨B,L,h,q,.refl _ _⟩⟩ h.len (d t),p⟩
 |qV =>
  obtain⟨r,h1,h2,c⟩:=this;exact⟨r,h1,by grind,c⟩
 |buf E k n es =>
  rcases this with h1|⟨b,m,vs,x,h1,h2,c⟩
  .exact .inl h1
  .exact .inr ⟨b,m,vs,x,h1,by grind,c⟩
def Step.same{σ:List aV}{s:St}{w':az}(f:w'.heap=s.w.heap)(c:w'.os=s.w.os)(e:w'.tape=s.w.tape)(d:w'.output=s.w.output):Step σ s σ { s with w:=w' } :=
 ⟨by grind,λb _ _=>by grind,λ_ _ _ h=>h,λ_ _ _ _=>rfl,λL h b hb=>.inr ⟨L,h,hb⟩,λ_ B L h a=>⟨B,L,h,a,.refl _ _⟩,c,e,d,rfl⟩
def eP.carry{σ σ':List aV}{s s':St}{B:aV}{L:Loc}(d:Ext σ s σ' s')(hl:s.β.length=σ.length)(hb:∀ b∈L.bs,s'.w.heap[b]?=s.w.heap[b]?/\∀ o,s'.M b o=s.M b o)(h:eP σ s B L):eP σ' s' B L:=by
 cases B with
 |cells E cs =>
  obtain⟨b,vs,h1,h2,a,c⟩:=h;subst h1;obtain⟨k1,f⟩:=hb b (by simp)
  exact⟨b,vs,rfl,by grind,a.mono d hl,λo=>by grind⟩
 |vec E k n es =>
  obtain⟨h1,h2⟩:=h;refine⟨h1.mono d.mem,?_⟩;rcases h2 with⟨h2,a⟩|⟨b,cap,vs,h2,a,c,e⟩
  .exact .inl ⟨h2,a.mono d.mem⟩
  grind
 |dD H =>
  obtain⟨ch,h1,h2,a,c⟩:=h;refine⟨ch,h1,λb o j=>?_,a,λb i o=>by grind⟩
  grind
 |dead=>trivial
 |loop N φ r =>
  obtain⟨l,tmps,fn,g,h1,h2,a,c,e⟩:=h;subst h1;obtain⟨k1,f⟩:=hb l (by simp)
  exact⟨l,tmps,fn,g,rfl,by grind,a,λt=>(c t).mono d hl,λo=>by grind⟩
 |qV =>
  obtain⟨r,h1,h2,a⟩:=h;subst h1;obtain⟨k1,f⟩:=hb r (by simp)
  exact⟨r,rfl,by grind,λo=>by grind⟩
 |buf E k n es =>
  rcases h with h1|⟨b,m,vs,p,h1,h2,a,c,e,q,u⟩
  .exact .inl h1
  .subst h1;obtain⟨k1,f⟩:=hb b (by simp)
   exact .inr ⟨b,m,vs,p,rfl,by grind,a,c,e,q.mono d.mem,λo=>by grind⟩
def St.fM(s:St)(E:ar)(vs:List ak):St :=
 { β:=s.β++[⟨.pointer (aa ⟨s.w.heap.size,0,af⟩),[s.w.heap.size]⟩],M:=s.M,w:=s.w.alloc (.cells vs.toArray E),own:=s.own }
theorem cK(w:az)(o:Obj){b:Nat}(h:b<w.heap.size):(w.alloc o).heap[b]?=w.heap[b]?:=by
 show (w.heap.push o)[b]?=w.heap[b]?
 grind
theorem dx(w:az)(o:Obj):(w.alloc o).heap[w.heap.size]?=aa o:=by
 show (w.heap.push o)[w.heap.size]?=aa o;simp
def Step.fM{σ:List aV}(s:St)(E:ar)(vs:List ak)(B:aV):Step σ s (σ++[B]) (s.fM E vs):=by
 refine⟨by simp[St.fM],?_,λ_ _ _ h=>h,λ_ _ _ _=>rfl,?_,?_,rfl,rfl,rfl,rfl⟩
 .intro b hb _;exact cK _ _ hb
 .intro L c b hb;simp only[St.fM,gC,kY] at c
  grind
 .intro l B' L a c;have hl:l<s.β.length:=(cr.1 c).1;have d:l<σ.length:=(cr.1 a).1;exact⟨B',L,by grind,by simp only[St.fM];grind,.refl _ _⟩
def aJ.fM{σ:List aV}{s:St}(h:aJ σ s){E:ar}{vs:List ak}{cs:List A}(r:dW σ s vs cs):aJ (σ++[.cells E cs]) (s.fM E vs):=by
 have st:=Step.fM (σ:=σ) s E vs (.cells E cs);have i:(s.fM E vs).w.heap.size=s.w.heap.size+1:=by simp[St.fM]
 refine⟨?_,by simp[St.fM,h.len],?_,?_,?_,?_⟩
 .intro b o v e;have hb:=h.block e;have:=h.mem b o v e;rw[<-this];simp only[a9,St.fM]
  grind [cK]
 .intro l B L g a;rcases Nat.lt_trichotomy l σ.length with f|rfl|j
  .rw[jD f] at g;simp only[St.fM] at a;rw[jD (by rw[h.len];exact f)] at a
   refine(h.box l B L g a).carry st.ext h.len λb hb=>⟨?_,λ_=>rfl⟩
   have:=h.lt L (bU a) b hb;exact cK _ _ this
  .simp at g;subst g;simp only[St.fM] at a;rw[gk (by rw[h.len];grind)] at a
   simp[h.len] at a;subst a;refine⟨s.w.heap.size,vs,rfl,dx _ _,r.mono st.ext h.len,λo=>?_⟩
   cases e:s.M s.w.heap.size o with
   |none=>exact e
   |some v=>have:=h.block e;omega
  grind
 .intro l l' L L' a d b hb oO;simp only[St.fM] at a d;have c:∀ l L,(s.β++[⟨.pointer (aa ⟨s.w.heap.size,0,af⟩),[s.w.heap.size]⟩])[l]?=aa L->(s.β[l]?=aa L)∨(l=s.β.length/\L.bs=[s.w.heap.size]):=by
   grind
  rcases c l L a with h1|⟨rfl,h1⟩ <;> rcases c l' L' d with h2|⟨rfl,h2⟩
  .exact h.gg l l' L L' h1 h2 b hb oO
  .have:=h.lt L (bU h1) b hb;grind
  .have:=h.lt L' (bU h2) b oO;grind
  .rfl
 .intro L a b hb;rw[i];simp only[St.fM,gC,kY] at a;rcases a with a|rfl
  .have:=h.lt L a b hb;omega
  grind
 .intro b hb;obtain⟨m,k⟩:=h.own b hb;refine⟨by grind,λL a=>?_⟩
  simp only[St.fM,gC,kY] at a
  grind
def aJ.grow{σ:List aV}{s:St}(h:aJ σ s){M':Mem}{w':az}(a:s.w.heap.size<=w'.heap.size)(f:∀ b,b<s.w.heap.size->w'.heap[b]?=s.w.heap[b]?)
  (d:∀ b,b<s.w.heap.size->∀ o,M' b o=s.M b o) (n:∀ b,s.w.heap.size<=b->∀ o v,M' b o=aa v->w'.cell? ⟨b,o,af⟩=aa v)
  (j:w'.os=s.w.os) (m:w'.tape=s.w.tape) (k:w'.output=s.w.output):aJ σ ⟨s.β,M',w',s.own⟩/\Step σ s σ ⟨s.β,M',w',s.own⟩:=by
 have st:Step σ s σ ⟨s.β,M',w',s.own⟩ :=
  ⟨a,λb hb _=>f b hb,λb o v e=>by rw[<-e];exact d b (h.block e) o,λb hb _ o=>d b hb o,λL h b hb=>.inr ⟨L,h,hb⟩,λ_ B L h i=>⟨B,L,h,i,.refl _ _⟩,j,m,k,rfl⟩
 refine⟨⟨?_,h.len,?_,h.gg,λL c b hb=>cG (h.lt L c b hb) a,λb hb=>⟨cG (h.own b hb).1 a,(h.own b hb).2⟩⟩,st⟩
 .intro b o v e;rcases cJ b s.w.heap.size with hb|hb
  .have hm':s.M b o=aa v:=by grind
   rw[<-h.mem b o v hm'];simp only[a9]
   grind
  grind
 .intro l B L g c;exact(h.box l B L g c).carry st.ext h.len λb hb=>⟨f b (h.lt L (bU c) b hb),λo=>d b (h.lt L (bU c) b hb) o⟩
def aJ.write{σ:List aV}{s:St}(h:aJ σ s){l b:Nat}{L:Loc}{E:ar}{cs mc:List A}{a:List ak}(i:σ[l]?=aa (.cells E cs))(c:s.β[l]?=aa L)(f:L.bs=[b])
  (r:dW σ s a mc):aJ (σ.set l (.cells E mc)) { s with w:=s.w.setRow b a.toArray }/\Step σ s (σ.set l (.cells E mc)) { s with w:=s.w.setRow b a.toArray }:=by
 have d:l<σ.length:=(cr.1 i).1;obtain⟨g,vs,h1,h2,p,m⟩:=h.box l _ L i c;subst h1;simp at f;subst f;have st:Step σ s (σ.set l (.cells E mc)) { s with w:=s.w.setRow g a.toArray }:=by
  refine⟨by simp,?_,λ_ _ _ h=>h,λ_ _ _ _=>rfl,λL h b hb=>.inr ⟨L,h,hb⟩,?_,rfl,rfl,rfl,rfl⟩
  .intro b hb hn;exact setRow_other _ _ _ _ (λe=>hn _ (bU c) (by simp[e]))
  .intro l' B L' ot gw
   by_cases e:l=l'
   .subst e;rw[i] at ot;cases ot;exact⟨_,L',by rw[fI d],gw,by simp[ij]⟩
   .exact⟨B,L',by grind,gw,.refl _ _⟩
 refine⟨⟨?_,by simp[h.len],?_,h.gg,λL c b hb=>by simpa using h.lt L c b hb,λb hb=>by simpa using h.own b hb⟩,st⟩
 .intro b o v n;have k:b≠g:=λe=>by grind
  rw[<-h.mem b o v n];simp only[a9]
  grind [setRow_other]
 .intro l' B L' ot gw
  by_cases e:l=l'
  .subst e;rw[fI d] at ot;cases ot;rw[c] at gw;cases gw;exact⟨g,a,rfl,setRow_heap _ _ _ _ _ _ h2,r.mono st.ext h.len,m⟩
  .rw[iL e] at ot;refine(h.box l' B L' ot gw).carry st.ext h.len λb hb=>⟨setRow_other _ _ _ _ λj=>?_,λ_=>rfl⟩
   subst j;exact e (h.gg l l' _ L' c gw b (by simp) hb)
section
open Go.Conc (G)
def Rr(σ:List aV)(s:St):Next->D->Prop
 |.value v,x=>dc σ s v x
 |.skip,x=>x=.any
 |_,_=>False
def bH(P:aq)(o:aw)(b:an->D)(σ:List aV)(x:D)(σ':List aV):Prop :=
 ∀ s ρ,aJ σ s->(∀ y,dc σ s (ρ y) (b y))->∃ a s',(ay ρ o).run P s.w=.ok a s'.w/\Rr σ' s' a x/\aJ σ' s'/\Step σ s σ' s'/\eZ s ((ay ρ o).events P s.w #[])
def bH.nS{P:aq}{o:aw}{a:an->D}{σ:List aV}{x:D}
  (h:∀ s ρ,aJ σ s->(∀ y,dc σ s (ρ y) (a y))->∃ v,(ay ρ o).run P s.w=.ok (.value v) s.w/\dc σ s v x/\eZ s ((ay ρ o).events P s.w #[])):bH P o a σ x σ :=
 λs ρ hh hr=>let ⟨v,h1,h2,b⟩:=h s ρ hh hr;⟨.value v,s,h1,h2,hh,.refl _ _,b⟩
def bH.quiet{P:aq}{o:aw}{a:an->D}{σ:List aV}{x:D}
  (h:∀ s ρ,aJ σ s->(∀ y,dc σ s (ρ y) (a y))->∃ v,(ay ρ o).run P s.w=.ok (.value v) s.w/\dc σ s v x/\(ay ρ o).events P s.w #[]=#[]):bH P o a σ x σ :=
 λs ρ hh hr=>let ⟨v,h1,h2,b⟩:=h s ρ hh hr;⟨.value v,s,h1,h2,hh,.refl _ _,by rw[b];exact .nil⟩
def N6:IntKind->Int->Bool
 |.i64,.ofNat m=>bo m 9223372036854775807
 |.i64,.negSucc m=>bo m 9223372036854775807
 |.u8,.ofNat m=>bo m 255
 |.i32,.ofNat m=>bo m 2147483647
 |.i32,.negSucc m=>bo m 2147483647
 |.u64,.ofNat m=>bo m 18446744073709551615
 |.u32,.ofNat m=>bo m 4294967295
 |_,_=>ae
def Rt{k:IntKind}{n:Int}(h:N6 k n=ab):bx k n:=by
 cases k <;> cases n <;> simp only[N6,bx] at h ⊢ <;> first|(cases h;done)|(have:=db h;grind)
def qi:ak->Option C
 |.int k n=>cond (N6 k n) (aa (.int k n)) af
 |.bool b=>aa (.bool b)
 |.string s=>cond (bo s.size 9223372036854775807) (aa (.str s.data.toList)) af
 |.slice af 0 0=>aa (.sl ab 0 0 (λ_=>[]))
 |.pointer af=>aa .km
 |.nilIface=>aa .nV
 |.nilFunc=>aa .zA
 |.map m=>aa (.val (.map m))
 |_=>af
theorem Rd.jJ{M:Mem}{t:Bool}{k:Nat}{a:Option Addr}{es:Nat->List C}:Rd M (.slice a 0 0) (.sl t k 0 es) :=
 Rd.sl 0 0 (λ_ _=>aj) (bg _) (by omega) (λ_=>rfl) (by omega) (by omega) (by omega) (by omega)
def Rd.qi{M:Mem}{v:ak}{c:C}(h:qi v=aa c):Rd M v c:=by
 unfold AM.qi at h;split at h <;> first
  |(rename_i k n;cases hb:N6 k n <;> rw[hb] at h <;> cases h;exact .int (Rt hb))
  |(rename_i s;cases hb:bo s.size 9223372036854775807 <;> rw[hb] at h <;> cases h;exact .str rfl (by rw[jg];exact db hb))
  |(cases h;done)
  |(cases h;exact .bool)
  |(cases h;exact Rd.jJ)
  |(cases h;exact .km)
  |(cases h;exact .nV)
  |(cases h;exact .zA)
  |(cases h;exact .val rfl)
def dOf:Option C->D
 |some c=>.e (.one (.c c))
 |none=>.any
def b5(φ:Fr):an->D
 |.tmp t=>look φ t
 |.const v=>dOf (qi v)
 |.func f=>.e (.one (.c (.fn (.func f) [] [])))
 |.global _=>.any
theorem dX{N:Nat}{σ:List aV}{s:St}{φ:Fr}{a:Act}(f:cx N σ s φ a)(y:an):dc σ s (a.eval y) (b5 φ y):=by
 cases y with
 |tmp t=>exact f.slot t
 |const v =>
  simp only[b5,Act.eval];cases h:qi v with
  |none=>trivial
  |some c=>exact Rd.qi h
 |func g =>
  exact Rd.fn [] [] rfl rfl (λ_=>aj) (λ_=>aj) (by simp) (by simp) (by simp) (by simp)
 |global g=>trivial
def lC:Option Nat->D->Fr->Fr
 |some t,x,φ=>(t,x)::φ
 |none,_,φ=>φ
def zV{P:aq}{X:Cx P}{S:au->St->Prop}{b:aR}{k:List Item}{cs:List aR}{a:Act}{s:St}{ops:Array aw}{i:Nat}{rest:List Nat}{o:aw}(n:b.kind≠.early)(m:ops[i]?=aa o)(p:bj o (yielded ops a.tmps)=ab)
  (h:∀ c,cj s c->∃ d s' v,(ay a.eval o).run P c.w=.ok d s'.w/\(d=.value v∨(d=.skip/\v=aj))/\qx c s' ((ay a.eval o).events P c.w #[])/\ft X S (G (b.aT (a.put o.dst v) (.inRegion ops rest::k)) cs) s') :
  ft X S (G (b.aT a (.inRegion ops (i::rest)::k)) cs) s:=by
 refine .next rfl λc j=>?_
 obtain⟨d,s',v,l,g,e,f⟩:=h c (X.ik j);refine⟨_,s',Go.Conc.listed P b.fn a o c.w,?_,⟨e.1,e.2.seen⟩,f⟩
 grind [Je,Fz]
theorem bH.move{P:aq}{o:aw}{a:an->D}{σ:List aV}{x:an}(h:o.op=.move x):bH P o a σ (a x) σ :=
 .quiet λs ρ _ b=>⟨ρ x,by simp[ay,h,pure],b x,by simp[ay,h]⟩
theorem bH.assign{P:aq}{o:aw}{a:an->D}{σ:List aV}{x:an}(h:o.op=.assign x):bH P o a σ (a x) σ :=
 .quiet λs ρ _ b=>⟨ρ x,by simp[ay,h,pure],b x,by simp[ay,h]⟩
def fy{σ:List aV}{s:St}{v:ak}{c:C}(h:dc σ s v (.e (.one (.c c)))):Rd s.M v c:=h
def bH.pick{P:aq}{o:aw}{d:an->D}{σ:List aV}{c a b:an}(h:o.op=.pick c a b){t:Bool}(i:d c=.e (.one (.c (.bool t)))) :
  bH P o d σ (match t with|true=>d a|false=>d b) σ:=by
 refine .quiet λs ρ _ g=>?_
 have h1:=g c;rw[i] at h1;have h2:=fy h1;generalize f:ρ c=v at h2;cases h2;cases t
 .exact⟨ρ b,by simp[ay,h,f,asBool],g b,by simp[ay,h,f,asBool]⟩
 .exact⟨ρ a,by simp[ay,h,f,asBool],g a,by simp[ay,h,f,asBool]⟩
def Ki(op:BinOp)(k:IntKind) (x y:Int):Option (C×List Prop) :=
 match op with
 |.add=>aa (.int k (x+y),[bx k (x+y)])
 |.sub=>aa (.int k (x-y),[bx k (x-y)])
 |.mul=>aa (.int k (x*y),[bx k (x*y)])
 |.quo=>aa (.int k (x / y),[0<=x,0<y])
 |.rem=>aa (.int k (x % y),[0<=x,0<y])
 |.eql=>aa (.bool (x==y),[])
 |.neq=>aa (.bool (x != y),[])
 |.lss=>aa (.bool (decide (x<y)),[])
 |.leq=>aa (.bool (decide (x<=y)),[])
 |.gtr=>aa (.bool (decide (y<x)),[])
 |.geq=>aa (.bool (decide (y<=x)),[])
 |_=>af
def Kj(op:BinOp)(x y:List UInt8):Option (C×List Prop) :=
 match op with
 |.add=>aa (.str (x++y),[x.length+y.length<=9223372036854775807])
 |.eql=>aa (.bool (x==y),[])
 |.neq=>aa (.bool (!(x==y)),[])
 |.lss=>aa (.bool (bl x y),[])
 |.leq=>aa (.bool (bl x y||x==y),[])
 |.gtr=>aa (.bool (!(bl x y||x==y)),[])
 |.geq=>aa (.bool (!(bl x y)),[])
 |_=>af
def ag:List Prop->Prop
 |[]=>True
 |[p]=>p
 |p::q::r=>p/\ag (q::r)
def ag.cons{p:Prop}{r:List Prop}:ag (p::r)↔p/\ag r:=by cases r <;> simp[ag]
theorem mq{k:IntKind}{n:Int}(h:bx k n):k.wrap n=n:=by
 cases k <;> simp only[bx,IntKind.wrap,IntKind.bits,IntKind.signed] at h ⊢ <;> simp <;> (try split) <;> omega
def Kk{P:aq}{w:az}{op:BinOp}{k:IntKind}{x y:Int}{c:C}{obs:List Prop}(h:Ki op k x y=aa (c,obs))(a:ag obs)(j:bx k x)(g:bx k y)(t:ar)(M:Mem) :
  ∃ v,(binOp op t (.int k x) (.int k y)).run P w=.ok v w/\Rd M v c:=by
 cases op <;> simp only[Ki,di,k8,reduceCtorEq] at h
 case add=>obtain⟨rfl,rfl⟩:=h;exact⟨_,by simp only[binOp,cW,fu,cd,Op.intArith,mq a];rfl,.int a⟩
 case sub=>obtain⟨rfl,rfl⟩:=h;exact⟨_,by simp only[binOp,cW,fu,cd,Op.intArith,mq a];rfl,.int a⟩
 case mul=>obtain⟨rfl,rfl⟩:=h;exact⟨_,by simp only[binOp,cW,fu,cd,Op.intArith,mq a];rfl,.int a⟩
 case quo =>
  obtain⟨rfl,rfl⟩:=h;obtain⟨d,b⟩:=a
  replace b:0<y:=b
  have e:x.tdiv y=x / y:=Int.tdiv_eq_ediv_of_nonneg d;have f:bx k (x / y):=by
   have l:0<=x / y:=Int.ediv_nonneg d (by omega)
   have i:x / y<=x:=Int.ediv_le_self _ d;cases k <;> simp only[bx] at j ⊢ <;> omega
  exact⟨_,by simp only[binOp,cW,fu,cd,Op.intDiv,show y≠0 by omega,e,mq f];rfl,.int f⟩
 case rem =>
  obtain⟨rfl,rfl⟩:=h;obtain⟨d,b⟩:=a
  replace b:0<y:=b
  have e:x.tmod y=x % y:=Int.tmod_eq_emod_of_nonneg d;have f:bx k (x % y):=by
   have l:0<=x % y:=rn _ (by omega)
   have i:x % y<y:=ri _ b;cases k <;> simp only[bx] at g ⊢ <;> omega
  exact⟨_,by simp only[binOp,cW,fu,cd,Op.intDiv,show y≠0 by omega,e];rfl,.int f⟩
 all_goals (obtain⟨rfl,rfl⟩:=h;exact⟨_,by simp only[binOp,cW,fu,cd,Op.intCmp,gt_iff_lt,ge_iff_le];rfl,.bool⟩)
def Kl{P:aq}{w:az}{op:BinOp}{x y:ByteArray}{a b:List UInt8}{c:C}{obs:List Prop}(h:Kj op a b=aa (c,obs))(d:ag obs)(i:x.data.toList=a)(f:y.data.toList=b)(t:ar)(M:Mem) :
  ∃ v,(binOp op t (.string x) (.string y)).run P w=.ok v w/\Rd M v c:=by
 subst i f;cases op <;> simp only[Kj,di,k8,reduceCtorEq] at h
 case add =>
  obtain⟨rfl,rfl⟩:=h;have j:¬((x.size+y.size:Nat):Int)>IntKind.i64.max:=by
   have l:x.data.toList.length=x.size:=jg;have k:y.data.toList.length=y.size:=jg;have e:IntKind.i64.max=9223372036854775807:=rfl;have g:x.data.toList.length+y.data.toList.length<=9223372036854775807:=d
   grind
  refine⟨_,by simp only[binOp,Op.stringOp,j,cd];rfl,.str (by simp) (by simpa[ag] using d)⟩
 all_goals (obtain⟨rfl,rfl⟩:=h;exact⟨_,by simp only[binOp,Op.stringOp,ByteArray.toList_eq];rfl,.bool⟩)
def N7{P:aq}{w:az}{op:BinOp}{k:IntKind}{x y:Int}{c:C}{obs:List Prop}(h:Ki op k x y=aa (c,obs))(b:ag obs)(t:ar) :
  (binOp op t (.int k x) (.int k y)).events P w #[]=#[]:=by
 cases op <;> simp only[Ki,di,k8,reduceCtorEq] at h
 case quo =>
  obtain⟨rfl,rfl⟩:=h;obtain⟨d,a⟩:=b
  replace a:0<y:=a
  simp only[binOp,cW,fu,cd,Op.intDiv,show y≠0 by omega];rfl
 case rem =>
  obtain⟨rfl,rfl⟩:=h;obtain⟨d,a⟩:=b
  replace a:0<y:=a
  simp only[binOp,cW,fu,cd,Op.intDiv,show y≠0 by omega];rfl
 all_goals (simp only[binOp,cW,fu,cd,Op.intCmp,Op.intArith];rfl)
def N8{P:aq}{w:az}{op:BinOp}{x y:ByteArray}{a b:List UInt8}{c:C}{obs:List Prop}(h:Kj op a b=aa (c,obs))(f:ag obs)(i:x.data.toList=a)(d:y.data.toList=b)(t:ar) :
  (binOp op t (.string x) (.string y)).events P w #[]=#[]:=by
 subst i d;cases op <;> simp only[Kj,di,k8,reduceCtorEq] at h
 case add =>
  obtain⟨rfl,rfl⟩:=h;have j:¬((x.size+y.size:Nat):Int)>IntKind.i64.max:=by
   have l:x.data.toList.length=x.size:=jg;have k:y.data.toList.length=y.size:=jg;have e:IntKind.i64.max=9223372036854775807:=rfl;have g:x.data.toList.length+y.data.toList.length<=9223372036854775807:=f
   grind
  simp only[binOp,Op.stringOp,j,cd];rfl
 all_goals (simp only[binOp,Op.stringOp];rfl)
def Hd:IntKind->IntKind->Bool
 |.i8,.i8|.i16,.i16|.i32,.i32|.i64,.i64|.u8,.u8|.u16,.u16|.u32,.u32|.u64,.u64=>ab
 |_,_=>ae
def Ab{k k':IntKind}(h:Hd k k'=ab):k=k':=by cases k <;> cases k' <;> first|rfl|(cases h;done)
def NH(op:BinOp):C->C->Option (C×List Prop)
 |.int k x,.int k' y=>cond (Hd k k') (Ki op k x y) af
 |.str a,.str b=>Kj op a b
 |_,_=>af
def gA{P:aq}(op:BinOp)(t:ar)(x y:an)(k k':IntKind) (n a:Int)(u:az):(eqGuard op t x y (.int k n) (.int k' a)).run P u=.ok () u:=by cases op <;> rfl
def tX{P:aq}(op:BinOp)(t:ar)(x y:an)(a b:ByteArray)(u:az):(eqGuard op t x y (.string a) (.string b)).run P u=.ok () u:=by cases op <;> rfl
def jK{P:aq}(op:BinOp)(t:ar)(x y:an)(k k':IntKind) (n a:Int)(u:az)(es:Array Event):(eqGuard op t x y (.int k n) (.int k' a)).events P u es=es:=by cases op <;> rfl
def wv{P:aq}(op:BinOp)(t:ar)(x y:an)(a b:ByteArray)(u:az)(es:Array Event):(eqGuard op t x y (.string a) (.string b)).events P u es=es:=by cases op <;> rfl
theorem bH.binOp{P:aq}{o:aw}{p:an->D}{σ:List aV}{op:BinOp}{t ty:ar}{x y:an}(h:o.op=.binOp op t x y ty){a b c:C}{obs:List Prop}
  (z:p x=.e (.one (.c a))) (hb:p y=.e (.one (.c b))) (g:NH op a b=aa (c,obs)) (i:ag obs):bH P o p σ (.e (.one (.c c))) σ:=by
 refine .quiet λs ρ _ q=>?_
 have h1:=q x;have h2:=q y;rw[z] at h1;rw[hb] at h2
 replace h1:=fy h1
 replace h2:=fy h2
 generalize d:ρ x=vx at h1;generalize f:ρ y=vy at h2;cases h1 <;> cases h2 <;> simp only[NH,reduceCtorEq] at g
 case int.int k n hn k' n' WU =>
  cases r:Hd k k' <;> simp only[r,cond,reduceCtorEq] at g
  cases Ab r;obtain⟨v,m,j⟩:=Kk (P:=P) (w:=s.w) g i hn WU t s.M;exact⟨v,by simp only[ay,h,bY,d,f,gA,b9,m,cY],j,by simp[ay,h,d,f,gA,jK,N7 g i]⟩
 case str.str =>
  rename_i A l u hl y' l' hy Bl
  obtain⟨v,m,j⟩:=Kl (P:=P) (w:=s.w) g i u hy t s.M;exact⟨v,by simp only[ay,h,bY,d,f,tX,b9,m,cY],j,by simp[ay,h,d,f,tX,wv,N8 g i u hy]⟩
def V6(op:UnOp):C->Option C
 |.bool b=>match op with|.not=>aa (.bool (!b))|_=>af
 |_=>af
theorem bH.unOp{P:aq}{o:aw}{f:an->D}{σ:List aV}{op:UnOp}{t:ar}{x:an}(h:o.op=.unOp op t x){a c:C}
  (g:f x=.e (.one (.c a))) (d:V6 op a=aa c):bH P o f σ (.e (.one (.c c))) σ:=by
 refine .quiet λs ρ _ i=>?_
 have h1:=i x;rw[g] at h1
 replace h1:=fy h1
 generalize b:ρ x=vx at h1;cases h1 <;> simp only[V6,reduceCtorEq] at d
 cases op <;> simp only[reduceCtorEq,di] at d
 subst d;exact⟨_,by simp only[ay,h,b,Op.unary,bY,cY,b9],Rd.bool,by simp[ay,h,b,Op.unary]⟩
theorem gJ.get{σ:List aV}{s:St}{vs:List ak}{xs:List E1}(r:gJ σ s vs xs){j:Nat}{x:E1}(h:xs[j]?=aa x):∃ v,vs[j]?=aa v/\mY σ s v x:=by
 induction vs generalizing xs j with
 |nil=>cases xs <;> simp_all [gJ]
 |cons v vs ih =>
  cases xs with
  |nil=>grind
  |cons b cs =>
   cases j with
   |zero=>simp at h;subst h;exact⟨v,rfl,r.1⟩
   |succ j=>simp at h;obtain⟨u,c,a⟩:=ih r.2 h;grind
theorem bH.extract{P:aq}{o:aw}{c:an->D}{σ:List aV}{x:an}{j:Nat}(h:o.op=.extract x j){xs:List E1}{e:E1}
  (d:c x=.eK xs) (g:xs[j]?=aa e):bH P o c σ (.e e) σ:=by
 refine .quiet λs ρ _ f=>?_
 have h1:=f x;rw[d] at h1;obtain⟨vs,k,i⟩:=h1;obtain⟨v,a,b⟩:=i.get g;refine⟨v,?_,b,?_⟩ <;> simp[ay,h,k,Instr.extract,a]
end
def zw (b o:Nat):Event:=⟨.cell ⟨b,o,af⟩,ae,ae⟩
def GU (b o:Nat):Event:=⟨.cell ⟨b,o,af⟩,ab,ae⟩
theorem dj (b o n:Nat):(⟨b,o,af⟩:Addr).add n=⟨b,o+n,af⟩:=by
  unfold Addr.add;split <;> simp_all
section
variable {P:aq}
def zz {w:az} {b o:Nat} {v:ak} (h:w.cell? ⟨b,o,af⟩=aa v) (es:Array Event):(load ⟨b,o,af⟩).events P w es=es.push (zw b o):=by
  rw[events_load,h];rfl
def nh {w:az} {b o:Nat}:∀ (n i:Nat) (acc:Array ak) (es:Array Event),(∀ j,j<n->∃ v,w.cell? ⟨b,o+(i+j),af⟩=aa v) ->
    ∀ e∈(loadCellsFrom ⟨b,o,af⟩ i n acc).events P w es,e∈es∨∃ j,j<i+n/\e=zw b (o+j)
  | 0,i,acc,es,_=>λe h=>.inl (by simpa[loadCellsFrom] using h)
  | n+1,i,acc,es,c=>λe h=>by
    obtain⟨v,a⟩:=c 0 (by omega)
    simp only[iO] at a;simp only[loadCellsFrom,aO,dj,run_load,a,aU,zz a] at h;rcases nh n (i+1) (acc.push v) _ (λj d=>by grind) e h with f|⟨j,d,rfl⟩
    · grind
    grind
def rA {w:az} {b o n:Nat} {es:Array Event} (h:∀ j,j<n->∃ v,w.cell? ⟨b,o+j,af⟩=aa v):∀ e∈(loadCells ⟨b,o,af⟩ n).events P w es,e∈es∨∃ j,j<n/\e=zw b (o+j):=by
  intro e a;have:=nh (P:=P) n 0 #[] es (by grind) e a
  grind
def eE {b o:Nat} {t:ar}:∀ (vs:List ak) (i:Nat) (a:Array ak) (w:az) (es:Array Event),w.heap[b]?=aa (.cells a t (0,0))->o+i+vs.length<=a.size->(∀ v∈vs,v.oneCell'=ab) ->
    ∀ e∈(storeCells ⟨b,o,af⟩ vs i).events P w es,e∈es∨∃ j,i<=j/\j<i+vs.length/\e=GU b (o+j)
  | [],_,_,_,_,_,_,_=>λe h=>.inl (by simpa[storeCells] using h)
  | v::rest,i,a,w,es,k,r,l=>λe h=>by
    have hi:o+i<a.size:=by grind
    have c:w.cell? ⟨b,o+i,af⟩=aa a[o+i]:=by simp[a9,k,hi]
    have d:w.frozen? ⟨b,o+i,af⟩=ae:=by simp[World.frozen?,k]
    have g:(store (⟨b,o+i,af⟩:Addr) v).run P w=.ok () (w.setRow b (a.setIfInBounds (o+i) v)):=by
      grind [run_store,setCell_eq_setRow]
    have f:(store (⟨b,o+i,af⟩:Addr) v).events P w es=es.push (GU b (o+i)):=by
      rw[events_store P w es _ v _ (l v (by simp)),c]
      simp only[d,jE,cd];rfl
    simp only[storeCells,aO,dj,g,f,aU] at h;rcases eE rest (i+1) (a.setIfInBounds (o+i) v) _ _ (setRow_heap _ _ _ _ _ _ k) (by grind) (λu q=>l u (by grind)) e h with p|⟨j,m,n,rfl⟩
    · grind
    grind
def cO {α:Type} (P:aq) (m:Sem α):Prop:=∀ w es,m.events P w es=es
def cO.bind {α β:Type} {m:Sem α} {f:α->Sem β} (h:cO P m) (k:∀ a,cO P (f a)):cO P (m >>= f):=by
  intro w es;rw[aO,h w es];cases m.run P w with
  | ok a w'=>exact k a w' es
  | halt x w'=>rfl
def cO.pure {α:Type} {a:α}:cO P (Pure.pure a:Sem α):=λ_ _=>rfl
def cO.stuck {α:Type} {a:String}:cO P (Go.stuck a:Sem α):=λ_ _=>rfl
def cO.unsupported {α:Type} {u:Unsupported}:cO P (Go.unsupported u:Sem α):=λ_ _=>rfl
def cO.sizeOf {t:ar}:cO P (sizeOf t):=λ_ _=>events_sizeOf ..
def cO.underlying {t:ar}:cO P (underlying t):=λ_ _=>events_underlying ..
def cO.zeroValue {t:ar}:cO P (zeroValue t):=λ_ _=>events_zeroValue ..
def cO.newObj {o:Obj}:cO P (newObj o):=λ_ _=>rfl
def cO.newRow {t:ar} {c:Array ak}:cO P (newRow t c):=.bind .newObj λ_=>.pure
def cO.PR {α β:Type} {f:α->Sem β} (h:∀ a,cO P (f a)):∀ l:List α,cO P (l.mapM f)
  | []=>by rw[List.mapM_nil];exact .pure
  | a::l=>by rw[lA];exact .bind (h a) λ_=>.bind (cO.PR h l) λ_=>.pure
def cO.map {α β:Type} {f:α->β} {m:Sem α} (h:cO P m):cO P (Functor.map f m):=λw es=>by rw[Sem.events_map];exact h w es
def cO.T7 {α β:Type} {f:α->Sem β} (h:∀ a,cO P (f a)) (l:Array α):cO P (l.mapM f):=by
  rw[qv];exact .map (.PR h _)
def cO.JG {α β:Type} {F:α->β->Sem (ForInStep β)} (h:∀ a b,cO P (F a b)):∀ (l:List α) (b:β),cO P (forIn l b F)
  | [],b=>by rw[List.forIn_nil];exact .pure
  | a::l,b=>by
    rw[List.forIn_cons];refine .bind (h a b) λr=>?_
    cases r with
    | done b=>exact .pure
    | yield b=>exact cO.JG h l b
theorem cO.build {t:ar} {parts:Array (Nat×ak)}:cO P (Instr.build t parts):=by
  unfold Instr.build;refine .bind .zeroValue λz=>.bind .underlying λd=>?_
  cases d <;> first
    | exact .stuck
    | (refine .bind (.T7 (λ_=>.bind .sizeOf λ_=>.pure) _) λpl=>?_
       split
       · exact .pure
       · exact .stuck)
    | (refine .bind .sizeOf λn=>?_
       split
       · exact .pure
       · exact .stuck)
theorem cO.buildSlice {t:ar} {n:Nat} {parts:Array (Nat×ak)}:cO P (Instr.buildSlice t n parts):=by
  unfold Instr.buildSlice;refine .bind .underlying λd=>?_
  cases d <;> first
    | exact .stuck
    | (refine .bind .sizeOf λm=>?_
       dsimp only
       have hj:∀ (elem:ar) (zero:Array ak),cO P (match Instr.fill (λi=>aa (i*m,m)) (Array.map (λx=>zero[x % zero.size]!) (Array.range (n*m))) parts.toList with
          | some cells=>do
            let a<-Go.newRow elem cells
            Pure.pure (Value.slice (aa a) n n)
          | _=>Go.stuck "buildSlice: a part of the wrong size"):=by
         intro elem zero;split
         · exact .bind .newRow λ_=>.pure
         · exact .stuck
       by_cases b:n*m=0
       · simp only[b,cu]
         rw[b] at hj;split
         · grind
         · exact .bind .pure λz=>hj _ z
       · simp only[b,cd]
         split
         · exact .bind .unsupported λ_=>.bind .zeroValue λz=>.bind .pure λz=>hj _ z
         · exact .bind .zeroValue λz=>.bind .pure λz=>hj _ z)
def rE {s:St} {b o:Nat} {L:Loc} (c:L∈s.β) (a:b∈L.bs):oE s (zw b o):=⟨rfl,rfl,.inr (.inl ⟨⟨L,c,a⟩,λh=>by cases h⟩)⟩
def Bo {s:St} {b o:Nat} {v:ak} (h:s.M b o=aa v):oE s (zw b o):=⟨rfl,rfl,.inr (.inr ⟨rfl,v,h⟩)⟩
theorem mn {s:St} {b o:Nat} {L:Loc} (d:L∈s.β) (c:b∈L.bs) (a:s.M b o=af):oE s (GU b o):=⟨rfl,rfl,.inr (.inl ⟨⟨L,d,c⟩,λ_=>a⟩)⟩
end
structure TI where
 size:Nat
 bytes:Nat
 agg:Bool
 desc:TypeDesc
 zero:List C
 eq:List TypeDesc:=[]
def qJ:TypeDesc->ak->ak->Option Bool
 |.int _,.int k a,.int k' b=>if k=k' then aa (a==b) else af
 |.string,.string a,.string b=>aa (a.toList==b.toList)
 |.bool,.bool a,.bool b=>aa (a==b)
 |_,_,_=>af
def jQ:List TypeDesc->List ak->List ak->Option Bool
 |[],[],[]=>aa ab
 |d::ds,v::vs,w::ws=>match qJ d v w with
  |some a=>match jQ ds vs ws with
   |some b=>aa (a&&b)
   |none=>af
  |none=>af
 |_,_,_=>af
def Km:TypeDesc->Bool
 |.struct _|.array _ _=>ab
 |_=>ae
structure bJ (P:aq)(t:ar)(i:TI):Prop where
 Tg:P.underlying t=aa i.desc
 agg:Km i.desc=i.agg
 info:∃ inf z,P.info? t=aa inf/\inf.size=i.size/\inf.bytes=i.bytes/\inf.zero=aa z/\z.cells.toList.map qi=i.zero.map aa/\(∃ cs,z=if i.agg then .agg cs else z)/\i.zero.length=i.size
 eqs:i.eq≠[]->P.eqGuardType P.depth t=ae/\∀ (w:az) (vs ws:List ak) (b:Bool),jQ i.eq vs ws=aa b->(Op.equal t (.agg vs.toArray) (.agg ws.toArray)).run P w=.ok b w/\∀ es,(Op.equal t (.agg vs.toArray) (.agg ws.toArray)).events P w es=es
def bF:List (Nat×TI)->Nat->Option TI
 |[],_=>af
 |(i,d)::r,t=>cond (aG i t) (aa d) (bF r t)
def dg(P:aq)(T:List (Nat×TI)):Prop:=∀ t i,bF T t=aa i->bJ P t i
section
variable {P:aq}{w:az}{t:ar}{i:TI}
def bJ.run_underlying(h:bJ P t i):(underlying t).run P w=.ok i.desc w:=by
 simp[underlying,h.Tg]
def bJ.ki(h:bJ P t i):(isAgg t).run P w=.ok i.agg w:=by
 have:=h.agg;unfold Go.isAgg;rw[bY,h.run_underlying];cases a:i.desc <;> rw[a] at this <;> simp[Km] at this <;> simp[this]
def bJ.run_sizeOf(h:bJ P t i):(sizeOf t).run P w=.ok i.size w:=by
 obtain⟨a,z,h1,h2,_⟩:=h.info;simp[sizeOf,typeInfo,h1,h2]
def kK{σ:List aV}{s:St}:∀ {vs:List ak}{cs:List C},vs.map qi=cs.map aa->dW σ s vs (cs.map A.c)
 |[],[],_=>trivial
 |[],_::_,h=>by grind
 |_::_,[],h=>by grind
 |v::vs,c::cs,h=>by
  simp only[ru,List.cons.injEq] at h;exact⟨Rd.qi h.1,kK h.2⟩
def bJ.B6(h:bJ P t i)(σ:List aV)(s:St):∃ z,(zeroValue t).run P w=.ok z w/\dW σ s z.cells.toList (i.zero.map A.c):=by
 obtain⟨a,z,h1,h2,e,d,b,_⟩:=h.info;exact⟨z,by simp[zeroValue,typeInfo,h1,d],kK b⟩
end
def mT:D->Option (List A)
 |.e (.one a)=>aa [a]
 |.e (.agg cs)=>aa cs
 |_=>af
theorem m6{σ:List aV}{s:St}{v:ak}{d:D}{cs:List A}(h:mT d=aa cs)(r:dc σ s v d):dW σ s v.cells.toList cs:=by
 cases d with
 |e x =>
  cases x with
  |one a =>
   cases h;have:=gx.cell r;cases v <;> first|exact⟨r,av⟩|cases this
  |agg c =>
   cases h;obtain⟨vs,rfl,b⟩:=r;simpa[Value.cells] using b
 |eK xs=>cases h
 |any=>cases h
def bH.newVar{P:aq}{o:aw}{a:an->D}{σ:List aV}{E:ar}{cs:List A}
  (h:∀ s ρ,aJ σ s->(∀ y,dc σ s (ρ y) (a y))->∃ v:ak,(ay ρ o).run P s.w=((do pure (.value (.pointer (aa (<-newVar E v))))):Sem Next).run P s.w/\dW σ s v.cells.toList cs/\(ay ρ o).events P s.w #[]=#[]) :
  bH P o a σ (.e (.one (.ptr σ.length 0))) (σ++[.cells E cs]):=by
 intro s ρ hh hr;obtain⟨v,h1,h2,b⟩:=h s ρ hh hr;refine⟨.value (.pointer (aa ⟨s.w.heap.size,0,af⟩)),s.fM E v.cells.toList,?_,?_,hh.fM h2,.fM s E _ _,by rw[b];exact .nil⟩
 .rw[h1];simp[Go.newVar,newRow,St.fM]
 .refine⟨by simp,⟨.pointer (aa ⟨s.w.heap.size,0,af⟩),[s.w.heap.size]⟩,s.w.heap.size,?_,rfl,rfl⟩
  simp[St.fM,<-hh.len]
theorem bH.alloc{P:aq}{T:List (Nat×TI)}(d:dg P T){o:aw}{f:an->D}{σ:List aV}{E:ar}(h:o.op=.alloc E){i:TI}(hi:bF T E=aa i) :
  bH P o f σ (.e (.one (.ptr σ.length 0))) (σ++[.cells E (i.zero.map A.c)]):=by
 refine .newVar λs ρ _ _=>?_
 obtain⟨z,a,b⟩:=(d E i hi).B6 (w:=s.w) σ s;exact⟨z,by simp[ay,h,Instr.alloc,a],b,by simp[ay,h,Instr.alloc,a,Go.newVar,newRow]⟩
theorem bH.box{P:aq}{o:aw}{a:an->D}{σ:List aV}{E:ar}{x:an}(h:o.op=.box E x){cs:List A}(c:mT (a x)=aa cs) :
  bH P o a σ (.e (.one (.ptr σ.length 0))) (σ++[.cells E cs]) :=
 .newVar λs ρ _ b=>⟨ρ x,by simp[ay,h,Instr.box],m6 c (b x),by simp[ay,h,Instr.box,Go.newVar,newRow]⟩
def ov{α:Type}:Nat->List α->Option (List α)
 |0,_=>aa []
 |n+1,x::xs=>match ov n xs with|some r=>aa (x::r)|none=>af
 |_+1,[]=>af
def m9{α:Type}:∀ {n:Nat}{l r:List α},ov n l=aa r->r=l.take n/\r.length=n
 |0,l,r,h=>by cases h;simp
 |n+1,[],r,h=>by simp[ov] at h
 |n+1,x::xs,r,h=>by
  simp only[ov] at h;cases a:ov n xs with
  |none=>grind
  |some q =>
   simp[a] at h;subst h;obtain⟨b,c⟩:=m9 a
   grind
def fw{α:Type}:Nat->List α->Option α
 |_,[]=>af
 |0,x::_=>aa x
 |n+1,_::xs=>fw n xs
theorem dz{α:Type}:∀ {n:Nat}{l:List α}{x:α},fw n l=aa x->l[n]?=aa x
 |_,[],_,h=>by simp[fw] at h
 |0,x::_,_,h=>by simpa[fw] using h
 |n+1,_::xs,_,h=>by simpa using dz (n:=n) (l:=xs) h
def hJ{α:Type}:Nat->List α->List α
 |0,l=>l
 |_+1,[]=>[]
 |n+1,_::xs=>hJ n xs
def nk{α:Type}:∀ (n:Nat)(l:List α),hJ n l=l.drop n
 |0,_=>by simp[hJ]
 |_+1,[]=>by simp[hJ]
 |n+1,_::xs=>by simp[hJ,nk n xs]
def m8(i:TI)(cs:List A):Option E1 :=
 match i.agg with
 |true=>match ov i.size cs with|some r=>aa (.agg r)|none=>af
 |false=>match fw 0 cs with|some a=>aa (.one a)|none=>af
def pe{P:aq}{σ:List aV}{s:St}{t:ar}{i:TI}(l:bJ P t i){b off:Nat}{vs:List ak}{cs:List A}{e:E1}
  (x:∀ (j:Nat) (v:ak),vs[j]?=aa v->s.w.cell? ⟨b,off+j,af⟩=aa v) (k:dW σ s vs cs) (f:m8 i cs=aa e) :
  ∃ v,(loadVar t ⟨b,off,af⟩).run P s.w=.ok v s.w/\mY σ s v e:=by
 simp only[loadVar,bY,l.ki,b9];cases m:i.agg <;> simp only[m8,m] at f
 .cases d:fw 0 cs with
  |none=>grind
  |some a =>
   simp[d] at f;subst f;obtain⟨v,u,h⟩:=k.get (dz d);refine⟨v,?_,h⟩
   grind [run_load]
 .cases d:ov i.size cs with
  |none=>grind
  |some r =>
   simp[d] at f;subst f;obtain⟨n,o⟩:=m9 d;have c:=k.take i.size;rw[<-n] at c;have p:(vs.take i.size).length=i.size:=by rw[c.length,o]
   have g:=run_loadCells_list (P:=P) s.w ⟨b,off,af⟩ (vs.take i.size) (λj v q=>by
    grind [dj])
   rw[p] at g;refine⟨.agg (vs.take i.size).toArray,?_,vs.take i.size,rfl,c⟩;simp[l.run_sizeOf,g]
def kl{P:aq}{w:az}{t:ar}{i:TI}(g:bJ P t i){b off n:Nat}(k:∀ j,j<n->∃ v,w.cell? ⟨b,off+j,af⟩=aa v)(c:(if i.agg then i.size else 1)<=n) :
  ∀ e∈(loadVar t ⟨b,off,af⟩).events P w #[],∃ j,j<n/\e=zw b (off+j):=by
 intro e a;simp only[loadVar,aO,g.ki,aU,events_isAgg] at a;cases d:i.agg
 .rw[d] at c a;obtain⟨v,f⟩:=k 0 (by grind)
  simp only[iO] at f;simp only[jE,cd,zz f] at a;rcases Array.mem_push.1 a with h|rfl
  .grind
  .exact⟨0,by grind,rfl⟩
 .rw[d] at c a;simp only[cu] at c;simp only[cu,aO,g.run_sizeOf,aU,events_sizeOf] at a;have key:∀ e∈(loadCells ⟨b,off,af⟩ i.size).events P w #[],∃ j,j<n/\e=zw b (off+j):=by
   intro e a;rcases rA (P:=P) (λj l=>k j (by omega)) e a with h|⟨j,l,rfl⟩
   .grind
   grind
  apply key
  generalize (loadCells ⟨b,off,af⟩ i.size).run P w=r at a;cases r with
  |ok v w'=>simpa using a
  |halt x w'=>simpa using a
theorem rM{i:TI}{cs:List A}{e:E1}(h:m8 i cs=aa e):(if i.agg then i.size else 1)<=cs.length:=by
 unfold m8 at h;cases b:i.agg <;> rw[b] at h
 .cases cs with
  |nil=>simp[fw] at h
  |cons c cs=>simp
 .simp only at h;cases a:ov i.size cs with
  |none=>grind
  |some r =>
   obtain⟨d,f⟩:=m9 a
   grind
theorem bH.FP{P:aq}{T:List (Nat×TI)}(y:dg P T){o:aw}{B:an->D}{σ:List aV}{t:ar}{x:an}(h:o.op=.load t x){l off:Nat}{E:ar}{cs:List A}{i:TI}{e:E1}
  (G:B x=.e (.one (.ptr l off))) (F:σ[l]?=aa (.cells E cs)) (hi:bF T t=aa i) (q:m8 i (hJ off cs)=aa e):bH P o B σ (.e e) σ:=by
 refine .nS λs ρ hh hr=>?_
 have h1:=hr x;rw[G] at h1;obtain⟨_,L,b,C,d,u⟩:=h1;obtain⟨k,vs,rfl,z,f,_⟩:=hh.box l _ L F C;simp at d;subst d;rw[nk] at q;obtain⟨v,g,m⟩:=pe (s:=s) (σ:=σ) (P:=P) (y t i hi) (b:=k) (off:=off) (vs:=vs.drop off) (cs:=cs.drop off) (e:=e) (λj v hj=>by
  simp only[a9,z]
  grind) (f.drop off) q
 refine⟨v,by simp[ay,h,u,Instr.loadAt,Instr.sureAddr,g],m,λp c=>?_⟩
 have a:p∈(loadVar t ⟨k,off,af⟩).events P s.w #[]:=by
  have e:ay ρ o=(do pure (.value (<-loadVar t ⟨k,off,af⟩))):=by simp[ay,h,u,Instr.loadAt,Instr.sureAddr]
  rw[e] at c;simpa[g] using c
 have r:(vs.drop off).length=(cs.drop off).length:=(f.drop off).length;obtain⟨j,hj,rfl⟩:=kl (y t i hi) (n:=(vs.drop off).length) (λj hj=>by
  refine⟨(vs.drop off)[j],?_⟩;simp only[a9,z];simp at hj ⊢ <;> omega) (by grind [rM]) p a
 exact rE (bU C) (by simp)
theorem bH.JO{P:aq}{T:List (Nat×TI)}(B:dg P T){o:aw}{E:an->D}{σ:List aV}{t:ar}{x:an}(h:o.op=.load t x){cs:List C}{i:TI}{e:E1}
  (F:E x=.e (.one (.c (.rp cs)))) (hi:bF T t=aa i) (z:m8 i (cs.map A.c)=aa e):bH P o E σ (.e e) σ:=by
 refine .nS λs ρ hh hr=>?_
 have h1:=hr x;rw[F] at h1;have h2:=fy h1;generalize g:ρ x=vx at h2;cases h2
 rename_i b off f q G
 have p:∀ (n:Nat) (ds:List C),(∀ j c,ds[j]?=aa c->Rd s.M (f (n+j)) c)->dW σ s ((bh ds.length).map λj=>f (n+j)) (ds.map A.c):=by
  intro n ds
  induction ds generalizing n with
  |nil=>intro _;trivial
  |cons d ds ih =>
   intro u;rw[fa,zn];refine⟨u 0 d rfl,?_⟩;have:=ih (n+1) (λj c hj=>by have:=u (j+1) c (by grind);grind)
   grind [Function.comp_def]
 obtain⟨v,l,r⟩:=pe (s:=s) (σ:=σ) (P:=P) (B t i hi) (b:=b) (off:=off) (vs:=(bh cs.length).map λj=>f (0+j)) (cs:=cs.map A.c) (e:=e) (λj v hj=>by
  simp only[nE,bt] at hj
  by_cases m:j<cs.length
  .simp[m] at hj;subst hj;exact hh.mem _ _ _ (q j cs[j] (br m))
  grind) (p 0 cs (by grind)) z
 refine⟨v,by simp[ay,h,g,Instr.loadAt,Instr.sureAddr,l],r,λy k=>?_⟩
 have a:y∈(loadVar t ⟨b,off,af⟩).events P s.w #[]:=by
  have e:ay ρ o=(do pure (.value (<-loadVar t ⟨b,off,af⟩))):=by simp[ay,h,g,Instr.loadAt,Instr.sureAddr]
  rw[e] at k;simpa[l] using k
 obtain⟨j,hj,rfl⟩:=kl (B t i hi) (n:=cs.length) (λj hj=>⟨f j,hh.mem _ _ _ (q j cs[j] (br hj))⟩) (by have:=rM z;grind) y a
 exact Bo (q j cs[j] (br hj))
def eX{α:Type}:Nat->List α->List α->Option (List α)
 |0,[],l=>aa l
 |0,n::ns,_::cs=>match eX 0 ns cs with|some r=>aa (n::r)|none=>af
 |k+1,ns,c::cs=>match eX k ns cs with|some r=>aa (c::r)|none=>af
 |_,_,[]=>af
def pZ{α:Type}:∀ {off:Nat}{new l r:List α},eX off new l=aa r->off+new.length<=l.length/\r=l.take off++new++l.drop (off+new.length)
 |0,[],l,r,h=>by cases l <;> cases h <;> simp
 |0,n::ns,c::cs,r,h=>by
  simp only[eX] at h;cases a:eX 0 ns cs with
  |none=>grind
  |some q =>
   simp[a] at h;subst h;obtain⟨b,d⟩:=pZ a
   grind
 |0,n::ns,[],r,h=>by simp[eX] at h
 |k+1,ns,c::cs,r,h=>by
  simp only[eX] at h;cases a:eX k ns cs with
  |none=>grind
  |some q =>
   simp[a] at h;subst h;obtain⟨b,d⟩:=pZ a
   grind
 |k+1,ns,[],r,h=>by simp[eX] at h
def dW.eX{σ:List aV}{s:St}{off:Nat}{vs new:List ak}{cs Ru r:List A}(h:AM.eX off Ru cs=aa r)(h1:dW σ s vs cs)(h2:dW σ s new Ru) :
  off+new.length<=vs.length/\dW σ s (vs.take off++new++vs.drop (off+new.length)) r:=by
 obtain⟨k1,rfl⟩:=pZ h;rw[h2.length,h1.length];refine⟨k1,((h1.take off).append h2).append (by have:=h1.drop (off+Ru.length);exact this)⟩
theorem bH.store{P:aq}{T:List (Nat×TI)}(B:dg P T){o:aw}{p:an->D}{σ:List aV}{t:ar}{x y:an}(h:o.op=.store t x y){l off:Nat}{E:ar}{cs new mc:List A}{i:TI}
  (M:p x=.e (.one (.ptr l off))) (C:σ[l]?=aa (.cells E cs)) (hi:bF T t=aa i) (K:mT (p y)=aa new) (hn:new.length=i.size) (J:eX off new cs=aa mc) :
  bH P o p σ .any (σ.set l (.cells E mc)):=by
 intro s ρ hh hr;have h1:=hr x;rw[M] at h1;obtain⟨_,L,b,q,g,G⟩:=h1;obtain⟨n,vs,rfl,F,u,f⟩:=hh.box l _ L C q;simp at g;subst g;have a:=m6 K (hr y);obtain⟨k1,I⟩:=dW.eX J u a;obtain⟨w1,w2⟩:=hh.write C q rfl I;refine⟨.skip,_,?_,rfl,w1,w2,?_⟩
 rotate_left
 .intro z c;have d:(ρ y).cells.size=i.size:=by rw[<-hn,<-a.length,jg]
  have e:ay ρ o=(do storeVar t ⟨n,off,af⟩ (ρ y);pure .skip):=by simp[ay,h,G,Instr.storeAt,Instr.sureAddr]
  rw[e] at c;have m:z∈(storeCells ⟨n,off,af⟩ (ρ y).cells.toList).events P s.w #[]:=by
   simp only[storeVar,aO,(B t i hi).run_sizeOf,d,aU,events_sizeOf,cW,fu,cd,bY,b9,Sem.events_pure] at c;generalize (storeCells ⟨n,off,af⟩ (ρ y).cells.toList).run P s.w=r at c;cases r with
   |ok v w'=>simpa using c
   |halt x w'=>simpa using c
  rcases eE (ρ y).cells.toList 0 vs.toArray s.w #[] F (by grind) a.cell z m with H|⟨j,_,_,rfl⟩
  .grind
  .exact mn (bU q) (by simp) (f _)
 have k:=run_storeCells_at P n off E (ρ y).cells.toList 0 vs.toArray s.w F (by grind) (a.cell)
 have d:(ρ y).cells.size=i.size:=by rw[<-hn,<-a.length,jg]
 simp only[iO] at k;simp[ay,h,G,Instr.storeAt,Instr.sureAddr,storeVar,(B t i hi).run_sizeOf,d,k]
def jM(T:List (Nat×TI))(t:ar)(f:Nat):Option (Nat×TI) :=
 match bF T t with
 |some i=>match i.desc with
  |.struct fs=>match fw f fs.toList with
   |some fl=>match bF T fl.type with
    |some j=>cond (aG j.size 0) af (aa (fl.offset,j))
    |none=>af
   |none=>af
  |_=>af
 |none=>af
def tk{P:aq}{T:List (Nat×TI)}(b:dg P T){t:ar}{f off:Nat}{j:TI}(h:jM T t f=aa (off,j)) :
  ∃ i fs fl,bF T t=aa i/\i.desc=.struct fs/\fs[f]?=aa fl/\fl.offset=off/\bF T fl.type=aa j/\j.size≠0/\bJ P t i/\bJ P fl.type j:=by
 unfold jM at h;split at h
 .rename_i i hi
  split at h
  .rename_i fs WM
   split at h
   .rename_i fl hfl
    split at h
    .rename_i d c
     cases a:aG d.size 0 <;> simp[a] at h
     obtain⟨rfl,rfl⟩:=h;refine⟨i,fs,fl,hi,WM,by simpa using dz hfl,rfl,c,?_,b _ _ hi,b _ _ c⟩
     intro e;rw[e] at a;cases a
    grind
   grind
  grind
 grind
def mF{P:aq}{T:List (Nat×TI)}(d:dg P T){t:ar}{f off:Nat}{j:TI}(h:jM T t f=aa (off,j))(b o:Nat)(w:az) :
  (Instr.fieldAt t (.pointer (aa ⟨b,o,af⟩)) f).run P w=.ok (.pointer (aa ⟨b,o+off,af⟩)) w:=by
 obtain⟨i,fs,l,n,e,a,c,m,g,k,g2⟩:=tk d h;simp[Instr.fieldAt,k.run_underlying,e,a,Instr.sureAddr,fieldPlace,g2.run_sizeOf,g,dj,c]
def n8{P:aq}{T:List (Nat×TI)}(c:dg P T){t:ar}{f off:Nat}{j:TI}(h:jM T t f=aa (off,j))(b o:Nat)(w:az)(es:Array Event) :
  (Instr.fieldAt t (.pointer (aa ⟨b,o,af⟩)) f).events P w es=es:=by
 obtain⟨i,fs,k,n,d,a,m,l,e,g,g2⟩:=tk c h;simp[Instr.fieldAt,g.run_underlying,d,a,Instr.sureAddr,fieldPlace,g2.run_sizeOf,e]
def bH.rW{P:aq}{T:List (Nat×TI)}(g:dg P T){o:aw}{i:an->D}{σ:List aV}{t:ar}{x:an}{f:Nat}(h:o.op=.fieldAddr t x f){l off k:Nat}{j:TI}
  (m:i x=.e (.one (.ptr l off))) (c:jM T t f=aa (k,j)):bH P o i σ (.e (.one (.ptr l (off+k)))) σ:=by
 refine .quiet λs ρ hh hr=>?_
 have h1:=hr x;rw[m] at h1;obtain⟨hn,L,b,n,a,d⟩:=h1;exact⟨.pointer (aa ⟨b,off+k,af⟩),by simp[ay,h,d,mF g c],⟨hn,L,b,n,a,rfl⟩,by simp[ay,h,d,n8 g c]⟩
theorem bH.tR{P:aq}{T:List (Nat×TI)}(g:dg P T){o:aw}{i:an->D}{σ:List aV}{t:ar}{x:an}{f:Nat}(h:o.op=.fieldAddr t x f){cs:List C}{k:Nat}{j:TI}
  (m:i x=.e (.one (.c (.rp cs)))) (d:jM T t f=aa (k,j)):bH P o i σ (.e (.one (.c (.rp (hJ k cs))))) σ:=by
 refine .quiet λs ρ hh hr=>?_
 have h1:=hr x;rw[m] at h1;have h2:=fy h1;generalize a:ρ x=vx at h2;cases h2
 rename_i b o l p n
 refine⟨.pointer (aa ⟨b,o+k,af⟩),by simp[ay,h,a,mF g d],?_,by simp[ay,h,a,n8 g d]⟩
 rw[nk];refine Rd.rp b (o+k) (λj=>l (k+j)) (λj c hj=>?_) (λj c hj=>?_)
 .grind
 grind
def Kn{σ:List aV}{s:St}{P:aq}{t:ar}{i:TI}(g:bJ P t i){vs:List ak}{cs:List A}(r:dW σ s vs cs){off:Nat}{e:E1}(b:m8 i (hJ off cs)=aa e)(w:az) :
  ∃ v,(part t vs.toArray off).run P w=.ok v w/\mY σ s v e/\∀ es,(part t vs.toArray off).events P w es=es:=by
 simp only[part,bY,g.ki,b9,aO,aU,events_isAgg];rw[nk] at b;cases j:i.agg <;> simp only[m8,j] at b
 .cases c:fw 0 (cs.drop off) with
  |none=>grind
  |some a =>
   simp[c] at b;subst b;obtain⟨v,h,f⟩:=(r.drop off).get (dz c);simp at h;refine⟨v,?_,f,λes=>?_⟩ <;> simp[h]
 .cases c:ov i.size (cs.drop off) with
  |none=>grind
  |some q =>
   simp[c] at b;subst b;obtain⟨k,l⟩:=m9 c;have d:=(r.drop off).take i.size;rw[<-k] at d;refine⟨.agg (vs.toArray.extract off (off+i.size)),by simp[g.run_sizeOf],⟨(vs.drop off).take i.size,?_,d⟩,λes=>by simp⟩
   simp
theorem bH.field{P:aq}{T:List (Nat×TI)}(u:dg P T){o:aw}{p:an->D}{σ:List aV}{t:ar}{x:an}{f:Nat}(h:o.op=.field t x f){cs:List A}{k:Nat}{j:TI}{e:E1}
  (y:p x=.e (.agg cs)) (q:jM T t f=aa (k,j)) (r:m8 j (hJ k cs)=aa e):bH P o p σ (.e e) σ:=by
 refine .quiet λs ρ hh hr=>?_
 have h1:=hr x;rw[y] at h1;obtain⟨vs,m,c⟩:=h1;obtain⟨i,fs,fl,h1,h2,g,l,z,B,n,g2⟩:=tk u q;obtain⟨v,a,d,b⟩:=Kn g2 c r s.w;exact⟨v,by simp[ay,h,m,Instr.field,n.run_underlying,h2,g,asAgg,l,a],d,by simp[ay,h,m,Instr.field,n.run_underlying,h2,g,asAgg,l,b]⟩
theorem bH.tS{P:aq}{o:aw}{d:an->D}{σ:List aV}{x:an}(h:o.op=.nilCheck x){l off:Nat}(f:d x=.e (.one (.ptr l off))):bH P o d σ (.e (.one (.ptr l off))) σ:=by
 refine .quiet λs ρ hh hr=>?_
 have h1:=hr x;rw[f] at h1;have a:=h1;obtain⟨hn,L,b,i,g,c⟩:=h1;exact⟨ρ x,by simp[ay,h,c],a,by simp[ay,h,c]⟩
theorem bH.vV{P:aq}{o:aw}{b:an->D}{σ:List aV}{x:an}(h:o.op=.nilCheck x){cs:List C}(d:b x=.e (.one (.c (.rp cs)))):bH P o b σ (.e (.one (.c (.rp cs)))) σ:=by
 refine .quiet λs ρ hh hr=>?_
 have h1:=hr x;rw[d] at h1;have h2:=fy h1;generalize a:ρ x=vx at h2;cases h2;exact⟨_,by simp[ay,h,a];rfl,by grind,by simp[ay,h,a]⟩
def Hi(new:List ak):∀ (j off:Nat)(cs:Array ak),off+j+new.length<=cs.size ->
  ((new.zipIdx j).foldl (λcs (x:ak×Nat)=>cs.setIfInBounds (off+x.2) x.1) cs).toList=cs.toList.take (off+j)++new++cs.toList.drop (off+j+new.length):=by
 induction new with
 |nil=>intro j off cs _;simp
 |cons v vs ih =>
  intro j off cs h;simp only[List.zipIdx_cons,jk];rw[ih (j+1) off _ (by grind)]
  have:=list_seg_step cs.toList (off+j) v vs (by grind)
  simpa[Array.toList_setIfInBounds,uW] using this
def vt(place:Nat->Option (Nat×Nat)):List (Nat×List A)->List A->Option (List A)
 |[],cs=>aa cs
 |(i,new)::rest,cs=>match place i with
  |some (off,size)=>match aG new.length size with
   |true=>match eX off new cs with
    |some r=>vt place rest r
    |none=>af
   |false=>af
  |none=>af
def rF{σ:List aV}{s:St}{place place':Nat->Option (Nat×Nat)}(o:∀ i p,place i=aa p->place' i=aa p):∀ {parts:List (Nat×List A)}{vparts:List (Nat×ak)}{cs r:List A}{vs:Array ak},
  vt place parts cs=aa r->vparts.map (·.1)=parts.map (·.1)->(∀ (k:Nat) (p:Nat×List A) (q:Nat×ak),parts[k]?=aa p->vparts[k]?=aa q->dW σ s q.2.cells.toList p.2)->dW σ s vs.toList cs ->
  ∃ d,Instr.fill place' vs vparts=aa d/\dW σ s d.toList r
 |[],[],cs,r,vs,h,_,_,b=>by cases h;exact⟨vs,rfl,b⟩
 |[],_::_,cs,r,vs,h,a,_,b=>by grind
 |_::_,[],cs,r,vs,h,a,_,b=>by grind
 |(i,new)::rest,(f,v)::Ut,cs,r,vs,h,a,n,b=>by
  simp only[ru,List.cons.injEq] at a;obtain⟨rfl,a⟩:=a;simp only[vt] at h;cases c:place f with
  |none=>grind
  |some p =>
   obtain⟨off,size⟩:=p;simp only[c] at h;cases t:aG new.length size with
   |false=>grind
   |true =>
    simp only[t] at h;cases m:eX off new cs with
    |none=>grind
    |some q =>
     simp only[m] at h;have e:=n 0 (f,new) (f,v) rfl rfl;simp only at e;have B:=e.length;have l:new.length=size:=bX t;obtain⟨k1,z⟩:=dW.eX m b e;have y:=Hi v.cells.toList 0 off vs (by grind)
     have g:v.cells.size=size:=by grind
     have u:off+size<=vs.size:=by grind
     obtain⟨d,w,j⟩:=rF (σ:=σ) (s:=s) o (parts:=rest) (vparts:=Ut) (cs:=q) (r:=r)
      (vs:=v.cells.zipIdx.foldl (λcs (x:ak×Nat)=>cs.setIfInBounds (off+x.2) x.1) vs) h a (λk p q w j=>n (k+1) p q (by grind) (by grind)) (by
       grind [Array.toList_zipIdx])
     refine⟨d,?_,j⟩;simp only[Instr.fill,o _ _ c,g,cW,fu,kA,Bool.false_or,ba]
     grind
def p0(T:List (Nat×TI)):List Field->Option (List (Nat×Nat))
 |[]=>aa []
 |f::fs=>match bF T f.type with
  |some j=>match p0 T fs with
   |some r=>aa ((f.offset,j.size)::r)
   |none=>af
  |none=>af
def wx{P:aq}{T:List (Nat×TI)}(b:dg P T):∀ {fs:List Field}{r:List (Nat×Nat)},p0 T fs=aa r->fs.mapM (λf=>(P.info? f.type).map λi=>(f.offset,i.size))=aa r
 |[],r,h=>by cases h;simp
 |f::fs,r,h=>by
  simp only[p0] at h;cases a:bF T f.type with
  |none=>grind
  |some j =>
   cases c:p0 T fs with
   |none=>grind
   |some q =>
    simp[a,c] at h;subst h;obtain⟨e,z,d,g,_⟩:=(b _ _ a).info;simp[lA,d,g,wx b c]
def nU(a:an->D):List (Nat×an)->Option (List (Nat×List A))
 |[]=>aa []
 |(i,x)::r=>match mT (a x) with
  |some cs=>match nU a r with
   |some q=>aa ((i,cs)::q)
   |none=>af
  |none=>af
def pS{σ:List aV}{s:St}{ρ:an->ak}{a:an->D}(c:∀ y,dc σ s (ρ y) (a y)):∀ {l:List (Nat×an)}{q:List (Nat×List A)},nU a l=aa q ->
  (l.map λ(i,x)=>(i,ρ x)).map (·.1)=q.map (·.1)/\∀ (k:Nat) (p:Nat×List A) (u:Nat×ak),q[k]?=aa p->(l.map λ(i,x)=>(i,ρ x))[k]?=aa u->dW σ s u.2.cells.toList p.2
 |[],q,h=>by cases h;simp
 |(i,x)::r,q,h=>by
  simp only[nU] at h;cases d:mT (a x) with
  |none=>grind
  |some cs =>
   cases b:nU a r with
   |none=>grind
   |some q' =>
    simp[d,b] at h;subst h;obtain⟨e,f⟩:=pS c b
    grind [m6]
def zP(T:List (Nat×TI))(a:an->D)(t:ar)(parts:List (Nat×an)):Option (List A) :=
 match bF T t with
 |some i=>match i.desc with
  |.struct fs=>match p0 T fs.toList with
   |some pl=>match nU a parts with
    |some ps=>vt (λk=>fw k pl) ps (i.zero.map A.c)
    |none=>af
   |none=>af
  |_=>af
 |none=>af
theorem bH.build{P:aq}{T:List (Nat×TI)}(g:dg P T){o:aw}{j:an->D}{σ:List aV}{t:ar}{parts:Array (Nat×an)}(h:o.op=.build t parts){cs:List A}
  (b:zP T j t parts.toList=aa cs):bH P o j σ (.e (.agg cs)) σ:=by
 refine .quiet λs ρ hh hr=>?_
 unfold zP at b;cases hi:bF T t with
 |none=>grind
 |some i =>
  simp only[hi] at b;cases l:i.desc with
  |struct fs =>
   simp only[l] at b;cases f:p0 T fs.toList with
   |none=>grind
   |some pl =>
    simp only[f] at b;cases c:nU j parts.toList with
    |none=>grind
    |some ps =>
     simp only[c] at b;obtain⟨v,z,r,B,G,m,n,F,E⟩:=(g t i hi).info;obtain⟨u,p2⟩:=pS (σ:=σ) (s:=s) hr c;obtain⟨d,q,y⟩:=rF (σ:=σ) (s:=s) (place':=λk=>pl.toArray[k]?) (λk p C=>by grind [dz]) b u p2 (kK n)
     have hb:P.built t (parts.map λ(i,x)=>(i,ρ x)).toList=aa d:=by
      unfold Program.built;have a:=(g t i hi).Tg;rw[l] at a;simp only[r,a,m,wx g f];simpa using q
     refine⟨.agg d,?_,⟨d.toList,by simp,y⟩,?_⟩
     .simp only[ay,h,bY,run_build s.w t _ d hb,b9,cY]
     .simp only[ay,h,aO,run_build s.w t _ d hb,aU,Sem.events_pure];exact cO.build s.w #[]
  |_=>grind
theorem RA{k n i j:Nat}(hi:i<n)(b:j<k):i*k+j<n*k:=by
 have a:(i+1)*k<=n*k:=et k (by omega)
 rw[gR] at a;omega
theorem N9{k i j:Nat}(a:j<k):(i*k+j) / k=i:=by
 grind [Nat.mul_comm,Nat.mul_add_div,Nat.div_eq_of_lt]
theorem Oa{k i j:Nat}(a:j<k):(i*k+j) % k=j:=by
 rw[nN,Nat.mul_add_mod,Nat.mod_eq_of_lt a]
def Flat.nil{M:Mem}{k:Nat}{es:Nat->List C}:Flat M k 0 es []:=⟨by simp,by omega,by omega⟩
def cR(n:Nat)(f g:Nat->List C):Nat->List C:=λi=>if i<n then f i else g (i-n)
def Flat.append{M:Mem}{k n m:Nat}{es es':Nat->List C}{vs vF:List ak}(h:Flat M k n es vs)(b:Flat M k m es' vF):Flat M k (n+m) (cR n es es') (vs++vF):=by
 refine⟨by simp[h.len,b.len,gR],λi hi=>?_,λi hi j c hj=>?_⟩
 .simp only[cR];split
  .rename_i a;exact h.width i a
  .exact b.width _ (by omega)
 .simp only[cR] at hj;split at hj
  .rename_i a
   obtain⟨v,h1,h2⟩:=h.rd i a j c hj
   grind
  .rename_i d
   obtain⟨v,h1,h2⟩:=b.rd _ (by omega) j c hj
   refine⟨v,?_,h2⟩;have e1:i*k+j=vs.length+((i-n)*k+j):=by
    rw[h.len,<-uW,<-gR,zu (by omega)]
   grind
def Flat.cell{M:Mem}{k n:Nat}{es:Nat->List C}{vs:List ak}(h:Flat M k n es vs):∀ v∈vs,v.oneCell'=ab:=by
 intro v b;obtain⟨p,a,rfl⟩:=dH b;rw[h.len] at a;have c:0<k:=by
  grind
 have hi:p / k<n:=pE (by rw[nN];exact a)
 have hj:p % k<k:=jG _ c;have d:=h.width _ hi;obtain⟨v,h1,h2⟩:=h.rd (p / k) hi (p % k) ((es (p / k))[p % k]'(by omega)) (br (by omega))
 have e:p / k*k+p % k=p:=pG p k;rw[e] at h1;rw[br (by rw[h.len];exact a)] at h1
 simp at h1;rw[h1];have:=Rd.cell h2;cases v <;> simp_all [cZ,Value.oneCell']
def Rd.flat{M:Mem}{v:ak}{t:Bool}{k n:Nat}{es:Nat->List C}(h:Rd M v (.sl t k n es)) :
  ∃ a cap vs,v=.slice a n cap/\n<=cap/\cap<=9223372036854775807/\(t=ab->cap=n)/\Flat M k n es vs/\∀ p u,vs[p]?=aa u->∃ b off,a=aa ⟨b,off,af⟩/\M b (off+p)=aa u:=by
 cases h with
 |@sl a _ cap _ _ _ b off f d hb ht hk ha hm hr =>
  refine⟨a,cap,(bh (n*k)).map λp=>f (p / k) (p % k),rfl,d,hb,ht,⟨by simp,hk,?_⟩,?_⟩
  .grind [RA,N9,Oa]
  .intro p u e;simp only[nE] at e
   by_cases c:p<n*k
   .simp[c] at e;subst e;have g:0<k:=by
     grind
    have hi:p / k<n:=pE (by rw[nN];exact c)
    have hj:p % k<k:=jG _ g;have i:=hk _ hi;have:=hm (p / k) hi (p % k) ((es (p / k))[p % k]'(by omega)) (br (by omega))
    refine⟨b,off,ha (Nat.lt_of_le_of_lt (gD _) hi),?_⟩
    grind [Nat.add_assoc,Nat.div_add_mod']
   .simp[c] at e
def Rd.qw{M:Mem}{k n:Nat}{es:Nat->List C}{vs:List ak}(h:Flat M k n es vs){a:Option Addr}{b off cap:Nat}{t:Bool}(e:0<n->a=aa ⟨b,off,af⟩)(d:n<=cap)(hb:cap<=9223372036854775807)(f:t=ab->cap=n)
  (g:∀ p u,vs[p]?=aa u->M b (off+p)=aa u):Rd M (.slice a n cap) (.sl t k n es):=by
 refine .sl b off (λi j=>(vs[i*k+j]?).getD aj) d hb f h.width e (λi hi j c hj=>?_) (λi hi j c hj=>?_)
 .obtain⟨v,h1,h2⟩:=h.rd i hi j c hj
  grind
 .obtain⟨v,h1,h2⟩:=h.rd i hi j c hj;rw[h1];exact h2
def dO{P:aq}{σ:List aV}{s:St}(i:aJ σ s){v:ak}{t:Bool}{k n:Nat}{es:Nat->List C}(h:Rd s.M v (.sl t k n es)) :
  ∃ vs,Flat s.M k n es vs/\(Builtin.firstCells k n v).run P s.w=.ok vs.toArray s.w/\Builtin.lenOf v=pure n:=by
 obtain⟨a,cap,vs,rfl,e,p,q,d,f⟩:=h.flat;refine⟨vs,d,?_,rfl⟩;have g:vs.length=n*k:=d.len;cases a with
 |none =>
  have:vs=[]:=by
   cases vs with
   |nil=>rfl
   |cons u o=>obtain⟨b,off,c,_⟩:=f 0 u rfl;cases c
  subst this;rfl
 |some ad =>
  simp only[Builtin.firstCells];rw[<-g];refine run_loadCells_list s.w ad vs λj u l=>?_
  obtain⟨b,off,c,m⟩:=f j u l;cases c;rw[dj];exact i.mem _ _ _ m
def bH.JM{P:aq}{T:List (Nat×TI)}(p:dg P T){o:aw}{f:an->D}{σ:List aV}{t:ar}{x y:an}(h:o.op=.index t x y){l:List UInt8}{j:Int}{k:IntKind}{i:TI}{m:Nat}(hi:bF T t=aa i)(g:i.desc=.string)
  (u:f x=.e (.one (.c (.str l)))) (q:f y=.e (.one (.c (.int k j)))) (hj:j=m) (v:m<l.length):bH P o f σ (.e (.one (.c (.int .u8 (l[m]).toNat)))) σ:=by
 refine .quiet λs ρ hh hr=>?_
 have h1:=hr x;have h2:=hr y;rw[u] at h1;rw[q] at h2
 replace h1:=fy h1
 replace h2:=fy h2
 generalize a:ρ x=vx at h1;generalize b:ρ y=vy at h2;cases h1 with
 |@str sb _ r hl =>
 cases h2;subst r;have n:sb[m]?=aa (sb.data.toList[m]):=by
  have hm':m<sb.size:=by have e:sb.data.toList.length=sb.size:=jg;omega
  rw[getElem?_pos sb m hm']
  congr 1
 refine⟨.int .u8 (sb.data.toList[m]).toNat,?_,Rd.int ?_,?_⟩
 rotate_left 2
 .have d:=(p t i hi).run_underlying (w:=s.w);rw[g] at d;simp[ay,h,a,b,Instr.index,asIntOf,d,hj,n]
 .have d:=(p t i hi).run_underlying (w:=s.w);rw[g] at d;simp[ay,h,a,b,Instr.index,asIntOf,d,hj,n]
 .have:=(sb.data.toList[m]).toNat_lt;simp only[bx];omega
def bH.indexAddr{P:aq}{T:List (Nat×TI)}(A:dg P T){o:aw}{u:an->D}{σ:List aV}{t:ar}{x y:an}(h:o.op=.indexAddr t x y){i g:TI}{E:ar}(hi:bF T t=aa i)(G:i.desc=.slice E)(H:bF T E=aa g)
  {tt:Bool} {n:Nat} {es:Nat->List C} {j:Int} {k:IntKind} {m:Nat} (J:∀ s v,dc σ s v (u x)->Rd s.M v (.sl tt g.size n es)) (I:u y=.e (.one (.c (.int k j)))) (hj:j=m) (d:m<n) :
  bH P o u σ (.e (.one (.c (.rp (es m))))) σ:=by
 refine .quiet λs ρ hh hr=>?_
 have h1:=J s _ (hr x);have h2:=hr y;rw[I] at h2
 replace h2:=fy h2
 generalize p:ρ x=vx at h1;generalize z:ρ y=vy at h2;cases h2;cases h1 with
 |@sl a _ cap _ _ _ b off f B hb ht hk ha hm' PK =>
 have l:0<n:=by omega
 have F:=(A t i hi).run_underlying (w:=s.w);rw[G] at F;refine⟨.pointer (aa ⟨b,off+m*g.size,af⟩),?_,Rd.rp b (off+m*g.size) (f m) (λq c r=>hm' m d q c r) (λq c r=>PK m d q c r),?_⟩ <;>
 simp[ay,h,p,z,Instr.indexAt,asIntOf,F,hj,ha l,(A E g H).run_sizeOf,dj,d]
def bH.T9{P:aq}{T:List (Nat×TI)}(p:dg P T){o:aw}{j:an->D}{σ:List aV}{x:an}{b:Array ar}{t:ar}(h:o.op=.call { callee:=.builtin .len,args:=#[x],argTypes:=b })(r:b[0]?=aa t){i:TI}{E:ar}(hi:bF T t=aa i)(l:i.desc=.slice E)
  {tt:Bool} {k n:Nat} {es:Nat->List C} (q:∀ s v,dc σ s v (j x)->Rd s.M v (.sl tt k n es)):bH P o j σ (.e (.one (.c (.int .i64 n)))) σ:=by
 refine .quiet λs ρ hh hr=>?_
 obtain⟨a,cap,vs,m,g,hb,_⟩:=(q s _ (hr x)).flat;have f:=(p t i hi).run_underlying (w:=s.w);rw[l] at f;have d:b[0]?=aa t:=r;refine⟨.int .i64 n,?_,Rd.int (by simp only[bx];omega),?_⟩ <;>
 simp[ay,h,resolve,invoke,builtin,Builtin.len_,m,f,goInt,d]
theorem bH.Q3{P:aq}{T:List (Nat×TI)}(n:dg P T){o:aw}{j:an->D}{σ:List aV}{x:an}{a:Array ar}{t:ar}(h:o.op=.call { callee:=.builtin .len,args:=#[x],argTypes:=a })(q:a[0]?=aa t){i:TI}(hi:bF T t=aa i)(k:i.desc=.string)
  {l:List UInt8} (p:j x=.e (.one (.c (.str l)))):bH P o j σ (.e (.one (.c (.int .i64 l.length)))) σ:=by
 refine .quiet λs ρ hh hr=>?_
 have h1:=hr x;rw[p] at h1
 replace h1:=fy h1
 generalize b:ρ x=vx at h1;cases h1 with
 |@str sb _ m hl =>
 have g:=(n t i hi).run_underlying (w:=s.w);rw[k] at g;have d:a[0]?=aa t:=q;have f:sb.size=l.length:=by rw[<-m];exact jg.symm
 refine⟨.int .i64 l.length,?_,Rd.int (by simp only[bx];omega),?_⟩ <;>
 simp[ay,h,resolve,invoke,builtin,Builtin.len_,b,g,goInt,d,f]
def St.newRow(s:St)(E:ar)(vs:List ak):St :=
 { β:=s.β,M:=λb o=>if b=s.w.heap.size then vs[o]? else s.M b o,w:=s.w.alloc (.cells vs.toArray E),own:=s.own }
def aJ.newRow{σ:List aV}{s:St}(h:aJ σ s)(E:ar)(vs:List ak):aJ σ (s.newRow E vs)/\Step σ s σ (s.newRow E vs):=by
 refine h.grow (by simp) (λb hb=>cK _ _ hb) (λb hb o=>by grind) (λb hb o v a=>?_) rfl rfl rfl
 by_cases e:b=s.w.heap.size
 .subst e;simp at a;show a9 (s.w.alloc (.cells vs.toArray E)) ⟨s.w.heap.size,o,af⟩=aa v;unfold a9
  grind [dx]
 .simp only[e,cd] at a;have:=h.block a;omega
def Hj(s:St)(E:ar)(vs:List ak):∀ p u,vs[p]?=aa u->(s.newRow E vs).M s.w.heap.size (0+p)=aa u:=by
 intro p u h;simpa[St.newRow] using h
def gn:List A->Option (List C)
 |[]=>aa []
 |.c c::r=>match gn r with|some q=>aa (c::q)|none=>af
 |.vec _ k n es::r=>match gn r with|some q=>aa (.sl ae k n es::q)|none=>af
 |_::_=>af
def kn{σ:List aV}{s:St}:∀ {cs:List A}{r:List C}{vs:List ak},gn cs=aa r->dW σ s vs cs->dW σ s vs (r.map A.c)
 |[],r,vs,h,a=>by cases h;exact a
 |_::_,_,[],_,a=>a.elim
 |.c c::al,r,v::vs,h,a=>by
  simp only[gn] at h;cases b:gn al with
  |none=>grind
  |some q=>simp[b] at h;subst h;exact⟨a.1,kn b a.2⟩
 |.vec l k n es::al,r,v::vs,h,a=>by
  simp only[gn] at h;cases b:gn al with
  |none=>grind
  |some q=>simp[b] at h;subst h;exact⟨a.1.1,kn b a.2⟩
 |.ptr l o::al,r,v::vs,h,a=>by simp[gn] at h
 |.ref l::al,r,v::vs,h,a=>by simp[gn] at h
 |.bp l w::al,r,v::vs,h,a=>by simp[gn] at h
 |.any::al,r,v::vs,h,a=>by simp[gn] at h
def qz{α:Type}(k:Nat):Nat->List α->Option (List (List α))
 |0,[]=>aa []
 |0,_::_=>af
 |n+1,l=>match ov k l with
  |some c=>match qz k n (hJ k l) with
   |some r=>aa (c::r)
   |none=>af
  |none=>af
def dW.closed{σ:List aV}{s:St}:∀ {vs:List ak}{cs:List C},dW σ s vs (cs.map A.c)->∀ (j:Nat)(c:C),cs[j]?=aa c->∃ v,vs[j]?=aa v/\Rd s.M v c:=by
 intro vs cs h j c hj;obtain⟨v,h1,h2⟩:=h.get (j:=j) (a:=.c c) (by grind)
 exact⟨v,h1,h2⟩
def sW{M:Mem}{k:Nat}:∀ {n:Nat}{cs:List C}{es:List (List C)}{vs:List ak},qz k n cs=aa es->vs.length=cs.length->(∀ (j:Nat)(c:C),cs[j]?=aa c->∃ v,vs[j]?=aa v/\Rd M v c)->es.length=n/\Flat M k n (λi=>es.getD i []) vs
 |0,[],es,vs,h,a,b=>by cases h;simp at a;subst a;exact⟨rfl,.nil⟩
 |0,_::_,es,vs,h,a,b=>by cases h
 |n+1,cs,es,vs,h,a,b=>by
  simp only[qz] at h;cases g:ov k cs with
  |none=>grind
  |some c =>
   simp only[g] at h;cases d:qz k n (hJ k cs) with
   |none=>grind
   |some q =>
    simp[d] at h;subst h;obtain⟨m,f⟩:=m9 g;rw[nk] at d;obtain⟨r,l⟩:=sW (vs:=vs.drop k) d (by grind) (λj c o=>by
     obtain⟨v,m,f⟩:=b (k+j) c (by grind)
     exact⟨v,by grind,f⟩)
    refine⟨by grind,?_⟩
    have s:k<=cs.length:=by grind
    have p:Flat M k 1 (λ_=>c) (vs.take k):=by
     refine⟨by grind,by grind,λi hi j x o=>?_⟩
     grind
    have:=p.append l;rw[Nat.add_comm 1 n] at this;have e:cR 1 (λ_=>c) (λi=>q.getD i [])=λi=>(c::q).getD i []:=by
     funext i
     cases i <;> simp[cR]
    rw[e] at this;simpa using this
def DM(T:List (Nat×TI))(a:an->D)(t:ar)(n:Nat)(parts:List (Nat×an)):Option (Nat×List (List C)) :=
 match bF T t with
 |some i=>match i.desc with
  |.slice E=>match bF T E with
   |some ie=>match aG ie.size 0 with
    |true=>af
    |false=>match bo (n*ie.size) 16777216 with
     |true=>match nU a parts with
      |some ps=>match vt (λk=>aa (k*ie.size,ie.size)) ps (List.replicate (n*ie.size) A.any) with
       |some cs=>match gn cs with
        |some r=>match qz ie.size n r with
         |some es=>aa (ie.size,es)
         |none=>af
        |none=>af
       |none=>af
      |none=>af
     |false=>af
   |none=>af
  |_=>af
 |none=>af
theorem bH.buildSlice{P:aq}{T:List (Nat×TI)}(K:dg P T){o:aw}{Q:an->D}{σ:List aV}{t:ar}{n:Nat}{parts:Array (Nat×an)}(h:o.op=.buildSlice t n parts){k:Nat}{es:List (List C)}
  (a:DM T Q t n parts.toList=aa (k,es)):bH P o Q σ (.e (.one (.c (.sl ab k n λi=>es.getD i [])))) σ:=by
 intro s ρ hh hr;unfold DM at a;cases hi:bF T t with
 |none=>grind
 |some i =>
  simp only[hi] at a;cases V:i.desc with
  |slice E =>
   simp only[V] at a;cases J:bF T E with
   |none=>grind
   |some ie =>
    simp only[J] at a;cases R:aG ie.size 0 with
    |true=>grind
    |false =>
     simp only[R] at a;cases I:bo (n*ie.size) 16777216 with
     |false=>grind
     |true =>
      simp only[I] at a;cases j:nU Q parts.toList with
      |none=>grind
      |some ps =>
       simp only[j] at a;cases g:vt (λk=>aa (k*ie.size,ie.size)) ps (List.replicate (n*ie.size) A.any) with
       |none=>grind
       |some cs =>
        simp only[g] at a;cases l:gn cs with
        |none=>grind
        |some r =>
         simp only[l] at a;cases F:qz ie.size n r with
         |none=>grind
         |some es' =>
          simp only[F,di,k8] at a;obtain⟨rfl,rfl⟩:=a;have hz0:ie.size≠0:=λe=>by rw[e] at R;cases R
          have X:=db I;obtain⟨inf,z,z1,z2,z3,Z,W,z6,z7⟩:=(K E ie J).info;have hzs:z.cells.size=ie.size:=by
           have:=du List.length W
           grind
          have ZD:∀ v∈z.cells.toList,cZ v=ab:=by
           intro v L;have d:qi v∈z.cells.toList.map qi:=lB.2 ⟨v,L,rfl⟩;rw[W] at d;obtain⟨c,_,hc⟩:=lB.1 d;exact(Rd.qi (M:=s.M) hc.symm).cell
          have B:∀ m,(∀ v∈(bh m).map (λq=>z.cells[q % z.cells.size]!),cZ v=ab):=by
           grind [Nat.mod_lt]
          have H:∀ vs:List ak,(∀ v∈vs,cZ v=ab)->dW σ s vs (List.replicate vs.length A.any):=by
           intro vs
           induction vs with
           |nil=>intro _;trivial
           |cons v vs ih=>intro L;exact⟨L v (by simp),ih λu N=>L u (by grind)⟩
          obtain⟨p1,p2⟩:=pS (σ:=σ) (s:=s) hr j;have O:dW σ s ((Array.range (n*ie.size)).map (λq=>z.cells[q % z.cells.size]!)).toList (List.replicate (n*ie.size) A.any):=by
           have:=H _ (B (n*ie.size));simpa using this
          obtain⟨G,u1,u2⟩:=rF (σ:=σ) (s:=s) (place':=λk=>aa (k*ie.size,ie.size)) (λk p Y=>Y) g p1 p2 O
          have u3:=kn l u2;obtain⟨c1,c2⟩:=sW (M:=s.M) (vs:=G.toList) F (by simpa using u3.length) u3.closed
          obtain⟨g1,g2⟩:=hh.newRow E G.toList;refine⟨.value (.slice (aa ⟨s.w.heap.size,0,af⟩) n n),s.newRow E G.toList,?_,?_,g1,g2,?_⟩
          rotate_left 2
          .have e:(ay ρ o).events P s.w #[]=#[]:=by
            simp only[ay,h];exact cO.bind cO.buildSlice (λ_=>cO.pure) _ _
           rw[e];exact .nil
          .have N:=(K t i hi).run_underlying (w:=s.w);rw[V] at N;have S:(zeroValue E).run P s.w=.ok z s.w:=by simp[zeroValue,typeInfo,z1,Z]
           have f:Instr.fill (λk=>aa (k*ie.size,ie.size)) ((Array.range (n*ie.size)).map (λq=>z.cells[q % z.cells.size]!)) (parts.map λ(i,x)=>(i,ρ x)).toList=aa G:=by simpa using u1
           by_cases h0:n*ie.size=0
           .have U:n=0:=by grind [Nat.mul_eq_zero]
            subst U;have y:Array.range 0=#[]:=rfl;simp[y] at f;simp[ay,h,Instr.buildSlice,N,(K E ie J).run_sizeOf,y,f,Go.newRow,St.newRow]
           .rw[show ay ρ o=(do pure (.value (<-Instr.buildSlice t n (parts.map λ(i,x)=>(i,ρ x))))) by simp[ay,h]]
            simp only[Instr.buildSlice,bY,N,b9,(K E ie J).run_sizeOf,h0,cd,S,show ¬n*ie.size>2 ^ 24 by omega,pL,f,cY]
            simp[Go.newRow,St.newRow]
          .refine Rd.qw (c2.mono g2.mem) (b:=s.w.heap.size) (off:=0) (λ_=>rfl) (bg _) ?_ (λ_=>rfl) (Hj s E G.toList)
           have:n<=n*ie.size:=qY n (by omega)
           omega
  |_=>grind
def Ext.trans{σ σ1 σ2:List aV}{s a s2:St}(h:Ext σ s σ1 a)(k:Ext σ1 a σ2 s2):Ext σ s σ2 s2:=by
 refine⟨λb o v n=>k.mem _ _ _ (h.mem _ _ _ n),λl B L e r=>?_⟩
 obtain⟨B1,L1,h1,h2,c⟩:=h.box l B L e r;obtain⟨j,m,k1,p,f⟩:=k.box l B1 L1 h1 h2;exact⟨j,m,k1,p,c.trans f⟩
def fT{α:Type}{l:List α}{x y:α}{i:Nat}(h:(l++[x])[i]?=aa y):l[i]?=aa y∨(i=l.length/\y=x):=by
 grind
def aJ.gT{σ:List aV}{s a:St}(h1:aJ σ a)(st:Step σ s σ a)(m:a.β=s.β)(hh:aJ σ s){B:aV}{L:Loc}(p:eP (σ++[B]) { a with β:=a.β++[L] } B L)
  (f:∀ b∈L.bs,s.w.heap.size<=b/\b<a.w.heap.size):aJ (σ++[B]) { a with β:=a.β++[L] }/\Step σ s (σ++[B]) { a with β:=a.β++[L] }:=by
 have ex:Ext σ a (σ++[B]) { a with β:=a.β++[L] }:=by
  refine⟨λ_ _ _ h=>h,λl B' L' ot gw=>?_⟩
  have hl:l<a.β.length:=(cr.1 gw).1;have n:l<σ.length:=(cr.1 ot).1;exact⟨B',L',by grind,by grind,.refl _ _⟩
 have e2:=st.ext.trans ex;refine⟨⟨h1.mem,by simp[h1.len],?_,?_,?_,?_⟩,⟨st.size,st.eN,st.mem,st.jz,?_,e2.box,st.os,st.tape,st.output,st.own⟩⟩
 .intro l B' L' ot gw;rcases fT ot with k|⟨rfl,rfl⟩
  .have hl:l<a.β.length:=by rw[h1.len];grind
   rw[jD hl] at gw;exact(h1.box l B' L' k gw).carry ex h1.len λ_ _=>⟨rfl,λ_=>rfl⟩
  .rcases fT gw with c|⟨_,rfl⟩
   .have:=(cr.1 c).1;rw[h1.len] at this;omega
   grind
 .intro l l' L1 L2 c j b hb oO;rcases fT c with k1|⟨rfl,rfl⟩ <;> rcases fT j with o|⟨rfl,rfl⟩
  .exact h1.gg l l' L1 L2 k1 o b hb oO
  .have a1:=f b oO;have a2:=hh.lt L1 (by grind) b hb
   omega
  .have a1:=f b hb;have a2:=hh.lt L2 (by grind) b oO
   omega
  .rfl
 .intro L' gw b hb;simp only[gC,kY] at gw;rcases gw with gw|rfl
  .exact h1.lt L' gw b hb
  grind
 .intro b hb;refine⟨(h1.own b hb).1,λL' gw QG=>?_⟩
  simp only[gC,kY] at gw;rcases gw with gw|rfl
  .exact(h1.own b hb).2 L' gw QG
  .have e:=st.own;simp only at hb;rw[e] at hb;have:=(hh.own b hb).1
   grind
 grind
def aJ.iP{σ:List aV}{s:St}{M':Mem}{w':az}(hh:aJ σ s){l:Nat}{B B':aV}{L L':Loc}(p:σ[l]?=aa B)(j:s.β[l]?=aa L)(J:ij B L B' L')
  (x:s.w.heap.size<=w'.heap.size) (K:∀ b,b<s.w.heap.size->b∉L.bs->w'.heap[b]?=s.w.heap[b]?) (O:∀ b,b<s.w.heap.size->b∉L.bs->∀ o,M' b o=s.M b o)
  (f:∀ b o v,s.M b o=aa v->M' b o=aa v) (G:∀ b o v,M' b o=aa v->w'.cell? ⟨b,o,af⟩=aa v)
  (H:∀ b∈L'.bs,(b∈L.bs∨s.w.heap.size<=b)/\b<w'.heap.size)
  (D:w'.os=s.w.os) (I:w'.tape=s.w.tape) (F:w'.output=s.w.output)
  (Q:eP (σ.set l B') ⟨s.β.set l L',M',w',s.own⟩ B' L'):aJ (σ.set l B') ⟨s.β.set l L',M',w',s.own⟩/\Step σ s (σ.set l B') ⟨s.β.set l L',M',w',s.own⟩:=by
 have C:l<σ.length:=(cr.1 p).1;have z:l<s.β.length:=(cr.1 j).1;have a:∀ i X,(s.β.set l L')[i]?=aa X->(i=l/\X=L')∨(i≠l/\s.β[i]?=aa X):=by
  grind
 have ex:Ext σ s (σ.set l B') ⟨s.β.set l L',M',w',s.own⟩:=by
  refine⟨f,λi X Y c m=>?_⟩
  by_cases e:l=i
  .grind
  .exact⟨X,Y,by grind,by grind,.refl _ _⟩
 have out:∀ i X,i≠l->s.β[i]?=aa X->∀ b∈X.bs,b<s.w.heap.size/\b∉L.bs:=by
  intro i X hi c b hb;exact⟨hh.lt X (bU c) b hb,λr=>hi (hh.gg i l X L c j b hb r)⟩
 refine⟨⟨G,by simp[hh.len],?_,?_,?_,?_⟩,⟨x,?_,f,?_,?_,ex.box,D,I,F,rfl⟩⟩
 .intro i X Y c m;rcases a i Y m with⟨rfl,rfl⟩|⟨hi,m⟩
  .grind
  .rw[iL (λe=>hi e.symm)] at c
   refine(hh.box i X Y c m).carry ex hh.len λb hb=>?_
   grind
 .intro i y X A c h b hb oO;rcases a i X c with⟨rfl,rfl⟩|⟨hi,u⟩ <;> rcases a y A h with⟨rfl,rfl⟩|⟨n,k⟩
  .rfl
  .grind
  .grind
  .exact hh.gg i y X A u k b hb oO
 .intro X c b hb;obtain⟨i,hi,rfl⟩:=dH c;rcases a i _ (br hi) with⟨rfl,e⟩|⟨n,h⟩
  .grind
  grind
 .intro b hb;obtain⟨R,N⟩:=hh.own b hb
  grind
 .grind
 .grind
 grind
def rz{a old bytes:Nat}(h:old<a)(b:a*bytes<=140737488355328):¬Builtin.nextslicecap a old*bytes>2 ^ 48:=by
 have:=growslice_fits h b;omega
section
variable {P:aq}{T:List (Nat×TI)}(q:dg P T){σ:List aV}{s:St}{t g ty E:ar}{i i2 d:TI}
def jc(hi:bJ P t i)(p:i.desc=.slice E)(f:bJ P g i2)(j:i2.desc=.slice E)(u:bJ P E d)(v:aJ σ s)
  {a:Option Addr} {n cap:Nat} (e:n<=cap) {x:ak} {tx:Bool} {es':Nat->List C} (l:Rd s.M x (.sl tx d.size 0 es')) :
  (Builtin.append_ #[t,g] ty #[.slice a n cap,x]).run P s.w=.ok (.slice a n cap) s.w:=by
 obtain⟨c,y,r,o⟩:=dO (P:=P) v l;have m:=hi.run_underlying (w:=s.w);have b:=f.run_underlying (w:=s.w);rw[p] at m;rw[j] at b;obtain⟨a',k,vs,rfl,_⟩:=l.flat;have h:c=[]:=hZ (by simpa using y.len)
 subst h;cases a <;> simp[Builtin.append_,m,b,u.run_sizeOf,Builtin.lenOf,e,r,storeCells]
def im(hi:bJ P t i)(R:i.desc=.slice E)(J:bJ P g i2)(D:i2.desc=.slice E)(K:bJ P E d)(hh:aJ σ s)
  {a:Option Addr} {n cap m:Nat} {X tx:Bool} {es es':Nat->List C} {x:ak} (hv:Rd s.M (.slice a n cap) (.sl X d.size n es)) (hx:Rd s.M x (.sl tx d.size m es')) (hg:cap<n+m) (L:(n+m)*d.bytes<=140737488355328) (H:d.bytes≠0) :
  ∃ vs zs Nn,Flat s.M d.size (n+m) (cR n es es') vs/\n+m<=Nn/\Nn<=9223372036854775807/\(vs++zs).length=Nn*d.size /\
   (Builtin.append_ #[t,g] ty #[.slice a n cap,x]).run P s.w=.ok (.slice (aa ⟨s.w.heap.size,0,af⟩) (n+m) Nn) (s.w.drew.alloc (.cells (vs++zs).toArray E)):=by
 have o:aJ σ { s with w:=s.w.drew }:=hh.same rfl;obtain⟨b,N,I,p⟩:=dO (P:=P) o (v:=x) hx;obtain⟨c,l,h,hlo⟩:=dO (P:=P) o (v:=.slice a n cap) hv;have Q:=hi.run_underlying (w:=s.w);have r:=J.run_underlying (w:=s.w);rw[R] at Q;rw[D] at r;obtain⟨y,z,O,z2,z3,S,W,z6,z7⟩:=K.info;have Y:n+m<=140737488355328:=eL (qY _ (Nat.pos_of_ne_zero H)) L;have G:z.cells.size=d.size:=by
  have:=du List.length W
  grind
 refine⟨c++b,(Builtin.zeroCells z.cells (grownCap s.w (n+m) cap E-(n+m))).toList,grownCap s.w (n+m) cap E,l.append N,grownCap_ge _ _ _ _,?_,?_,?_⟩
 .have:=grownCap_le_maxLen s.w (n+m) cap E (by unfold maxLen;omega)
  unfold maxLen at this;omega
 .have V:=grownCap_ge s.w (n+m) cap E;simp only[bR,l.len,N.len,jg,size_zeroCells,G,<-gR]
  grind
 .have U:=rz hg L;have j:¬Builtin.nextslicecap (n+m) cap*y.bytes>2 ^ 48:=by grind
  have k:¬n+m<=cap:=by omega
  have A:¬((n+m:Nat):Int)>IntKind.i64.max:=by
   have e:IntKind.i64.max=9223372036854775807:=rfl
   grind
  have B:∀ u,(typeInfo E).run P u=.ok y u:=λu=>by simp[typeInfo,O]
  have F:∀ u,(zeroValue E).run P u=.ok z u:=λu=>by simp[zeroValue,typeInfo,O,S]
  have f:(Builtin.lenOf x).run P s.w=.ok m s.w:=by rw[p];rfl
  replace I:(Builtin.firstCells d.size m x).run P s.w.drew=.ok b.toArray s.w.drew:=I
  replace h:(Builtin.firstCells d.size n (.slice a n cap)).run P s.w.drew=.ok c.toArray s.w.drew:=h
  unfold Builtin.append_;simp only[iJ,kX,mN,bY,Q,r,b9,K.run_sizeOf,cY,jE,cd,f,k,
   A,false_and,B,j,run_choose,Question.forced,run_askRoom,pL,World.drew_eq,h,I,ic,cu,F]
  simp[Go.newRow,grownCap];have e:∀ Z:Array ak,(c++b).toArray++Z=(c++(b++Z.toList)).toArray:=λZ=>by grind
  rw[e];rfl
def kh(hi:bJ P t i)(z:i.desc=.slice E)(p:bJ P g i2)(l:i2.desc=.slice E)(A:bJ P E d)(F:aJ σ s)
  {b n cap m:Nat} {u:ar} {c:List ak} (B:s.w.heap[b]?=aa (.cells c.toArray u (0,0))) (k:c.length=cap*d.size) {tx:Bool} {es':Nat->List C} {x:ak} (G:Rd s.M x (.sl tx d.size m es')) (v:n+m<=cap) :
  ∃ a,Flat s.M d.size m es' a/\(Builtin.append_ #[t,g] ty #[.slice (aa ⟨b,0,af⟩) n cap,x]).run P s.w=.ok (.slice (aa ⟨b,0,af⟩) (n+m) cap) (s.w.setRow b (c.take (n*d.size)++a++c.drop (n*d.size+a.length)).toArray):=by
 obtain⟨a,o,D,f⟩:=dO (P:=P) F G;have y:=hi.run_underlying (w:=s.w);have h:=p.run_underlying (w:=s.w);rw[z] at y;rw[l] at h;have r:n*d.size+a.length<=c.length:=by
  rw[o.len,k,<-gR];exact et _ v
 have j:=run_storeCells_at P b (n*d.size) u a 0 c.toArray s.w B (by grind) o.cell
 simp only[iO] at j;have e:(Builtin.lenOf x).run P s.w=.ok m s.w:=by rw[f];rfl
 refine⟨a,o,?_⟩;unfold Builtin.append_;simp only[iJ,kX,mN,bY,y,h,b9,A.run_sizeOf,cY,jE,cd,e,v,cu,ic,D,dj,bt,j]
end
def DH{α:Type}{P:aq}{x:Sem α}{w:az}{es:Array Event}{e:Event}(h:e∈x.events P w es):e∈es∨e∈x.events P w #[]:=by
 grind [Sem.events_acc]
def ZB(s:St)(e:Event):Prop:=∃ b o u,e=zw b o/\s.M b o=aa u
def gN{P:aq}{σ:List aV}{s:St}(z:aJ σ s){v:ak}{t:Bool}{k n:Nat}{es:Nat->List C}(h:Rd s.M v (.sl t k n es)){w:az}(F:w.heap=s.w.heap) :
  ∀ e∈(Builtin.firstCells k n v).events P w #[],ZB s e:=by
 obtain⟨a,cap,vs,rfl,r,I,J,A,D⟩:=h.flat;have G:vs.length=n*k:=A.len;intro e f;cases a with
 |none=>simp[Builtin.firstCells] at f
 |some ad =>
  simp only[Builtin.firstCells] at f;have c:∀ j,j<n*k->∃ b off u,ad=⟨b,off,af⟩/\s.M b (off+j)=aa u:=by
   intro j m;obtain⟨b,off,H,o⟩:=D j (vs[j]'(by omega)) (br (by omega))
   grind
  by_cases y:n*k=0
  .rw[y] at f;simp[loadCells,loadCellsFrom] at f
  .obtain⟨b,off,_,rfl,_⟩:=c 0 (by omega)
   have x:∀ j,j<n*k->∃ v,w.cell? ⟨b,off+j,af⟩=aa v:=by
    intro j m;obtain⟨B,l,u,p,o⟩:=c j m;cases p;have:=z.mem _ _ _ o;exact⟨u,by simp only[a9,F] at this ⊢;exact this⟩
   rcases rA (P:=P) x e f with h|⟨j,m,rfl⟩
   .grind
   .obtain⟨B,l,u,p,o⟩:=c j m;cases p;exact⟨_,_,u,rfl,o⟩
theorem sU{s:St}{e:Event}(h:ZB s e):oE s e:=by
 obtain⟨b,o,u,rfl,a⟩:=h;exact Bo a
section
variable {P:aq}{σ:List aV}{s:St}{t g ty E:ar}{i i2 d:TI}
def jI(hi:bJ P t i)(v:i.desc=.slice E)(j:bJ P g i2)(m:i2.desc=.slice E)(z:bJ P E d)(p:aJ σ s)
  {a:Option Addr} {n cap:Nat} (f:n<=cap) {x:ak} {tx:Bool} {es':Nat->List C} (l:Rd s.M x (.sl tx d.size 0 es')) :
  eZ s ((Builtin.append_ #[t,g] ty #[.slice a n cap,x]).events P s.w #[]):=by
 obtain⟨b,B,y,u⟩:=dO (P:=P) p l;have h:=gN (P:=P) p l (w:=s.w) rfl;have r:=hi.run_underlying (w:=s.w);have c:=j.run_underlying (w:=s.w);rw[v] at r;rw[m] at c;obtain⟨a',o,vs,rfl,_⟩:=l.flat;have k:b=[]:=hZ (by simpa using B.len)
 subst k;intro e A;refine sU (h e ?_);cases a <;> simpa[Builtin.append_,r,c,z.run_sizeOf,Builtin.lenOf,f,y,storeCells] using A
def iV(hi:bJ P t i)(Z:i.desc=.slice E)(O:bJ P g i2)(I:i2.desc=.slice E)(R:bJ P E d)(Q:aJ σ s)
  {a:Option Addr} {n cap m:Nat} {td tx:Bool} {es es':Nat->List C} {x:ak} (W:Rd s.M (.slice a n cap) (.sl td d.size n es)) (X:Rd s.M x (.sl tx d.size m es')) (hg:cap<n+m) (S:(n+m)*d.bytes<=140737488355328) (L:d.bytes≠0) :
  eZ s ((Builtin.append_ #[t,g] ty #[.slice a n cap,x]).events P s.w #[]):=by
 have A:aJ σ { s with w:=s.w.drew }:=Q.same rfl;obtain⟨D,hF,N,b⟩:=dO (P:=P) A (v:=x) X;obtain⟨F,hFo,k,hlo⟩:=dO (P:=P) A (v:=.slice a n cap) W;have Nm:=gN (P:=P) Q X (w:=s.w.drew) rfl;have U:=gN (P:=P) Q W (w:=s.w.drew) rfl;have Y:=hi.run_underlying (w:=s.w);have B:=O.run_underlying (w:=s.w);rw[Z] at Y;rw[I] at B;obtain⟨l,z,V,z2,z3,z4,z5,z6,z7⟩:=R.info;have hle:n+m<=140737488355328:=eL (qY _ (Nat.pos_of_ne_zero L)) S;have hnx:=rz hg S;have p:¬Builtin.nextslicecap (n+m) cap*l.bytes>2 ^ 48:=by grind
 have y:¬n+m<=cap:=by omega
 have G:¬((n+m:Nat):Int)>IntKind.i64.max:=by
  have e:IntKind.i64.max=9223372036854775807:=rfl
  grind
 have H:∀ u,(typeInfo E).run P u=.ok l u:=λu=>by simp[typeInfo,V]
 have J:∀ u,(zeroValue E).run P u=.ok z u:=λu=>by simp[zeroValue,typeInfo,V,z4]
 have c:(Builtin.lenOf x).run P s.w=.ok m s.w:=by rw[b];rfl
 have f:(Builtin.lenOf x).events P s.w #[]=#[]:=by rw[b];rfl
 replace N:(Builtin.firstCells d.size m x).run P s.w.drew=.ok D.toArray s.w.drew:=N
 replace k:(Builtin.firstCells d.size n (.slice a n cap)).run P s.w.drew=.ok F.toArray s.w.drew:=k
 intro e o;unfold Builtin.append_ at o;simp only[iJ,kX,mN,aO,bY,Y,B,b9,aU,R.run_sizeOf,cY,jE,cd,c,f,y,
  G,false_and,H,p,run_choose,Question.forced,run_askRoom,pL,Sem.events_ite,World.drew_eq,k,N,ic,cu,J,events_underlying,events_sizeOf,events_typeInfo,events_choose,events_zeroValue,Sem.events_pure] at o
 have K:∀ (x:Nat) (w:az) (e:Event),e∈(askRoom x).events P w #[]->e=⟨.mark .noRoom,ae,ab⟩:=by
  intro x w e h;unfold askRoom at h
  simp_all
 rw[cO.newRow (P:=P)] at o;generalize (Go.newRow E _).run P s.w.drew=r at o;have j:e∈(Builtin.firstCells d.size m x).events P s.w.drew ((Builtin.firstCells d.size n (.slice a n cap)).events P s.w.drew ((askRoom ((Question.appendCap (n+m) cap E).cut (s.w.tape s.w.drawn (Question.appendCap (n+m) cap E))*l.bytes)).events P s.w.drew #[])):=by
  cases r with
  |ok v w'=>simpa using o
  |halt v w'=>simpa using o
 rcases DH j with j|j
 .rcases DH j with j|j
  .rw[K _ _ _ j];exact .inl rfl
  grind [sU]
 grind [sU]
def lQ(hi:bJ P t i)(N:i.desc=.slice E)(B:bJ P g i2)(v:i2.desc=.slice E)(O:bJ P E d)(G:aJ σ s)
  {b n cap m:Nat} {H:ar} {a:List ak} (F:s.w.heap[b]?=aa (.cells a.toArray H (0,0))) (u:a.length=cap*d.size) {tx:Bool} {es':Nat->List C} {x:ak} (J:Rd s.M x (.sl tx d.size m es')) (I:n+m<=cap)
  {L:Loc} (V:L∈s.β) (S:b∈L.bs) (A:∀ o,n*d.size<=o->s.M b o=af) :
  eZ s ((Builtin.append_ #[t,g] ty #[.slice (aa ⟨b,0,af⟩) n cap,x]).events P s.w #[]):=by
 obtain⟨c,y,R,f⟩:=dO (P:=P) G J;have Q:=gN (P:=P) G J (w:=s.w) rfl;have K:=hi.run_underlying (w:=s.w);have p:=B.run_underlying (w:=s.w);rw[N] at K;rw[v] at p;have D:n*d.size+c.length<=a.length:=by
  rw[y.len,u,<-gR];exact et _ I
 have r:=run_storeCells_at P b (n*d.size) H c 0 a.toArray s.w F (by grind) y.cell
 simp only[iO] at r;have k:(Builtin.lenOf x).run P s.w=.ok m s.w:=by rw[f];rfl
 have l:(Builtin.lenOf x).events P s.w #[]=#[]:=by rw[f];rfl
 intro e z;unfold Builtin.append_ at z;simp only[iJ,kX,mN,aO,bY,K,p,aU,O.run_sizeOf,cY,jE,cd,k,l,I,cu,ic,R,dj,bt,r,
  pL,Sem.events_ite,events_underlying,events_sizeOf,Sem.events_pure] at z
 rcases eE c 0 a.toArray s.w _ F (by grind) y.cell e z with h|⟨j,W,U,rfl⟩
 .grind [sU]
 grind [mn]
end
structure mj (P:aq)(o:aw)(x y:an)(E:ar)(d:TI):Prop where
 op:∃ t g i i2,o.op=.call { callee:=.builtin .append,args:=#[x,y],argTypes:=#[t,g] }/\bJ P t i/\i.desc=.slice E/\bJ P g i2/\i2.desc=.slice E
 elem:bJ P E d
 bytes:d.bytes≠0
 size:d.size≠0
def St.grown(s:St)(E:ar)(vs zs:List ak)(β:List Loc):St :=
 { β:=β,M:=λb o=>if b=s.w.heap.size then vs[o]? else s.M b o,w:=s.w.drew.alloc (.cells (vs++zs).toArray E),own:=s.own }
def yf{σ:List aV}{s:St}(h:aJ σ s)(E:ar)(vs zs:List ak):∀ b o v,(if b=s.w.heap.size then vs[o]? else s.M b o)=aa v->(s.w.drew.alloc (.cells (vs++zs).toArray E)).cell? ⟨b,o,af⟩=aa v:=by
 intro b o v a
 by_cases e:b=s.w.heap.size
 .subst e;simp only[cu] at a;unfold a9;have:(s.w.drew.alloc (.cells (vs++zs).toArray E)).heap[s.w.heap.size]?=aa (.cells (vs++zs).toArray E):=dx s.w.drew _
  grind
 .simp only[e,cd] at a;have c:=h.block a;rw[<-h.mem b o v a];unfold a9;have:(s.w.drew.alloc (.cells (vs++zs).toArray E)).heap[b]?=s.w.heap[b]?:=cK s.w.drew _ c
  grind
def yg{σ:List aV}{s:St}(h:aJ σ s)(vs:List ak):∀ b o v,s.M b o=aa v->(if b=s.w.heap.size then vs[o]? else s.M b o)=aa v:=by
 intro b o v a;have:=h.block a
 grind
theorem ey{P:aq}{s:St}{m:Sem ak}(h:eZ s (m.events P s.w #[])):eZ s ((do pure (.value (<-m)):Sem Next).events P s.w #[]):=by
 simp_all
theorem c6{o:aw}{x y:an}{t g:ar}(h:o.op=.call { callee:=.builtin .append,args:=#[x,y],argTypes:=#[t,g] })(ρ:an->ak) :
  ay ρ o=(do pure (.value (<-Builtin.append_ #[t,g] o.type #[ρ x,ρ y]))):=by
 simp[ay,h,resolve,invoke,builtin]
def Rd.loose{M:Mem}{v:ak}{t:Bool}{k n:Nat}{es:Nat->List C}(h:Rd M v (.sl t k n es)):Rd M v (.sl ae k n es):=by
 cases h with
 |sl b off f a hb ht hk ha hm hr=>exact .sl b off f a hb (by simp) hk ha hm hr
def Rd.DF{M:Mem}{v:ak}{t:Bool}{k n:Nat}{es es':Nat->List C}(e:∀ i,i<n->es i=es' i)(h:Rd M v (.sl t k n es)):Rd M v (.sl t k n es'):=by
 cases h with
 |sl b off f a hb ht hk ha hm hr=>exact .sl b off f a hb ht (λi hi=>by grind) ha (λi hi j c hj=>hm i hi j c (by grind)) (λi hi j c hj=>hr i hi j c (by grind))
def Rd.uX{M:Mem}{v:ak}{k k' n:Nat}{es:Nat->List C}(c:k=k'∨n=0)(h:Rd M v (.sl ab k n es)):Rd M v (.sl ab k' n es):=by
 rcases c with rfl|rfl
 .exact h
 .obtain⟨a,cap,vs,e,f,b,j,_⟩:=h.flat
  grind [Rd.jJ]
def pP{σ:List aV}{s:St}{l:Nat}{E:ar}{k n:Nat}{es:Nat->List C}{L:Loc}(a:σ[l]?=aa (.vec E k n es))(b:s.β[l]?=aa L)(h:eP σ s (.vec E k n es) L):gx σ s L.v (.vec l k n es):=by
 refine⟨h.1,(cr.1 a).1,λc k' n' es' he=>?_⟩
 grind
def bH.oU{P:aq}{o:aw}{N:an->D}{σ:List aV}{x y:an}{E:ar}{d:TI}(h:mj P o x y E d){n m k:Nat}{tx:Bool}{es es':Nat->List C}
  (hx:N x=.e (.one (.c (.sl ab k n es)))) (X:k=d.size∨n=0) (hy:∀ s v,dc σ s v (N y)->Rd s.M v (.sl tx d.size m es')) (hb:(n+m)*d.bytes<=140737488355328) (hz:n=0∨0<m) :
  bH P o N σ (.e (.one (.vec σ.length d.size (n+m) (cR n es es')))) (σ++[.vec E d.size (n+m) (cR n es es')]):=by
 intro s ρ hh hr;obtain⟨t,g,i,i2,R,hi,K,A,z⟩:=h.op;have h1:=hr x;rw[hx] at h1;have f:=Rd.uX X (fy h1);have h2:=hy s _ (hr y);obtain⟨a,cap,vs,hv,B,Y,ht,hF,V⟩:=f.flat;have Q:cap=n:=ht rfl;subst Q;rw[c6 R];rw[hv] at f ⊢
 by_cases h0:m=0
 .subst h0;have r:=jc (P:=P) (ty:=o.type) hi K A z h.elem hh (a:=a) B h2;simp only[iO];have f:=Rd.DF (es':=cR cap es es') (λi hi=>by grind) f
  have I:eP (σ++[.vec E d.size cap (cR cap es es')]) { s with β:=s.β++[⟨.slice a cap cap,[]⟩] } (.vec E d.size cap (cR cap es es')) ⟨.slice a cap cap,[]⟩:=⟨f.loose,.inl ⟨⟨rfl,by omega⟩,f⟩⟩
  obtain⟨L,g2⟩:=hh.gT (.refl _ _) rfl hh I (by simp)
  refine⟨.value (.slice a cap cap),_,?_,?_,L,g2,ey (jI hi K A z h.elem hh B h2)⟩
  .simp[r]
  .exact pP (by simp) (by simp[<-hh.len]) I
 .have W:cap<cap+m:=by omega
  obtain⟨l,G,j,J,O,S,H,r⟩:=im (P:=P) (ty:=o.type) hi K A z h.elem hh f h2 W hb h.bytes;have F:aJ σ (s.grown E l G s.β)/\Step σ s σ (s.grown E l G s.β) :=
   hh.grow (by simp) (λb hb=>cK s.w.drew _ hb) (λb hb o=>by grind)
    (λb hb o v V=>yf hh E l G b o v V) rfl rfl rfl
  have U:Rd (s.grown E l G s.β).M (.slice (aa ⟨s.w.heap.size,0,af⟩) (cap+m) j) (.sl ae d.size (cap+m) (cR cap es es')) :=
   Rd.qw (J.mono F.2.mem) (b:=s.w.heap.size) (off:=0) (λ_=>rfl) O S (by simp) (λp u Z=>by simpa[St.grown] using Z)
  have I:eP (σ++[.vec E d.size (cap+m) (cR cap es es')]) { (s.grown E l G s.β) with β:=(s.grown E l G s.β).β++[⟨.slice (aa ⟨s.w.heap.size,0,af⟩) (cap+m) j,[s.w.heap.size]⟩] } (.vec E d.size (cap+m) (cR cap es es')) ⟨.slice (aa ⟨s.w.heap.size,0,af⟩) (cap+m) j,[s.w.heap.size]⟩:=by
   refine⟨U,.inr ⟨s.w.heap.size,j,l++G,rfl,dx s.w.drew _,H,λo R=>?_⟩⟩
   have hl:l.length<=o:=by rw[J.len];exact R
   simp[St.grown,q8 hl]
  obtain⟨L,g2⟩:=F.1.gT F.2 rfl hh I (λb hb=>by
   simp at hb;subst hb;refine⟨bg _,?_⟩;simp[St.grown])
  refine⟨.value (.slice (aa ⟨s.w.heap.size,0,af⟩) (cap+m) j),_,?_,?_,L,g2,ey (iV hi K A z h.elem hh f h2 W hb h.bytes)⟩
  .simp[r];rfl
  .exact pP (by simp) (by simp[St.grown,<-hh.len]) I
def bH.GR{P:aq}{o:aw}{η:an->D}{σ:List aV}{x y:an}{E:ar}{d:TI}(h:mj P o x y E d){l n m:Nat}{tx:Bool}{es es':Nat->List C}
  (hx:η x=.e (.one (.vec l d.size n es))) (hl:σ[l]?=aa (.vec E d.size n es)) (hy:∀ s v,dc σ s v (η y)->Rd s.M v (.sl tx d.size m es')) (hb:(n+m)*d.bytes<=140737488355328) :
  bH P o η σ (.e (.one (.vec l d.size (n+m) (cR n es es')))) (σ.set l (.vec E d.size (n+m) (cR n es es'))):=by
 intro s ρ hh hr;obtain⟨t,g,i,i2,ho,hi,Z,K,H⟩:=h.op;have QH:l<σ.length:=(cr.1 hl).1;have h1:=hr x;rw[hx] at h1;obtain⟨R,_,h1v⟩:=h1;obtain⟨L,V,hv⟩:=(h1v _ _ _ _ hl).2 rfl;have h2:=hy s _ (hr y);have QI:l<s.β.length:=(cr.1 V).1;have N:=hh.box l _ L hl V;obtain⟨a,cap,vs,PG,U,No,ht,hF,hm⟩:=R.flat;rw[c6 ho,PG];rw[PG] at R;have S:L.v=.slice a n cap:=by grind
 by_cases h0:m=0
 .subst h0;have B:=jc (P:=P) (ty:=o.type) hi Z K H h.elem hh (a:=a) U h2;simp only[iO];have ha:∀ i,i<n->es i=cR n es es' i:=λi hi=>by simp[cR,hi]
  have VW:eP (σ.set l (.vec E d.size n (cR n es es'))) ⟨s.β.set l L,s.M,s.w,s.own⟩ (.vec E d.size n (cR n es es')) L:=by
   refine⟨N.1.DF ha,?_⟩;rcases N.2 with⟨h3,h4⟩|h3
   .exact .inl ⟨h3,h4.DF ha⟩
   grind
  have f:=hh.iP (M':=s.M) (w':=s.w) (B':=.vec E d.size n (cR n es es')) (L':=L) hl V ⟨λ_=>rfl,bg _⟩ (bg _) (λ_ _ _=>rfl) (λ_ _ _ _=>rfl) (λ_ _ _ h=>h) hh.mem
   (λb hb=>⟨.inl hb,hh.lt L (bU V) b hb⟩) rfl rfl rfl VW
  refine⟨.value (.slice a n cap),_,?_,?_,f.1,f.2,ey (jI hi Z K H h.elem hh U h2)⟩
  .simp[B]
  .rw[<-S];exact pP (E:=E) (by grind) (by grind) VW
 .have O:¬(n+m=n):=by omega
  by_cases k:n+m<=cap
  .rcases N.2 with⟨TG,F⟩|⟨b,Jc,z,rfl,hw,Q,X⟩
   .rw[S] at F;obtain⟨_,_,_,e,_,_,ht2,_⟩:=F.flat
    grind
   .simp only at S;cases S;obtain⟨c,M5,B⟩:=kh (P:=P) (ty:=o.type) hi Z K H h.elem hh hw Q h2 k;have TC:c.length=m*d.size:=M5.len;have WJ:b<s.w.heap.size:=(ia.1 hw).1
    let M':Mem:=λG o=>if G=b/\n*d.size<=o/\o<(n+m)*d.size then c[o-n*d.size]? else s.M G o
    have M6:z.length=cap*d.size:=Q;have hnm:(n+m)*d.size=n*d.size+m*d.size:=gR _ _ _;have WK:(n+m)*d.size<=cap*d.size:=et _ k;have ZC:∀ G o v,s.M G o=aa v->M' G o=aa v:=by
     grind
    have QF:∀ p u,c[p]?=aa u->M' b (n*d.size+p)=aa u:=by
     grind
    have Y:Rd M' (.slice (aa ⟨b,0,af⟩) (n+m) cap) (.sl ae d.size (n+m) (cR n es es')):=by
     refine Rd.qw (vs:=vs++c) ((hF.append M5).mono ZC) (b:=b) (off:=0) (λ_=>rfl) k No (by simp) (λp u hp=>?_)
     have PF:vs.length=n*d.size:=hF.len
     grind
    have f:=hh.iP (M':=M') (w':=s.w.setRow b (z.take (n*d.size)++c++z.drop (n*d.size+c.length)).toArray) (B':=.vec E d.size (n+m) (cR n es es')) (L':=⟨.slice (aa ⟨b,0,af⟩) (n+m) cap,[b]⟩) hl V
     ⟨λe=>absurd e O,by omega⟩ (by simp) (λG _ I=>setRow_other _ _ _ _ (by grind)) (λG _ I o=>by
      grind) ZC ?_ (λG I=>by
      simp at I;subst I;exact⟨.inl (by simp),by simpa using WJ⟩) rfl rfl rfl ?_
    .refine⟨.value (.slice (aa ⟨b,0,af⟩) (n+m) cap),_,?_,?_,f.1,f.2,ey (lQ hi Z K H h.elem hh hw Q h2 k (bU V) (by simp) X)⟩
     .simp[B]
     .exact pP (L:=⟨.slice (aa ⟨b,0,af⟩) (n+m) cap,[b]⟩) (E:=E) (by grind) (by grind) (f.1.box l _ _ (by grind) (by grind))
    .intro G o v J
     by_cases I:G=b
     .subst I;have W:∀ j,(s.w.setRow G (z.take (n*d.size)++c++z.drop (n*d.size+c.length)).toArray).cell? ⟨G,j,af⟩=(z.take (n*d.size)++c++z.drop (n*d.size+c.length))[j]?:=by
       grind [cell_setRow_same]
      rw[W];simp only[M'] at J;have hkl:(z.take (n*d.size)).length=n*d.size:=by rw[List.length_take];omega
      split at J
      .grind
      .rename_i hc
       have h3:=hh.mem G o v J;have ho:o<n*d.size:=by
        grind
       rw[j8,jD (by omega),gQ,bd ho]
       simp only[a9,hw] at h3
       grind
     .simp only[M'] at J;rw[aY (by omega)] at J
      rw[<-hh.mem G o v J];simp only[a9]
      grind [setRow_other]
    .refine⟨Y,.inr ⟨b,cap,_,rfl,setRow_heap _ _ _ _ _ _ hw,?_,λo ho=>?_⟩⟩
     .grind
     grind
  .have hg:cap<n+m:=by omega
   obtain⟨A,zs,r,TD,VX,VY,hlen,B⟩:=im (P:=P) (ty:=o.type) hi Z K H h.elem hh R h2 hg hb h.bytes;have hbl:∀ b∈L.bs,b<s.w.heap.size:=hh.lt L (bU V);have Y:Rd (λb o=>if b=s.w.heap.size then A[o]? else s.M b o) (.slice (aa ⟨s.w.heap.size,0,af⟩) (n+m) r) (.sl ae d.size (n+m) (cR n es es')) :=
    Rd.qw (TD.mono (yg hh A)) (b:=s.w.heap.size) (off:=0) (λ_=>rfl) VX VY (by simp) (λp u hp=>by grind)
   have f:=hh.iP (M':=λb o=>if b=s.w.heap.size then A[o]? else s.M b o) (w':=s.w.drew.alloc (.cells (A++zs).toArray E)) (B':=.vec E d.size (n+m) (cR n es es')) (L':=⟨.slice (aa ⟨s.w.heap.size,0,af⟩) (n+m) r,[s.w.heap.size]⟩) hl V
    ⟨λe=>absurd e O,by omega⟩ (by simp) (λb hb _=>cK s.w.drew _ hb) (λb hb _ o=>by grind) (yg hh A) (yf hh E A zs) (λb hb=>by
     simp at hb;subst hb;exact⟨.inr (bg _),by simp⟩) rfl rfl rfl ⟨Y,.inr ⟨s.w.heap.size,r,A++zs,rfl,dx s.w.drew _,hlen,λo ho=>by
      have hl:A.length<=o:=by rw[TD.len];exact ho
      grind⟩⟩
   refine⟨.value (.slice (aa ⟨s.w.heap.size,0,af⟩) (n+m) r),_,?_,?_,f.1,f.2,ey (iV hi Z K H h.elem hh R h2 hg hb h.bytes)⟩
   .simp[B]
   .exact pP (L:=⟨.slice (aa ⟨s.w.heap.size,0,af⟩) (n+m) r,[s.w.heap.size]⟩) (E:=E) (by grind) (by grind) (f.1.box l _ _ (by grind) (by grind))
section
open Go.Conc (G)
def kL{α:Type}:List Nat->List α->Option (List α)
 |[],_=>aa []
 |k::ks,l=>match fw k l with
  |some x=>match kL ks l with
   |some r=>aa (x::r)
   |none=>af
  |none=>af
def e9{α:Type}:∀ (n:Nat)(l:List α),fw n l=l[n]?
 |_,[]=>by simp[fw]
 |0,x::_=>by simp[fw]
 |n+1,_::xs=>by simpa[fw] using e9 n xs
def iC{α:Type}:∀ {ks:List Nat}{l r:List α},kL ks l=aa r->r.length=ks.length/\∀ (j k:Nat),ks[j]?=aa k->∃ x,r[j]?=aa x/\l[k]?=aa x
 |[],l,r,h=>by cases h;simp
 |k::ks,l,r,h=>by
  simp only[kL] at h;cases b:fw k l with
  |none=>grind
  |some x =>
   cases a:kL ks l with
   |none=>grind
   |some q =>
    simp[b,a] at h;subst h;obtain⟨d,c⟩:=iC a
    grind [dz]
def zC{α c:Type}:∀ {ks:List Nat}{l r:List α}{l':List c},kL ks l=aa r->l'.length=l.length->∃ r',kL ks l'=aa r'
 |[],l,r,l',_,_=>⟨[],rfl⟩
 |k::ks,l,r,l',h,b=>by
  simp only[kL] at h;cases f:fw k l with
  |none=>grind
  |some x =>
   cases d:kL ks l with
   |none=>grind
   |some q =>
    obtain⟨r',a⟩:=zC (l':=l') d b;have e:k<l'.length:=by rw[b];exact(cr.1 (dz f)).1
    exact⟨l'[k]::r',by simp[kL,e9,e,a]⟩
def oH(ks:List Nat):A->A
 |.ptr l o=>match fw l ks with|some k=>.ptr k o|none=>.any
 |.vec l k n es=>match fw l ks with|some m=>.vec m k n es|none=>.c (.sl ae k n es)
 |.ref l=>match fw l ks with|some k=>.ref k|none=>.any
 |.bp l w=>match fw l ks with|some k=>.bp k w|none=>.any
 |.c x=>.c x
 |.any=>.any
def Bx(ks:List Nat):List A->List A
 |[]=>[]
 |a::r=>oH ks a::Bx ks r
def zD(ks:List Nat):E1->E1
 |.one a=>.one (oH ks a)
 |.agg cs=>.agg (Bx ks cs)
def yj(ks:List Nat):List E1->List E1
 |[]=>[]
 |a::r=>zD ks a::yj ks r
def jA(ks:List Nat):D->D
 |.e x=>.e (zD ks x)
 |.eK xs=>.eK (yj ks xs)
 |.any=>.any
def iX(ks:List Nat):List D->List D
 |[]=>[]
 |a::r=>jA ks a::iX ks r
def DT:A->Bool
 |.c _|.any=>ab
 |_=>ae
def zE:List A->Bool
 |[]=>ab
 |a::r=>match DT a with|true=>zE r|false=>ae
def vC:aV->Bool
 |.cells _ cs=>zE cs
 |.loop ..=>ae
 |_=>ab
def cX:List aV->Bool
 |[]=>ab
 |a::r=>match vC a with|true=>cX r|false=>ae
def kM:∀ {l:List aV},cX l=ab->∀ B∈l,vC B=ab
 |[],_,B,a=>by grind
 |b::r,h,B,a=>by
  simp only[cX] at h;cases c:vC b with
  |false=>grind
  |true =>
   simp only[c] at h;rcases fb.1 a with rfl|a
   .exact c
   .exact kM h B a
def dW.plain{σ σ':List aV}{s s':St}(e:s'.M=s.M):∀ {vs:List ak}{cs:List A},zE cs=ab->dW σ s vs cs->dW σ' s' vs cs
 |[],[],_,_=>trivial
 |[],_::_,_,h=>h.elim
 |_::_,[],_,h=>h.elim
 |v::vs,a::al,b,h=>by
  simp only[zE] at b;cases d:DT a with
  |false=>grind
  |true =>
   simp only[d] at b;refine⟨?_,dW.plain e b h.2⟩;cases a with
   |c x=>have:=h.1;simp only[gx] at this ⊢;grind
   |any=>exact h.1
   |_=>simp[DT] at d
def eP.plain{σ σ':List aV}{s s':St}(a:s'.M=s.M)(c:s'.w=s.w){B:aV}{L:Loc}(d:vC B=ab)(h:eP σ s B L):eP σ' s' B L:=by
 cases B with
 |cells E cs =>
  obtain⟨b,vs,h1,h2,e,f⟩:=h;exact⟨b,vs,h1,by grind,e.plain a d,λo=>by rw[a];grind⟩
 |vec E k n es=>simp only[eP,a,c] at h ⊢;exact h
 |dD H=>simp only[eP,a,c] at h ⊢;exact h
 |dead=>trivial
 |loop N φ r=>simp[vC] at d
 |qV=>simp only[eP,a,c] at h ⊢;exact h
 |buf E k n es=>simp only[eP,a,c] at h ⊢;exact h
def fK:Nat->List Nat->Bool
 |_,[]=>ae
 |k,x::r=>match aG k x with|true=>ab|false=>fK k r
def eg:List Nat->Bool
 |[]=>ab
 |k::r=>match fK k r with|true=>ae|false=>eg r
theorem rI:∀ {k:Nat}{l:List Nat},k∈l->fK k l=ab
 |k,[],h=>by grind
 |k,x::r,h=>by
  simp only[fK];cases a:aG k x with
  |true=>rfl
  |false =>
   rcases fb.1 h with rfl|h
   .grind [Nat.beq_refl]
   .exact rI h
def vD:∀ {l:List Nat},eg l=ab->∀ (i j k:Nat),l[i]?=aa k->l[j]?=aa k->i=j
 |[],_,i,j,k,hi,_=>by grind
 |x::r,h,i,j,k,hi,a=>by
  simp only[eg] at h;cases c:fK x r with
  |true=>grind
  |false =>
   simp only[c] at h;have no:∀ q,r[q]?=aa x->False:=λq b=>by
    have:=rI (bU b)
    grind
   cases i with
   |zero =>
    grind
   |succ i =>
    cases j with
    |zero =>
     grind
    |succ j =>
     simp at hi a;rw[vD h i j k hi a]
def GX(n:Nat):A->Bool
 |.ptr l _|.vec l _ _ _|.ref l|.bp l _=>bo (l+1) n
 |_=>ab
def DU(n:Nat):List A->Bool
 |[]=>ab
 |a::r=>match GX n a with|true=>DU n r|false=>ae
def Jr(n:Nat):E1->Bool
 |.one a=>GX n a
 |.agg cs=>DU n cs
def xG(n:Nat):List E1->Bool
 |[]=>ab
 |a::r=>match Jr n a with|true=>xG n r|false=>ae
def u7(n:Nat):D->Bool
 |.e x=>Jr n x
 |.eK xs=>xG n xs
 |.any=>ab
def oF(n:Nat):List D->Bool
 |[]=>ab
 |a::r=>match u7 n a with|true=>oF n r|false=>ae
section sub
variable {ks:List Nat}{σ σ':List aV}{s:St}{β':List Loc}
def gx.sub(p:kL ks σ=aa σ')(m:kL ks s.β=aa β'){v:ak}{a:A}(d:gx σ s v (oH ks a))(e:GX ks.length a=ab):gx σ' { s with β:=β' } v a:=by
 obtain⟨z,j⟩:=iC p;obtain⟨u,g2⟩:=iC m;cases a with
 |c x=>exact d
 |any=>exact d
 |ptr l o =>
  have hl:l<ks.length:=db e;simp only[oH,e9,br hl] at d;obtain⟨h1,L,b,h2,f,q⟩:=d;obtain⟨x,i,t⟩:=j l _ (br hl);obtain⟨y,h,g⟩:=g2 l _ (br hl);rw[g] at h2;cases h2;exact⟨λB r=>h1 B (by grind),L,b,h,f,q⟩
 |vec l k n es =>
  have hl:l<ks.length:=db e;simp only[oH,e9,br hl] at d;obtain⟨h1,h2,f⟩:=d;obtain⟨x,i,t⟩:=j l _ (br hl);obtain⟨y,h,g⟩:=g2 l _ (br hl);refine⟨h1,by grind,λE k' n' es' r=>?_⟩
  grind
 |ref l =>
  have hl:l<ks.length:=db e;simp only[oH,e9,br hl] at d;obtain⟨h1,L,h2,f,q⟩:=d;obtain⟨x,i,t⟩:=j l _ (br hl);obtain⟨y,h,g⟩:=g2 l _ (br hl);rw[g] at h2;cases h2;exact⟨λB r=>h1 B (by grind),L,h,f,q⟩
 |bp l w =>
  have hl:l<ks.length:=db e;simp only[oH,e9,br hl] at d;obtain⟨lv,h1,h2,f⟩:=d;obtain⟨x,i,t⟩:=j l _ (br hl);obtain⟨y,h,g⟩:=g2 l _ (br hl);refine⟨lv,h1,(cr.1 i).1,λE k n es r=>?_⟩
  grind
def gx.m7{σ2:List aV}{s2:St}(u:s2.M=s.M)(e:∀ (j:Nat)(B:aV),σ[j]?=aa B->∃ k,ks[j]?=aa k/\σ2[k]?=aa B)(h:∀ (j:Nat)(L:Loc),s.β[j]?=aa L->∃ k,ks[j]?=aa k/\s2.β[k]?=aa L)(t:s.β.length=σ.length)
  {v:ak} {a:A} (f:gx σ s v a):gx σ2 s2 v (oH ks a):=by
 cases a with
 |c x=>simp only[oH,gx,u];exact f
 |any=>exact f
 |ptr l o =>
  obtain⟨h1,L,b,h2,g,m⟩:=f;obtain⟨k,k1,q⟩:=h l L h2;have hl:l<σ.length:=by grind
  obtain⟨k',d,p⟩:=e l _ (br hl);rw[k1] at d;cases d;simp only[oH,e9,k1];refine⟨λB r=>?_,L,b,q,g,m⟩
  grind
 |vec l k n es =>
  obtain⟨h1,h2,g⟩:=f;obtain⟨k1,i,p2⟩:=e l _ (br h2);simp only[oH,e9,i];refine⟨by grind,(cr.1 p2).1,λE k' n' es' r=>?_⟩
  grind
 |ref l =>
  obtain⟨h1,L,h2,g,m⟩:=f;obtain⟨k,k1,q⟩:=h l L h2;have hl:l<σ.length:=by grind
  obtain⟨k',d,p⟩:=e l _ (br hl);rw[k1] at d;cases d;simp only[oH,e9,k1];refine⟨λB r=>?_,L,q,g,m⟩
  grind
 |bp l w =>
  obtain⟨lv,h1,h2,g⟩:=f;obtain⟨k1,i,p2⟩:=e l _ (br h2);simp only[oH,e9,i];refine⟨lv,h1,(cr.1 p2).1,λE k' n' es' r=>?_⟩
  grind
def dW.sub(b:kL ks σ=aa σ')(c:kL ks s.β=aa β'):∀ {vs:List ak}{cs:List A},dW σ s vs (Bx ks cs)->DU ks.length cs=ab->dW σ' { s with β:=β' } vs cs
 |[],[],_,_=>trivial
 |[],_::_,h,_=>h.elim
 |_::_,[],h,_=>h.elim
 |v::vs,a::al,h,d=>by
  simp only[DU] at d;cases e:GX ks.length a with
  |false=>grind
  |true=>simp only[e] at d;exact⟨h.1.sub b c e,dW.sub b c h.2 d⟩
def mY.sub(b:kL ks σ=aa σ')(c:kL ks s.β=aa β'){v:ak}{x:E1}(h:mY σ s v (zD ks x))(d:Jr ks.length x=ab):mY σ' { s with β:=β' } v x:=by
 cases x with
 |one a=>exact gx.sub b c h d
 |agg cs=>obtain⟨vs,h1,h2⟩:=h;exact⟨vs,h1,h2.sub b c d⟩
def gJ.sub(b:kL ks σ=aa σ')(c:kL ks s.β=aa β'):∀ {vs:List ak}{xs:List E1},gJ σ s vs (yj ks xs)->xG ks.length xs=ab->gJ σ' { s with β:=β' } vs xs
 |[],[],_,_=>trivial
 |[],_::_,h,_=>h.elim
 |_::_,[],h,_=>h.elim
 |v::vs,a::al,h,d=>by
  simp only[xG] at d;cases e:Jr ks.length a with
  |false=>grind
  |true=>simp only[e] at d;exact⟨h.1.sub b c e,gJ.sub b c h.2 d⟩
def dc.sub(a:kL ks σ=aa σ')(b:kL ks s.β=aa β'){v:ak}{d:D}(h:dc σ s v (jA ks d))(c:u7 ks.length d=ab):dc σ' { s with β:=β' } v d:=by
 cases d with
 |e x=>exact mY.sub a b h c
 |eK xs=>obtain⟨vs,h1,h2⟩:=h;exact⟨vs,h1,h2.sub a b c⟩
 |any=>trivial
def cz.sub(b:kL ks σ=aa σ')(c:kL ks s.β=aa β'):∀ {vs:List ak}{ds:List D},cz σ s vs (iX ks ds)->oF ks.length ds=ab->cz σ' { s with β:=β' } vs ds
 |[],[],_,_=>trivial
 |[],_::_,h,_=>h.elim
 |_::_,[],h,_=>h.elim
 |v::vs,a::al,h,d=>by
  simp only[oF] at d;cases e:u7 ks.length a with
  |false=>grind
  |true=>simp only[e] at d;exact⟨h.1.sub b c e,cz.sub b c h.2 d⟩
variable {σ2:List aV}{s2:St}
def dW.m7(d:s2.M=s.M)(b:∀ (j:Nat)(B:aV),σ[j]?=aa B->∃ k,ks[j]?=aa k/\σ2[k]?=aa B)(c:∀ (j:Nat)(L:Loc),s.β[j]?=aa L->∃ k,ks[j]?=aa k/\s2.β[k]?=aa L)(a:s.β.length=σ.length) :
  ∀ {vs:List ak} {cs:List A},dW σ s vs cs->dW σ2 s2 vs (Bx ks cs)
 |[],[],_=>trivial
 |[],_::_,h=>h.elim
 |_::_,[],h=>h.elim
 |_::_,_::_,h=>⟨h.1.m7 d b c a,dW.m7 d b c a h.2⟩
def mY.m7(e:s2.M=s.M)(c:∀ (j:Nat)(B:aV),σ[j]?=aa B->∃ k,ks[j]?=aa k/\σ2[k]?=aa B)(d:∀ (j:Nat)(L:Loc),s.β[j]?=aa L->∃ k,ks[j]?=aa k/\s2.β[k]?=aa L)(b:s.β.length=σ.length)
  {v:ak} {x:E1} (h:mY σ s v x):mY σ2 s2 v (zD ks x):=by
 cases x with
 |one a=>exact gx.m7 e c d b h
 |agg cs=>obtain⟨vs,h1,h2⟩:=h;exact⟨vs,h1,h2.m7 e c d b⟩
def gJ.m7(d:s2.M=s.M)(b:∀ (j:Nat)(B:aV),σ[j]?=aa B->∃ k,ks[j]?=aa k/\σ2[k]?=aa B)(c:∀ (j:Nat)(L:Loc),s.β[j]?=aa L->∃ k,ks[j]?=aa k/\s2.β[k]?=aa L)(a:s.β.length=σ.length) :
  ∀ {vs:List ak} {xs:List E1},gJ σ s vs xs->gJ σ2 s2 vs (yj ks xs)
 |[],[],_=>trivial
 |[],_::_,h=>h.elim
 |_::_,[],h=>h.elim
 |_::_,_::_,h=>⟨h.1.m7 d b c a,gJ.m7 d b c a h.2⟩
def dc.m7(f:s2.M=s.M)(b:∀ (j:Nat)(B:aV),σ[j]?=aa B->∃ k,ks[j]?=aa k/\σ2[k]?=aa B)(c:∀ (j:Nat)(L:Loc),s.β[j]?=aa L->∃ k,ks[j]?=aa k/\s2.β[k]?=aa L)(a:s.β.length=σ.length)
  {v:ak} {d:D} (h:dc σ s v d):dc σ2 s2 v (jA ks d):=by
 cases d with
 |e x=>exact mY.m7 f b c a h
 |eK xs=>obtain⟨vs,h1,h2⟩:=h;exact⟨vs,h1,h2.m7 f b c a⟩
 |any=>trivial
end sub
def ef.rJ{α:Type}:Nat->α->List α->List α
 |_,_,[]=>[]
 |0,x,_::r=>x::r
 |k+1,x,y::r=>y::ef.rJ k x r
def ef{α:Type}:List Nat->List α->List α->List α
 |[],new,old=>old++new
 |k::ks,x::new,old=>ef ks new (ef.rJ k x old)
 |_::_,[],old=>old
theorem kC{α:Type}:∀ (k:Nat)(x:α)(l:List α),ef.rJ k x l=l.set k x
 |_,_,[]=>by simp[ef.rJ]
 |0,x,_::r=>by simp[ef.rJ]
 |k+1,x,y::r=>by simp[ef.rJ,kC k x r]
def vE{α:Type}:∀ {ks:List Nat}{new old:List α},eg ks=ab->(∀ k∈ks,k<old.length)->ks.length<=new.length ->
  (ef ks new old).length=old.length+(new.length-ks.length)/\(∀ (j k:Nat),ks[j]?=aa k->(ef ks new old)[k]?=new[j]?) /\
  (∀ j,(ef ks new old)[old.length+j]?=new[ks.length+j]?)/\(∀ l,l<old.length->l∉ks->(ef ks new old)[l]?=old[l]?)
 |[],new,old,_,_,_=>by
  refine⟨by simp[ef],by simp,λj=>?_,λl g _=>?_⟩
  .simp only[ef,ib,bt]
   grind
  .simp[ef,jD g]
 |k::ks,[],old,_,_,h=>by grind
 |k::ks,x::new,old,a,b,d=>by
  have e:=a;simp only[eg] at a;cases f:fK k ks with
  |true=>grind
  |false =>
   simp only[f] at a;have n:k<old.length:=b k (by simp)
   have c:k∉ks:=λh=>by grind [rI]
   obtain⟨o,p,i,m⟩:=vE (ks:=ks) (new:=new) (old:=old.set k x) a (λk' ZN=>by grind) (by grind)
   simp only[ef,kC]
   grind
def Ev{P:aq}(X:Cx P)(f:aW)(args:List D)(σ:List aV)(res:D)(σ':List aV):Prop :=
 (∃ fn,P.funcs[f]?=aa fn/\(fn.name== "runtime.NumGoroutine")=ae/\fn.body.isNone=ae) /\
 ∀ s (vs:List ak),cz σ s vs args->aJ σ s->∀ (S:au->St->Prop) (cs:List aR),
  (∀ a v s',ux P f a v s'->dc σ' s' v res->aJ σ' s'->cD σ s σ' s'->ft X S (G a cs) s')->ft X S (G (Frame.enter P f vs.toArray .normal) cs) s
def cM{P:aq}{ι:Type}(X:Cx P)(f:aW)(args:List D)(σ:List aV)(res:ι->D)(σ':ι->List aV):Prop :=
 (∃ fn,P.funcs[f]?=aa fn/\(fn.name== "runtime.NumGoroutine")=ae/\fn.body.isNone=ae) /\
 ∀ s (vs:List ak),cz σ s vs args->aJ σ s->∀ (S:au->St->Prop) (cs:List aR),
  (∀ i a v s',ux P f a v s'->dc (σ' i) s' v (res i)->aJ (σ' i) s'->cD σ s (σ' i) s'->ft X S (G a cs) s')->ft X S (G (Frame.enter P f vs.toArray .normal) cs) s
def Ev.Bm{P:aq}{X:Cx P}{f:aW}{args:List D}{σ:List aV}{res:D}{σ':List aV}(h:Ev X f args σ res σ'):cM (ι:=Unit) X f args σ (λ_=>res) (λ_=>σ') :=
 ⟨h.1,λs vs hr hh S cs hS=>h.2 s vs hr hh S cs (hS ())⟩
def cM.uA{P:aq}{X:Cx P}{f:aW}{args:List D}{σ:List aV}{res:D}{σ':List aV}(h:cM (ι:=Unit) X f args σ (λ_=>res) (λ_=>σ')):Ev X f args σ res σ' :=
 ⟨h.1,λs vs hr hh S cs hS=>h.2 s vs hr hh S cs (λ_=>hS)⟩
def zF(s:St)(a:List Loc):Nat->Prop:=λb=>s.own b∨((∃ L∈s.β,b∈L.bs)/\∀ L∈a,b∉L.bs)
def mU(n:Nat):Nat->List Nat
 |0=>[]
 |m+1=>n::mU (n+1) m
def By:∀ (m n j:Nat),(mU n m)[j]?=if j<m then aa (n+j) else af
 |0,n,j=>by simp[mU]
 |m+1,n,0=>by simp[mU]
 |m+1,n,j+1=>by
  simp only[mU,mN,By m (n+1) j,Nat.add_lt_add_iff_right]
  grind
def frame{ks:List Nat}{σ P σ1:List aV}{s a:St}{m:List Loc}(q:aJ σ s)(O:kL ks σ=aa P)(hβ:kL ks s.β=aa m)(hn:eg ks=ab)
  (hp:cX σ1=ab) (z:aJ σ1 a) (st:cD P { s with β:=m,own:=zF s m } σ1 a) (S:ks.length<=σ1.length) {v:ak} {res:D} (hr:dc σ1 a v res) :
  ∃ s2:St,s2.w=a.w/\dc (ef ks σ1 σ) s2 v (jA (ks++mU σ.length (σ1.length-ks.length)) res)/\aJ (ef ks σ1 σ) s2/\cD σ s (ef ks σ1 σ) s2/\s2.M=a.M/\s2.own=s.own/\∀ L∈s2.β,L∈a.β∨(L∈s.β/\∀ b∈L.bs,∀ L'∈m,b∉L'.bs):=by
 have H:∀ k∈ks,k<σ.length:=by
  intro k N;obtain⟨j,n,rfl⟩:=dH N;obtain⟨x,_,h2⟩:=(iC O).2 j _ (br n)
  grind
 have F:∀ k∈ks,k<s.β.length:=by rw[q.len];exact H
 have K:ks.length<=a.β.length:=by rw[z.len];exact S
 obtain⟨a1,a2,a3,a4⟩:=vE (new:=σ1) (old:=σ) hn H S;obtain⟨b1,b2,b3,b4⟩:=vE (new:=a.β) (old:=s.β) hn F K;obtain⟨c1,c2⟩:=iC O;obtain⟨d1,d2⟩:=iC hβ
 let J:=ks++mU σ.length (σ1.length-ks.length)
 have U:∀ j,j<σ1.length->∃ k,J[j]?=aa k/\(ef ks σ1 σ)[k]?=σ1[j]?/\(ef ks a.β s.β)[k]?=a.β[j]?:=by
  intro j n;rcases cJ j ks.length with p|C
  .refine⟨ks[j],?_,a2 j _ (br p),b2 j _ (br p)⟩
   grind
  .refine⟨σ.length+(j-ks.length),?_,?_,?_⟩
   .simp only[J];rw[gk C,By,bd (by omega)]
   .rw[a3];grind
   .rw[<-q.len,b3];grind
 have f:∀ l L,(ef ks a.β s.β)[l]?=aa L->(∃ j,j<σ1.length/\a.β[j]?=aa L/\(∀ B,(ef ks σ1 σ)[l]?=aa B->σ1[j]?=aa B)/\(∀ k,ks[j]?=aa k->k=l)/\(j≥ks.length->l=σ.length+(j-ks.length))) ∨
   (l<σ.length/\l∉ks/\s.β[l]?=aa L/\(ef ks σ1 σ)[l]?=σ[l]?):=by
  intro l L c;have Y:l<(ef ks a.β s.β).length:=(cr.1 c).1;rcases cJ l σ.length with p|C
  .by_cases r:l∈ks
   .obtain⟨j,n,rfl⟩:=dH r;have N:=br n
    grind
   .exact .inr ⟨p,r,by rw[<-b4 l (by rw[q.len];exact p) r];exact c,a4 l p r⟩
  .rw[b1,z.len,q.len] at Y;refine .inl ⟨ks.length+(l-σ.length),by omega,?_,λB u=>?_,λk N=>?_,λ_=>by omega⟩
   .rw[<-b3,q.len,zu C];exact c
   .rw[<-a3,zu C];exact u
   grind
 have E:∀ L∈m,L∈s.β:=by
  intro L c;obtain⟨j,n,rfl⟩:=dH c;have A:j<ks.length:=by grind
  obtain⟨x,T,R⟩:=d2 j _ (br A)
  grind
 have other:∀ l L,l∉ks->s.β[l]?=aa L->∀ b∈L.bs,b<s.w.heap.size/\∀ L'∈m,b∉L'.bs:=by
  intro l L t c b d;refine⟨q.lt L (bU c) b d,λL' gw oO=>?_⟩
  obtain⟨j,n,rfl⟩:=dH gw;have A:j<ks.length:=by grind
  obtain⟨x,T,R⟩:=d2 j _ (br A);rw[br n] at T;cases T;have:=q.gg l ks[j] L _ c R b d oO
  grind
 have out:∀ b,b<s.w.heap.size->(∀ L∈s.β,b∉L.bs)->∀ L∈m,b∉L.bs:=λb _ h L c=>h L (E L c)
 have ex:Ext σ s (ef ks σ1 σ) ⟨ef ks a.β s.β,a.M,a.w,s.own⟩:=by
  refine⟨st.mem,λl B L u c=>?_⟩
  have p:l<σ.length:=(cr.1 u).1
  by_cases r:l∈ks
  .obtain⟨j,n,rfl⟩:=dH r;have N:=br n;obtain⟨x,T,R⟩:=c2 j _ N;obtain⟨y,y1,y2⟩:=d2 j _ N;rw[u] at R;cases R;rw[c] at y2;cases y2;obtain⟨B',L',p1,p2,p3⟩:=st.box j B L T y1
   grind
  .exact⟨B,L,by grind,by grind,.refl _ _⟩
 refine⟨⟨ef ks a.β s.β,a.M,a.w,s.own⟩,rfl,?_,⟨z.mem,?_,?_,?_,?_,?_⟩,⟨st.size,?_,st.mem,?_,?_,ex.box,st.os,st.tape,st.output,rfl⟩,rfl,rfl,?_⟩
 .refine dc.m7 (s:=a) (s2:=⟨ef ks a.β s.β,a.M,a.w,s.own⟩) (σ2:=ef ks σ1 σ) (ks:=J) rfl (λj B u=>?_) (λj L c=>?_) z.len hr
  .grind
  .obtain⟨k,k1,_,k3⟩:=U j (by rw[<-z.len];grind)
   grind
 .simp only;rw[a1,b1,z.len,q.len]
 .intro l B L u c;rcases f l L c with⟨j,n,g,Q,_⟩|⟨t,r,gw,Z⟩
  .exact eP.plain (σ:=σ1) (s:=a) (s':=⟨ef ks a.β s.β,a.M,a.w,s.own⟩) rfl rfl (kM hp B (bU (Q B u))) (z.box j B L (Q B u) g)
  .rw[Z] at u;refine(q.box l B L u gw).carry ex q.len λb d=>?_
   obtain⟨o1,X⟩:=other l L r gw b d;exact⟨st.eN b (.inr ⟨⟨L,bU gw,d⟩,X⟩),st.jz b o1 X⟩
 .intro l l' L L' c gw b d oO;rcases f l L c with⟨j,n,g,_,TB,hjn⟩|⟨t,r,i,_⟩ <;> rcases f l' L' gw with⟨j',A,G,_,ab0,ab1⟩|⟨Bl,hm',I,_⟩
  .have e:=z.gg j j' L L' g G b d oO
   grind
  .obtain⟨o1,X⟩:=other l' L' hm' I b oO;rcases st.xC L (bU g) b d with h|⟨L0,h0,V⟩
   .grind
   grind
  .obtain⟨o1,X⟩:=other l L r i b d;rcases st.xC L' (bU G) b oO with h|⟨L0,h0,V⟩
   .grind
   grind
  .exact q.gg l l' L L' i I b d oO
 .intro L c b d;obtain⟨l,t,rfl⟩:=dH c;rcases f l _ (br t) with⟨j,n,g,_⟩|⟨_,_,i,_⟩
  .exact z.lt _ (bU g) b d
  .have:=q.lt _ (bU i) b d;have:=st.size
   grind
 .intro b d;refine⟨?_,λL c W=>?_⟩
  .have:=(q.own b d).1;have:=st.size
   grind
  .obtain⟨l,t,rfl⟩:=dH c;rcases f l _ (br t) with⟨j,n,g,_⟩|⟨_,_,i,_⟩
   .have ho:a.own b:=by rw[st.own];exact .inl d
    exact(z.own b ho).2 _ (bU g) W
   .exact(q.own b d).2 _ (bU i) W
 .intro b d;exact st.eN b (.inl d)
 .intro b d WU o;exact st.jz b d (out b d WU) o
 .intro L c b d;obtain⟨l,t,rfl⟩:=dH c;rcases f l _ (br t) with⟨j,n,g,_⟩|⟨_,_,i,_⟩
  .rcases st.xC _ (bU g) b d with h|⟨L0,h0,V⟩
   .grind
   grind
  grind
 .intro L c;obtain⟨l,t,rfl⟩:=dH c;rcases f l _ (br t) with⟨j,n,g,_⟩|⟨_,r,i,_⟩
  .grind
  grind
def eQ:D->Option (aW×List C)
 |.e (.one (.c (.fn (.func f) [] cap)))=>aa (f,cap)
 |_=>af
theorem nQ{σ:List aV}{s:St}{ρ:an->ak}{b:an->D}(a:∀ y,dc σ s (ρ y) (b y)):∀ l:List an,cz σ s (l.map ρ) (l.map b)
 |[]=>trivial
 |x::r=>⟨a x,nQ a r⟩
def cz.append{σ:List aV}{s:St}:∀ {vs vF:List ak}{ds FE:List D},cz σ s vs ds->cz σ s vF FE->cz σ s (vs++vF) (ds++FE)
 |[],_,[],_,_,h=>h
 |[],_,_::_,_,h,_=>h.elim
 |_::_,_,[],_,h,_=>h.elim
 |_::_,_,_::_,_,h,a=>⟨h.1,cz.append h.2 a⟩
def QT:A->A
 |.vec _ k n es=>.c (.sl ae k n es)
 |.c (.sl _ k n es)=>.c (.sl ae k n es)
 |a=>a
def FH{σ:List aV}{s:St}{v:ak}{a:A}(h:gx σ s v a):gx σ s v (QT a):=by
 cases a with
 |vec l k n es=>exact h.1
 |c x=>cases x <;> first|exact h|exact Rd.loose h
 |_=>exact h
def QU:List A->List A
 |[]=>[]
 |a::r=>QT a::QU r
def FI{σ:List aV}{s:St}:∀ {vs:List ak}{cs:List A},dW σ s vs cs->dW σ s vs (QU cs)
 |[],[],_=>trivial
 |[],_::_,h=>h.elim
 |_::_,[],h=>h.elim
 |_::_,_::_,h=>⟨FH h.1,FI h.2⟩
def T2:D->D
 |.e (.one a)=>.e (.one (QT a))
 |.e (.agg cs)=>.e (.agg (QU cs))
 |d=>d
def Nz{σ:List aV}{s:St}{v:ak}{d:D}(h:dc σ s v d):dc σ s v (T2 d):=by
 cases d with
 |e x=>cases x with
  |one a=>exact FH h
  |agg cs=>obtain⟨vs,b,c⟩:=h;exact⟨vs,b,FI c⟩
 |eK xs=>exact h
 |any=>trivial
def ou:List D->List D
 |[]=>[]
 |a::r=>T2 a::ou r
theorem rK{σ:List aV}{s:St}:∀ {vs:List ak}{ds:List D},cz σ s vs ds->cz σ s vs (ou ds)
 |[],[],_=>trivial
 |[],_::_,h=>h.elim
 |_::_,[],h=>h.elim
 |_::_,_::_,h=>⟨Nz h.1,rK h.2⟩
def fY:List C->List D
 |[]=>[]
 |c::r=>.e (.one (.c c))::fY r
theorem lP{σ:List aV}{s:St}:∀ {vs:List ak}{cs:List C},(∀ (j:Nat)(c:C),cs[j]?=aa c->∃ v,vs[j]?=aa v/\Rd s.M v c)->vs.length=cs.length->cz σ s vs (fY cs)
 |[],[],_,_=>trivial
 |[],_::_,_,h=>by grind
 |_::_,[],_,h=>by grind
 |v::vs,c::cs,h,e=>by
  obtain⟨u,a,b⟩:=h 0 c rfl;simp at a;subst a;exact⟨b,lP (λj c d=>by simpa using h (j+1) c (by grind)) (by grind)⟩
def zG{α:Type}{ks:List Nat}{l r:List α}(h:kL ks l=aa r):∀ x∈r,x∈l:=by
 intro x a;obtain⟨c,b⟩:=iC h;obtain⟨j,e,rfl⟩:=dH a;obtain⟨y,f,d⟩:=b j _ (br (by omega))
 grind
def aJ.sub{ks:List Nat}{σ d:List aV}{s:St}{a:List Loc}(hh:aJ σ s)(m:kL ks σ=aa d)(k:kL ks s.β=aa a)(v:cX d=ab)(hn:eg ks=ab) :
  aJ d { s with β:=a,own:=zF s a }/\eR s { s with β:=a,own:=zF s a }:=by
 obtain⟨c1,c2⟩:=iC m;obtain⟨d1,d2⟩:=iC k;have g:∀ L∈a,L∈s.β:=zG k;refine⟨⟨hh.mem,by grind,?_,?_,?_,?_⟩,⟨rfl,λ_ _ _ h=>h,λ_ _ _=>rfl,hh.mem,?_⟩⟩
 .intro j B L t c;have hj:j<ks.length:=by grind
  obtain⟨x,r,u⟩:=c2 j _ (br hj);obtain⟨y,i,p⟩:=d2 j _ (br hj);rw[t] at r;cases r;simp only at c;rw[c] at i;cases i;exact eP.plain (σ:=σ) (s:=s) (s':={ s with β:=a,own:=zF s a }) rfl rfl (kM v B (bU t)) (hh.box _ B L u p)
 .intro j q L L' c f b hb oO;simp only at c f;have hj:j<ks.length:=by grind
  have l:q<ks.length:=by grind
  obtain⟨y,i,p⟩:=d2 j _ (br hj);obtain⟨w,e,n⟩:=d2 q _ (br l);rw[c] at i;cases i;rw[f] at e;cases e;have:=hh.gg _ _ L L' p n b hb oO;exact vD hn j q ks[j] (br hj) (by grind)
 .intro L c b hb;exact hh.lt _ (g L c) b hb
 .rintro b (hb|⟨⟨L,c,hb⟩,o⟩)
  .exact⟨(hh.own b hb).1,λL c=>(hh.own b hb).2 L (g L c)⟩
  .exact⟨hh.lt L c b hb,o⟩
 .rintro b ((hb|⟨⟨L,c,hb⟩,_⟩)|⟨L,c,hb⟩)
  .grind
  .grind
  grind
def eR.back{σ e σ1:List aV}{s c s2:St}{a:List Loc}(hh:aJ σ s)(h1:aJ σ1 c)(st:cD e { s with β:=a,own:=zF s a } σ1 c)(i:s2.w=c.w)(f:s2.M=c.M)(k:s2.own=s.own)
  (d:∀ L∈s2.β,L∈c.β∨(L∈s.β/\∀ b∈L.bs,∀ L'∈a,b∉L'.bs)):eR c s2:=by
 refine⟨i,λb o v h=>by grind,λb _ o=>by rw[f],λb o v h=>by rw[f] at h;exact h1.mem b o v h,?_⟩
 rintro b (hb|⟨L,j,hb⟩)
 .left;rw[st.own];exact .inl (by grind)
 .rcases d L j with h|⟨h,g⟩
  .grind
  .left;rw[st.own];exact .inr ⟨⟨L,h,hb⟩,g b hb⟩
def sY{P:aq}{ι:Type}{X:Cx P}{S:au->St->Prop}{b:aR}{k:List Item}{cs:List aR}{a:Act}{s:St}{ops:Array aw}{i:Nat}{rest:List Nat}{o:aw}{ks:List Nat}{σ g:List aV}{σ1:ι->List aV}{f:aW}{d:List D}{res:ι->D}{vs:List ak}
  (hb:b.kind≠.early) (ho:ops[i]?=aa o) (hw:bj o (yielded ops a.tmps)=ab) (hh:aJ σ s) (H:∀ w,(ay a.eval o).run P w=.ok (.enter f vs.toArray) w) (C:∀ w,(ay a.eval o).events P w #[]=#[])
  (K:cM X f d g res σ1) (t:cz σ s vs (iX ks d)) (I:oF ks.length d=ab) (p:kL ks σ=aa g) (hp:cX g=ab) (Y:∀ j,cX (σ1 j)=ab) (hn:eg ks=ab) (R:∀ j,ks.length<=(σ1 j).length)
  (h:∀ j v s',dc (ef ks (σ1 j) σ) s' v (jA (ks++mU σ.length ((σ1 j).length-ks.length)) (res j))->aJ (ef ks (σ1 j) σ) s'->cD σ s (ef ks (σ1 j) σ) s'->ft X S (G (b.aT (a.put o.dst v) (.inRegion ops rest::k)) cs) s') :
  ft X S (G (b.aT a (.inRegion ops (i::rest)::k)) cs) s:=by
 obtain⟨_,r⟩:=K;refine .next rfl λn N=>?_
 have O:=X.ik N;have e:=hh.rely O;obtain⟨m,x⟩:=zC (l':=n.β) p e.len;obtain⟨z,Q⟩:=e.sub p x hp hn;have q:cz σ n vs (iX ks d):=t.mono O.stepW.ext hh.len;have E:cz g { n with β:=m,own:=zF n m } vs d:=(q.sub (s:=n) p x I).mono (σ:=g) (s:={ n with β:=m }) (σ':=g) (s':={ n with β:=m,own:=zF n m }) ⟨λ_ _ _ h=>h,λl B L hB hL=>⟨B,L,hB,hL,.refl _ _⟩⟩ z.len
 refine⟨_,n,_,oS ho hw hb (H n.w),?_,.ghost Q (r _ vs E z S _ λj fr v s2 hl mQ Dr oB=>?_)⟩
 .refine⟨⟨σ,σ,e,e,.refl _ _⟩,eZ.seen ?_⟩;rw[C];exact .nil
 refine pM (cs:=cs) (c:=b.aT a (.inRegion ops (i::rest)::k)) Dr hl λs3 u=>?_
 have F:=Dr.rely u;have A:=oB.trans u.stepW;obtain⟨s4,Z,W,U,T,J,M,y⟩:=frame e p x hn (Y j) F A (R j) (mQ.mono u.stepW.ext Dr.len);refine .ghost (eR.back e F A Z J M y) ?_;have V:=kg (b:=b) (a:=a) (k:=k) ops i rest v;rw[ho] at V;simp only[nF] at V;rw[V];exact h j v s4 W U (O.stepW.trans T)
def Js{P:aq}{X:Cx P}{S:au->St->Prop}{b:aR}{k:List Item}{cs:List aR}{a:Act}{s:St}{ops:Array aw}{i:Nat}{rest:List Nat}{o:aw}{ks:List Nat}{σ e:List aV}{σ1:List aV}{f:aW}{c:List D}{res:D}{vs:List ak}
  (y:b.kind≠.early) (u:ops[i]?=aa o) (z:bj o (yielded ops a.tmps)=ab) (t:aJ σ s) (j:∀ w,(ay a.eval o).run P w=.ok (.enter f vs.toArray) w) (g:∀ w,(ay a.eval o).events P w #[]=#[])
  (l:Ev X f c e res σ1) (d:cz σ s vs (iX ks c)) (q:oF ks.length c=ab) (n:kL ks σ=aa e) (x:cX e=ab) (m:cX σ1=ab) (r:eg ks=ab) (p:ks.length<=σ1.length)
  (h:∀ v s',dc (ef ks σ1 σ) s' v (jA (ks++mU σ.length (σ1.length-ks.length)) res)->aJ (ef ks σ1 σ) s'->cD σ s (ef ks σ1 σ) s'->ft X S (G (b.aT (a.put o.dst v) (.inRegion ops rest::k)) cs) s') :
  ft X S (G (b.aT a (.inRegion ops (i::rest)::k)) cs) s :=
 sY y u z t j g l.Bm d q n x (λ_=>m) r (λ_=>p) (λ_=>h)
theorem gM{P:aq}{o:aw}{j:an}{xs:Array an}{e:Array ar}(i:o.op=.call { callee:=.value j,args:=xs,argTypes:=e }){f:aW}{fn:Func}(d:P.funcs[f]?=aa fn)(l:(fn.name== "runtime.NumGoroutine")=ae)(h:fn.body.isNone=ae)
  {a:Act} {cs:List ak} (k:a.eval j=.func (.func f) #[] cs.toArray) (w:az) :
  (ay a.eval o).run P w=.ok (.enter f (xs.toList.map a.eval++cs).toArray) w/\(ay a.eval o).events P w #[]=#[]:=by
 have g:(xs.map a.eval++cs.toArray)=(xs.toList.map a.eval++cs).toArray:=by grind
 have c:fn.name≠ "runtime.NumGoroutine":=by grind
 have b:fn.body≠af:=by grind
 constructor
 .simp[ay,i,resolve,k,Deferred.ofValue,invoke,callFunc,d,c,b,g]
 .simp[ay,i,resolve,k,Deferred.ofValue,invoke,callFunc,d,c,b]
def jB.PH{P:aq}{ι:Type}{X:Cx P}{N:Nat}{all rest:List aw}{Q:Fr->List aV->Prop}{φ:Fr}{σ:List aV}{o:aw}{A:an}{xs:Array an}{J:Array ar}
  (hg:∀ σ s a,cx N σ s φ a->bj o (yielded all.toArray a.tmps)=ab) (R:o.op=.call { callee:=.value A,args:=xs,argTypes:=J })
  {f:aW} {cap:List C} (B:eQ (b5 φ A)=aa (f,cap)) (ks:List Nat) {e:List D} {n:List aV} {σ1:ι->List aV} {res:ι->D} (x:cM X f e n res σ1)
  (p:∀ s vs,cz σ s vs (xs.toList.map (b5 φ)++fY cap)->cz σ s vs (iX ks e)) (G:oF ks.length e=ab) (E:kL ks σ=aa n) (W:cX n=ab) (O:∀ j,cX (σ1 j)=ab) (hn:eg ks=ab) (I:∀ j,ks.length<=(σ1 j).length)
  (d:Option Nat) (U:o.dst=d) (Z:∀ t,d=aa t->t<N)
  (k:∀ j,jB X N all rest Q (lC d (jA (ks++mU σ.length ((σ1 j).length-ks.length)) (res j)) φ) (ef ks (σ1 j) σ)):jB X N all (o::rest) Q φ σ:=by
 subst U;intro s a h hh b kk cs S idx hb jH hQ;cases idx with
 |nil=>exact jH.elim
 |cons i idx =>
 obtain⟨hi,jH⟩:=jH;have z:=dX h A;unfold eQ at B;split at B
 case h_2=>cases B
 case h_1 f' Jc he =>
  cases B;rw[he] at z;have m:=fy z;generalize T:a.eval A=fv at m;cases m with
  |fn fs mc hl Bl f1 f2 h1 h2 r1 r2 =>
   have H:fs=[]:=hZ hl;subst H;have r:cz σ s mc (fY cap):=lP (λj c hj=>⟨f2 j,h2 j (by grind),r2 j c hj⟩) Bl
   have y:cz σ s (xs.toList.map a.eval++mc) (iX ks e):=by
    exact p _ _ ((nQ (dX h) xs.toList).append r)
   obtain⟨fn,u,l,g⟩:=x.1;refine sY hb hi (hg _ _ _ h) hh (λw=>(gM R u l g T w).1) (λw=>(gM R u l g T w).2) x y G E W O hn I λj v s' hr lb st=>?_
   refine k j s' _ ?_ lb b kk cs S idx hb jH λM L V a3 q f3 Y K=>hQ M L V a3 q f3 Y (st.trans K)
   cases F:o.dst with
   |none=>exact h.mono st hh.len
   |some t=>exact(h.mono st hh.len).put (Z t F) hr
def jB.PI{P:aq}{ι:Type}{X:Cx P}{N:Nat}{all rest:List aw}{Q:Fr->List aV->Prop}{φ:Fr}{σ:List aV}{o:aw}{q:an}{xs:Array an}{e:Array ar}
  (x:∀ σ s a,cx N σ s φ a->bj o (yielded all.toArray a.tmps)=ab) (w:o.op=.call { callee:=.value q,args:=xs,argTypes:=e })
  {f:aW} {cap:List C} (v:eQ (b5 φ q)=aa (f,cap)) (ks:List Nat) {b:List D} {c:List aV} {σ1:ι->List aV} {res:ι->D} (g:cM X f b c res σ1)
  (m:ou (xs.toList.map (b5 φ)++fY cap)=iX ks b) (p:oF ks.length b=ab) (l:kL ks σ=aa c) (y:cX c=ab) (i:∀ j,cX (σ1 j)=ab) (hn:eg ks=ab) (n:∀ j,ks.length<=(σ1 j).length)
  (d:Option Nat) (r:o.dst=d) (u:∀ t,d=aa t->t<N)
  (k:∀ j,jB X N all rest Q (lC d (jA (ks++mU σ.length ((σ1 j).length-ks.length)) (res j)) φ) (ef ks (σ1 j) σ)):jB X N all (o::rest) Q φ σ :=
 jB.PH x w v ks g (λs vs h=>by grind [rK]) p l y i hn n d r u k
theorem jB.call{P:aq}{X:Cx P}{N:Nat}{all rest:List aw}{Q:Fr->List aV->Prop}{φ:Fr}{σ:List aV}{o:aw}{n:an}{xs:Array an}{g:Array ar}
  (v:∀ σ s a,cx N σ s φ a->bj o (yielded all.toArray a.tmps)=ab) (u:o.op=.call { callee:=.value n,args:=xs,argTypes:=g })
  {f:aW} {cap:List C} (r:eQ (b5 φ n)=aa (f,cap)) (ks:List Nat) {b:List D} {e σ1:List aV} {res:D} (h:Ev X f b e res σ1)
  (c:ou (xs.toList.map (b5 φ)++fY cap)=iX ks b) (m:oF ks.length b=ab) (j:kL ks σ=aa e) (w:cX e=ab) (i:cX σ1=ab) (hn:eg ks=ab) (l:ks.length<=σ1.length)
  (d:Option Nat) (p:o.dst=d) (q:∀ t,d=aa t->t<N)
  (k:jB X N all rest Q (lC d (jA (ks++mU σ.length (σ1.length-ks.length)) res) φ) (ef ks σ1 σ)):jB X N all (o::rest) Q φ σ :=
 jB.PI v u r ks h.Bm c m j w (λ_=>i) hn (λ_=>l) d p q (λ_=>k)
def Names.range(all:List aw):Names all (bh all.toArray.size) all:=by
 have key:∀ (l:List aw) (n:Nat),(∀ j o,l[j]?=aa o->all[n+j]?=aa o)->Names all (List.range' n l.length) l:=by
  intro l
  induction l with
  |nil=>intro n _;trivial
  |cons o r b =>
   intro n h;rw[fa,List.range'_succ];refine⟨by simpa using h 0 o rfl,b (n+1) λj a hj=>?_⟩
   have:=h (j+1) a (by grind)
   grind
 grind [List.range_eq_range']
theorem AW.region{P:aq}{X:Cx P}{N:Nat}{Q:Post}{φ:Fr}{σ:List aV}{id:Nat}{ops:Array aw}(h:jB X N ops.toList ops.toList (λφ σ=>Q .normal φ σ) φ σ):AW X N (.region id ops ae) Q φ σ:=by
 intro s a f hh b k cs S hb hQ;refine .ctl hh rfl (λ_=>pQ) λe h1=>?_
 have:=h e a (f.rely h1 hh) (hh.rely h1) b k cs S (bh ops.size) hb (by simpa using Names.range ops.toList) λc σ' s' a' q g d st=>hQ .normal c σ' s' a' q g d (h1.stepW.trans st)
 simpa using this
def jB.nil{P:aq}{X:Cx P}{N:Nat}{all:List aw}{Q:Fr->List aV->Prop}{φ:Fr}{σ:List aV}(h:Q φ σ):jB X N all [] Q φ σ:=by
 intro s a f hh b k cs S idx _ c d;cases idx with
 |cons i idx=>exact c.elim
 |nil=>exact .ctl hh rfl (λ_=>iW) λe h1=>d φ σ e a h (f.rely h1 hh) (hh.rely h1) h1.stepW
def jB.mono{P:aq}{X:Cx P}{N:Nat}{all rest:List aw}{Q d:Fr->List aV->Prop}{φ:Fr}{σ:List aV}(h:jB X N all rest Q φ σ)(i:∀ φ σ,Q φ σ->d φ σ):jB X N all rest d φ σ :=
 λs a f hh b k cs S idx hb hi hQ=>h s a f hh b k cs S idx hb hi λc σ' s' a' q g e st=>hQ c σ' s' a' (i _ _ q) g e st
def js:Nat->List D->Fr
 |_,[]=>[]
 |i,d::r=>(i,d)::js (i+1) r
def nY:∀ (ds:List D)(i t:Nat),look (js i ds) t=if i<=t then (ds[t-i]?).getD .any else .any
 |[],i,t=>by simp[js,look]
 |d::r,i,t=>by
  simp only[js,look]
  by_cases e:i=t
  .grind [Nat.beq_refl]
  .have:aG i t=ae:=by
    grind [Nat.eq_of_beq_eq_true]
   rw[this];simp only[cond,nY r (i+1) t]
   grind
theorem cz.get{σ:List aV}{s:St}:∀ {vs:List ak}{ds:List D},cz σ s vs ds->vs.length=ds.length/\∀ (j:Nat),dc σ s ((vs[j]?).getD aj) ((ds[j]?).getD .any)
 |[],[],_=>⟨rfl,λj=>by simp[dc]⟩
 |[],_::_,h=>h.elim
 |_::_,[],h=>h.elim
 |v::vs,d::ds,h=>by
  obtain⟨h1,h2⟩:=cz.get h.2;refine⟨by grind,λj=>?_⟩
  cases j with
  |zero=>simpa using h.1
  |succ j=>grind
def xH(φ:Fr):List ResultVar->Option (List D)
 |[]=>aa []
 |.tmp t::r=>match xH φ r with
  |some q=>aa (look φ t::q)
  |none=>af
 |.cell _ _::_=>af
def tO:List D->Option (List E1)
 |[]=>aa []
 |.e x::r=>match tO r with
  |some q=>aa (x::q)
  |none=>af
 |_::_=>af
def rL:List D->Option D
 |[d]=>aa d
 |ds=>match tO ds with
  |some es=>aa (.eK es)
  |none=>af
def fU(a:Act):ResultVar->Sem ak
 |ResultVar.tmp t=>pure (a.tmps.getD t aj)
 |ResultVar.cell ad t=>do loadVar t (<-asAddr (a.tmps.getD ad aj))
def FJ(P:aq){N:Nat}{σ:List aV}{s:St}{φ:Fr}{a:Act}(f:cx N σ s φ a):∀ {rs:List ResultVar}{ds:List D},xH φ rs=aa ds ->
  ∃ vs,(∀ w,(rs.mapM (fU a)).run P w=Result.ok vs w)/\cz σ s vs ds/\cO P (rs.mapM (fU a))
 |[],ds,h=>by cases h;exact⟨[],by simp,av,by rw[List.mapM_nil];exact .pure⟩
 |.tmp t::r,ds,h=>by
  simp only[xH] at h;cases b:xH φ r with
  |none=>grind
  |some q =>
   simp[b] at h;subst h;obtain⟨vs,d,e,c⟩:=FJ P f b;refine⟨a.tmps.getD t aj::vs,?_,⟨f.slot t,e⟩,?_⟩
   .intro w;simp only[lA,bY,fU,cY,b9,d]
   .rw[lA];exact .bind .pure λ_=>.bind c λ_=>.pure
 |.cell ad t::r,ds,h=>by simp[xH] at h
def Bz{σ:List aV}{s:St}:∀ {vs:List ak}{ds:List D}{es:List E1},tO ds=aa es->cz σ s vs ds->gJ σ s vs es
 |[],[],es,h,_=>by cases h;trivial
 |[],_::_,_,_,h=>h.elim
 |_::_,[],_,_,h=>h.elim
 |v::vs,.e x::r,es,h,a=>by
  simp only[tO] at h;cases b:tO r with
  |none=>grind
  |some q=>simp[b] at h;subst h;exact⟨a.1,Bz b a.2⟩
 |_::_,.eK _::_,es,h,_=>by simp[tO] at h
 |_::_,.any::_,es,h,_=>by simp[tO] at h
def BA{σ:List aV}{s:St}{vs:List ak}{ds:List D}{d:D}(h:rL ds=aa d)(a:cz σ s vs ds):dc σ s (if h:vs.length=1 then vs[0] else .tuple vs.toArray) d:=by
 unfold rL at h;split at h
 .rename_i g
  cases h
  match vs,a with
  |[v],a=>simpa using a.1
 .rename_i c
  cases b:tO ds with
  |none=>grind
  |some es =>
   simp[b] at h;subst h;have f:vs.length≠1:=by
    intro e;rw[(cz.get a).1] at e
    match ds,e with
    |[x],_=>grind
   rw[dif_neg f];exact⟨vs,rfl,Bz b a⟩
def BC(P:aq)(fn:Func)(φ:Fr)(d:D):Prop:=∀ {N:Nat}{σ:List aV}{s:St}{a:Act},cx N σ s φ a->∃ v,dc σ s v d/\∀ w,(∀ b o u,s.M b o=aa u->w.cell? ⟨b,o,af⟩=aa u)->(results fn a.tmps).run P w=.ok v w/\∀ e∈(results fn a.tmps).events P w #[],∃ b o u,e=⟨.cell ⟨b,o,af⟩,ae,ae⟩/\s.M b o=aa u
def tP{P:aq}{N:Nat}{σ:List aV}{s:St}{φ:Fr}{a:Act}(f:cx N σ s φ a){fn:Func}{ds:List D}{d:D}(h:xH φ fn.results.toList=aa ds)(g:rL ds=aa d) :
  ∃ v,(∀ w,(results fn a.tmps).run P w=.ok v w)/\dc σ s v d/\cO P (results fn a.tmps):=by
 obtain⟨vs,i,c,b⟩:=FJ P f h;refine⟨_,λw=>?_,BA g c,?_⟩
 .have e:(fn.results.mapM (fU a)).run P w=Result.ok vs.toArray w:=by
   grind [Array.mapM_eq_mapM_toList,Sem.run_map,Go.Result.andThen_ok]
  unfold results;rw[bY];refine(du (λr=>Result.andThen r _) (Eq.trans ?_ e)).trans ?_
  .congr 2
  .simp
 .unfold results;have e:cO P (fn.results.mapM (fU a)):=by
   rw[qv];exact .map b
  exact .bind e λ_=>.pure
theorem BC.of{P:aq}{fn:Func}{φ:Fr}{ds:List D}{d:D}(h:xH φ fn.results.toList=aa ds)(hj:rL ds=aa d):BC P fn φ d:=by
 intro N σ s a f;obtain⟨v,h1,h2,b⟩:=tP (P:=P) f h hj;exact⟨v,h2,λw _=>⟨h1 w,λe c=>by rw[b w #[]] at c;grind⟩⟩
end
section
open Go.Conc (G)
def aJ.lE{σ:List aV}{s:St}(h:aJ σ s):aJ (σ.map λ_=>.dead) s:=by
 refine⟨h.mem,by simp[h.len],λl B L a c=>?_,h.gg,h.lt,h.own⟩
 simp only[nE] at a;cases b:σ[l]? with
 |none=>grind
 |some x=>rw[b] at a;cases a;trivial
structure PL (ls:List Nat)(s s':St):Prop where
 β:s'.β=s.β
 M:s'.M=s.M
 own:s'.own=s.own
 size:s.w.heap.size<=s'.w.heap.size
 eN:∀ b,(s.own b∨∃ (l:Nat) (L:Loc),s.β[l]?=aa L/\l∉ls/\b∈L.bs)->s'.w.heap[b]?=s.w.heap[b]?
 mem:∀ b o v,s.M b o=aa v->s'.w.cell? ⟨b,o,af⟩=aa v
 os:s'.w.os=s.w.os
 tape:s'.w.tape=s.w.tape
 output:s'.w.output=s.w.output
def cj.unR{s s':St}(h:cj s s')(ls:List Nat):PL ls s s' :=
 ⟨h.β,h.M,h.own,h.size,λb hb=>h.eN b (hb.imp id λ⟨l,L,h1,_,a⟩=>⟨L,bU h1,a⟩),h.mem,h.os,h.tape,h.output⟩
theorem PL.cat{l:Nat}{ls:List Nat}{s a s2:St}(h:PL [l] s a)(k:PL ls a s2):PL (l::ls) s s2:=by
 refine⟨k.β.trans h.β,k.M.trans h.M,k.own.trans h.own,eL h.size k.size,λb hb=>?_,λb o v c=>k.mem b o v (by rw[h.M];exact c),k.os.trans h.os,k.tape.trans h.tape,k.output.trans h.output⟩
 rw[k.eN b,h.eN b (hb.imp id λ⟨l',L,h1,h2,d⟩=>⟨l',L,h1,λe=>h2 (by grind),d⟩)]
 rw[h.own,h.β]
 grind
def Jx{P:aq}{w:az}{r:Nat}(a:w.heap[r]?=aa (.deferred (aa []))) :
  (Instr.takeDeferred r).run P w=.ok [] { w with heap:=w.heap.setIfInBounds r (.deferred af) }/\(Instr.takeDeferred r).events P w #[]=#[⟨.obj r,ae,ae⟩,⟨.obj r,ab,ae⟩]:=by
 have b:(getObj r).run P w=.ok (.deferred (aa [])) w:=by simp only[getObj,Sem.run,a]
 have e:(setObj r (.deferred af)).run P w=.ok () { w with heap:=w.heap.setIfInBounds r (.deferred af) }:=by simp only[setObj,Sem.run,a]
 have c:∀ es,(getObj r).events P w es=es.push ⟨.obj r,ae,ae⟩:=λes=>by simp only[getObj,Sem.events,Sem.runT,a];rfl
 have d:∀ es,(setObj r (.deferred af)).events P w es=es.push ⟨.obj r,ab,ae⟩:=λes=>by simp only[setObj,Sem.events,Sem.runT,a];rfl
 constructor
 .simp[Instr.takeDeferred,b,e]
 .simp[Instr.takeDeferred,b,c,d]
variable {P:aq}{X:Cx P}{S:au->St->Prop}{cs:List aR}{main:Bool}
def NB{a:aR}{r:Nat}{ds:List Deferred}{w:az}(e:a.mode=.returning)(b:a.defers={ target:=.collected r,args:=#[] }::ds)(c:w.heap[r]?=aa (.deferred (aa []))) :
  aK P main (G a cs) w=.go (G { a with defers:=ds } cs) { w with heap:=w.heap.setIfInBounds r (.deferred af) } (seen P a.fn #[⟨.obj r,ae,ae⟩,⟨.obj r,ab,ae⟩]):=by
 obtain⟨d,f⟩:=Jx (P:=P) c;simp[G,aK,unwind,e,b,d,f,GStep.after]
def vK(s:St):List Deferred->List Nat->Prop
 |[],[]=>True
 |d::ds,l::ls=>(∃ r:Nat,s.β[l]?=aa ⟨.int .i64 r,[r]⟩/\s.w.heap[r]?=aa (.deferred (aa []))/\(∀ o,s.M r o=af)/\d={ target:=.collected r,args:=#[] })/\l∉ls/\vK s ds ls
 |_,_=>False
def oI.taken{σ:List aV}{s:St}(hh:aJ σ s):∀ {ds:List Deferred}{ls:List Nat},oI σ s ds ls->vK s ds ls
 |[],[],_=>trivial
 |[],_::_,r=>r.elim
 |_::_,[],r=>r.elim
 |d::ds,l::ls,⟨⟨h1,L,r,h2,a,f⟩,c,h⟩=>by
  obtain⟨r',k1,g,b⟩:=hh.box l _ L h1 h2;subst k1;simp at a;have e:r'=r:=by omega
  subst e;exact⟨⟨r',h2,g,b,f⟩,c,oI.taken hh h⟩
def vK.mono{s s':St}{b:Nat}(h:PL [b] s s'):∀ {ds:List Deferred}{ls:List Nat},b∉ls->vK s ds ls->vK s' ds ls
 |[],[],_,_=>trivial
 |[],_::_,_,r=>r.elim
 |_::_,[],_,r=>r.elim
 |d::ds,l::ls,a,⟨⟨r,h1,h2,g,e⟩,c,f⟩=>by
  simp only[fb,not_or] at a;refine⟨⟨r,by rw[h.β];exact h1,by rw[h.eN r (.inr ⟨l,_,h1,by grind,by simp⟩)];exact h2,λo=>by rw[h.M];grind,e⟩,c,vK.mono h a.2 f⟩
def qD:∀ (ls:List Nat)(f:aR)(s:St)(σ:List aV),aJ σ s->(∀ B∈σ,B=.dead)->f.mode=.returning->vK s f.defers ls ->
  (∀ s',PL ls s s'->ft X S (G { f with defers:=[] } cs) s')->ft X S (G f cs) s
 |[],f,s,σ,x,m,D,n,k=>by
  have p:f.defers=[]:=by
   cases p:f.defers with
   |nil=>rfl
   |cons d ds=>rw[p] at n;exact n.elim
  have:=k s ((cj.refl x).unR _);have e:{ f with defers:=[] }=f:=by cases f;simp_all
  grind
 |l::ls,f,s,σ,x,m,D,n,k=>by
  cases p:f.defers with
  |nil=>rw[p] at n;exact n.elim
  |cons d ds =>
   rw[p] at n;obtain⟨⟨r,z,Q,U,K⟩,J,R⟩:=n;subst K;refine .next rfl λi C=>?_
   have g:=X.ik C;have a:=x.rely g;have A:i.β[l]?=aa ⟨.int .i64 r,[r]⟩:=by rw[g.β];exact z
   have E:i.w.heap[r]?=aa (.deferred (aa [])):=by rw[g.eN r (.inr ⟨_,bU z,by simp⟩)];exact Q
   have T:∀ o,i.M r o=af:=λo=>by rw[g.M];grind
   let s2:St:={ i with w:={ i.w with heap:=i.w.heap.setIfInBounds r (.deferred af) } }
   have I:∀ b,b≠r->s2.w.heap[b]?=i.w.heap[b]?:=λb c=>by
    grind
   have j:∀ b o v,i.M b o=aa v->s2.w.cell? ⟨b,o,af⟩=aa v:=by
    intro b o v H;have t:b≠r:=by grind
    rw[<-a.mem b o v H];simp only[a9]
    grind
   have u:aJ σ s2:=by
    refine⟨j,a.len,λl' B L O y=>?_,a.gg,λL y b c=>?_,λb c=>⟨?_,(a.own b c).2⟩⟩
    .rw[m B (bU O)];trivial
    .have:=a.lt L y b c;grind
    .have:=(a.own b c).1;grind
   have q:∃ L∈i.β,r∈L.bs:=⟨_,bU A,by simp⟩
   have st:Step σ i σ s2:=by
    refine⟨by grind,λb _ c=>I b ?_,λ_ _ _ h=>h,λ_ _ _ _=>rfl,λL y b c=>.inr ⟨L,y,c⟩,λ_ B L h N=>⟨B,L,h,N,.refl _ _⟩,rfl,rfl,rfl,rfl⟩
    grind
   have un:PL [l] s s2:=by
    refine⟨g.β,g.M,g.own,eL g.size (by grind),λb c=>?_,λb o v H=>j b o v (by rw[g.M];exact H),g.os,g.tape,g.output⟩
    have t:b≠r:=by
     rintro rfl;rcases c with c|⟨l',L',F,p2,p3⟩
     .exact(x.own b c).2 _ (bU z) (by simp)
     .exact p2 (by simp;exact x.gg l' l L' _ F z b p3 (by simp))
    rw[I b t];exact g.eN b (c.imp id λ⟨l',L',F,_,p3⟩=>⟨L',bU F,p3⟩)
   refine⟨_,s2,_,NB D p E,⟨⟨σ,σ,a,u,st⟩,eZ.seen (.two ?_ ?_)⟩,?_⟩
   .exact⟨rfl,.inr q⟩
   .exact⟨rfl,.inr q⟩
   refine qD ls { f with defers:=ds } s2 σ u m D (R.mono un J) λs' hu=>?_
   exact k s' (un.cat hu)
end
section
open Go.Conc (G)
def aP(n:Nat)(f g:Nat->List C):Prop:=∀ i,i<n->f i=g i
def Flat.DF{M:Mem}{k n:Nat}{es es':Nat->List C}{vs:List ak}(h:Flat M k n es vs)(a:aP n es es'):Flat M k n es' vs :=
 ⟨h.len,λi hi=>by rw[<-a i hi];exact h.width i hi,λi hi j c hj=>h.rd i hi j c (by rw[a i hi];exact hj)⟩
def XN:C->C->Option (List Prop)
 |.int k n,.int k' n'=>match Hd k k' with|true=>aa [n=n']|false=>af
 |.bool b,.bool b'=>aa [b=b']
 |.str s,.str s'=>aa [s=s']
 |.sl t k n es,.sl t' k' n' es'=>match aG k k' with
  |true=>match t,t' with
   |false,ab=>af
   |_,_=>aa [n=n',aP n es es']
  |false=>match t,t' with
   |true,_=>aa [n=0,n'=0]
   |_,_=>af
 |.val x,.val y=>aa [x=y]
 |x,y=>aa [x=y]
def Rq{M:Mem}{v:ak}{x y:C}{ps:List Prop}(h:XN x y=aa ps)(c:ag ps)(r:Rd M v x):Rd M v y:=by
 unfold XN at h;split at h
 .rename_i k n k' n'
  cases d:Hd k k' <;> simp[d] at h
  subst h;cases Ab d;cases (show n=n' from c)
  exact r
 .cases h;rename_i b f;cases (show b=f from c);exact r
 .cases h;rename_i b f;cases (show b=f from c);exact r
 .rename_i t k n es t' k' n' es'
  cases d:aG k k' with
  |true =>
   simp only[d] at h;have e:=bX d;subst e;cases t <;> cases t' <;> simp at h
   all_goals (subst h;obtain⟨rfl,g⟩:=(show n=n'/\aP n es es' from c);first|exact r.DF g|exact r.loose.DF g)
  |false =>
   simp only[d] at h;cases t <;> simp at h
   subst h;obtain⟨rfl,rfl⟩:=(show n=0/\n'=0 from c)
   obtain⟨a,cap,vs,rfl,_,_,i,_⟩:=r.flat
   grind [Rd.jJ]
 .cases h;rename_i x y;cases (show x=y from c);exact r
 .cases h;cases c;exact r
def Up:A->A->Option (List Prop)
 |.c x,.c y=>XN x y
 |.vec _ k n es,.c (.sl ae k' n' es')=>match aG k k' with|true=>aa [n=n',aP n es es']|false=>af
 |.vec l k n es,.vec l' k' n' es'=>match aG l l' with
  |true=>match aG k k' with|true=>aa [n=n',aP n es es']|false=>af
  |false=>af
 |.ptr l o,.ptr l' o'=>match aG l l' with|true=>(match aG o o' with|true=>aa []|false=>af)|false=>af
 |.ref l,.ref l'=>match aG l l' with|true=>aa []|false=>af
 |.bp l w,.bp l' w'=>match aG l l' with|true=>aa [w=w']|false=>af
 |_,.any=>aa []
 |_,_=>af
def J8{σ:List aV}{s:St}{v:ak}{x y:A}{ps:List Prop}(h:Up x y=aa ps)(c:ag ps)(r:gx σ s v x):gx σ s v y:=by
 unfold Up at h;split at h
 .exact Rq h c r
 .rename_i k n es k' n' es'
  cases a:aG k k' <;> simp[a] at h
  subst h;have e:=bX a;subst e;obtain⟨rfl,f⟩:=(show n=n'/\aP n es es' from c)
  exact r.1.DF f
 .rename_i l k n es l' k' n' es'
  cases b:aG l l' <;> simp[b] at h
  cases a:aG k k' <;> simp[a] at h
  subst h;have e:=bX a;have d:=bX b;subst e d;obtain⟨rfl,f⟩:=(show n=n'/\aP n es es' from c)
  exact⟨r.1.DF f,r.2.1,r.2.2⟩
 .grind [Nat.eq_of_beq_eq_true]
 .grind [Nat.eq_of_beq_eq_true]
 .rename_i l w l' w'
  cases b:aG l l' <;> simp[b] at h
  have d:=bX b;subst d;subst h;cases (show w=w' from c)
  exact r
 .exact gx.cell r
 grind
def ko:List Prop->List Prop->List Prop
 |[],q=>q
 |p::r,q=>p::ko r q
theorem ag.cat{p q:List Prop}:ag (ko p q)↔ag p/\ag q:=by
 induction p with
 |nil=>simp[ko,ag]
 |cons x r a=>simp only[ko,ag.cons,a,and_assoc]
def P5:List A->List A->Option (List Prop)
 |[],[]=>aa []
 |a::al,b::bs=>match Up a b with
  |some p=>match P5 al bs with
   |some q=>aa (ko p q)
   |none=>af
  |none=>af
 |_,_=>af
def Ea{σ:List aV}{s:St}:∀ {vs:List ak}{xs ys:List A}{ps:List Prop},P5 xs ys=aa ps->ag ps->dW σ s vs xs->dW σ s vs ys
 |[],[],[],_,_,_,_=>trivial
 |_::_,[],_,_,_,_,h=>h.elim
 |[],_::_,_,_,_,_,h=>h.elim
 |[],[],_::_,_,h,_,_=>by simp[P5] at h
 |_::_,_::_,[],_,h,_,_=>by simp[P5] at h
 |v::vs,a::al,b::bs,ps,h,c,d=>by
  simp only[P5] at h;cases e:Up a b with
  |none=>grind
  |some p =>
   cases f:P5 al bs with
   |none=>grind
   |some q =>
    simp[e,f] at h;subst h;rw[ag.cat] at c;exact⟨J8 e c.1 d.1,Ea f c.2 d.2⟩
def Uq:E1->E1->Option (List Prop)
 |.one a,.one b=>Up a b
 |.agg al,.agg bs=>P5 al bs
 |_,_=>af
def J9{σ:List aV}{s:St}{v:ak}{x y:E1}{ps:List Prop}(h:Uq x y=aa ps)(a:ag ps)(r:mY σ s v x):mY σ s v y:=by
 cases x <;> cases y <;> simp only[Uq,reduceCtorEq] at h
 .exact J8 h a r
 .obtain⟨vs,b,c⟩:=r;exact⟨vs,b,Ea h a c⟩
def Eb:List E1->List E1->Option (List Prop)
 |[],[]=>aa []
 |a::al,b::bs=>match Uq a b with
  |some p=>match Eb al bs with
   |some q=>aa (ko p q)
   |none=>af
  |none=>af
 |_,_=>af
def F0{σ:List aV}{s:St}:∀ {vs:List ak}{xs ys:List E1}{ps:List Prop},Eb xs ys=aa ps->ag ps->gJ σ s vs xs->gJ σ s vs ys
 |[],[],[],_,_,_,_=>trivial
 |_::_,[],_,_,_,_,h=>h.elim
 |[],_::_,_,_,_,_,h=>h.elim
 |[],[],_::_,_,h,_,_=>by simp[Eb] at h
 |_::_,_::_,[],_,h,_,_=>by simp[Eb] at h
 |v::vs,a::al,b::bs,ps,h,c,d=>by
  simp only[Eb] at h;cases e:Uq a b with
  |none=>grind
  |some p =>
   cases f:Eb al bs with
   |none=>grind
   |some q =>
    simp[e,f] at h;subst h;rw[ag.cat] at c;exact⟨J9 e c.1 d.1,F0 f c.2 d.2⟩
def Dt:D->D->Option (List Prop)
 |.e x,.e y=>Uq x y
 |.eK xs,.eK ys=>Eb xs ys
 |_,.any=>aa []
 |_,_=>af
theorem qA{σ:List aV}{s:St}{v:ak}{x y:D}{ps:List Prop}(h:Dt x y=aa ps)(a:ag ps)(r:dc σ s v x):dc σ s v y:=by
 cases x <;> cases y <;> simp only[Dt,reduceCtorEq] at h
 .exact J9 h a r
 .trivial
 .obtain⟨vs,b,c⟩:=r;exact⟨vs,b,F0 h a c⟩
 .trivial
 .trivial
def qF(φ:Fr):Fr->Option (List Prop)
 |[]=>aa []
 |(i,d)::r=>match Dt (look φ i) d with
  |some p=>match qF φ r with
   |some q=>aa (ko p q)
   |none=>af
  |none=>af
def dh{φ:Fr}:∀ {a:Fr}{ps:List Prop},qF φ a=aa ps->ag ps->o8 φ a
 |[],_,_,_=>λ_ _ _ _ _=>trivial
 |(i,d)::r,ps,h,b=>by
  simp only[qF] at h;cases f:Dt (look φ i) d with
  |none=>grind
  |some p =>
   cases c:qF φ r with
   |none=>grind
   |some q =>
    simp[f,c] at h;subst h;rw[ag.cat] at b;intro σ s v t e;simp only[look];cases g:aG i t with
    |true =>
     grind [Nat.eq_of_beq_eq_true,qA]
    |false=>exact dh c b.2 σ s v t e
def lg(σ:List aV):Bool:=match cX σ with|true=>mv σ|false=>ae
def yp{σ:List aV}(h:lg σ=ab):cX σ=ab/\mv σ=ab:=by
 unfold lg at h
 grind
def oI.BW{σ:List aV}{s:St}:∀ {ds:List Deferred}{ls:List Nat},oI σ s ds ls->∀ l∈ls,σ[l]?=aa .qV
 |[],[],_,l,hl=>by grind
 |[],_::_,r,_,_=>r.elim
 |_::_,[],r,_,_=>r.elim
 |d::ds,b::ls,⟨⟨h1,_⟩,_,a⟩,l,hl=>by
  rcases fb.1 hl with rfl|hl
  .exact h1
  .exact oI.BW a l hl
def b6(fn:Func)(a:Nat)(res:D)(σ':List aV):Post:=λe φ σ1 =>
 (e=.ret∨e=.normal)/\∃ ks ds d ps,xH φ fn.results.toList=aa ds/\rL ds=aa d/\Dt d (jA ks res)=aa ps/\ag ps/\u7 ks.length res=ab /\
  kL ks σ1=aa σ'/\lg σ'=ab/\eg ks=ab/\(∀ j,j<a->ks[j]?=aa j)
def BD(P:aq)(fn:Func)(a:Nat)(res:D)(σ':List aV):Post:=λe φ σ1 =>
 (e=.ret∨e=.normal)/\∃ ks d ps,BC P fn φ d/\Dt d (jA ks res)=aa ps/\ag ps/\u7 ks.length res=ab /\
  kL ks σ1=aa σ'/\lg σ'=ab/\eg ks=ab/\(∀ j,j<a->ks[j]?=aa j)
def b6.toJ{P:aq}{fn:Func}{a:Nat}{res:D}{σ':List aV}{e:Exit}{φ:Fr}{σ1:List aV}(h:b6 fn a res σ' e φ σ1):BD P fn a res σ' e φ σ1:=by
 obtain⟨c,ks,ds,d,ps,h1,h2,b⟩:=h;exact⟨c,ks,d,ps,BC.of h1 h2,b⟩
def cM.Ka{P:aq}{ι:Type}{X:Cx P}{f:aW}{fn:Func}{c:Code}{args:List D}{σ:List aV}{σ':ι->List aV}{res:ι->D}(hf:P.funcs[f]?=aa fn)(J:(fn.name== "runtime.NumGoroutine")=ae)(hb:fn.body=aa c)(hlen:args.length<=fn.ntmps)
  (h:∀ s a,cx fn.ntmps σ s (js 0 args) a->aJ σ s->∀ (b:aR) (k:List Item) (cs:List aR) (S:au->St->Prop),b.kind≠.early->b.roundOf=af ->
  (∀ e A σ1 s' a',(∃ j,BD P fn σ.length (res j) (σ' j) e A σ1)->cx fn.ntmps σ1 s' A a'->aJ σ1 s'->cD σ s σ1 s'->ends X S b k cs e a' s')->ft X S (G (b.aT a (.code c::k)) cs) s):cM X f args σ res σ':=by
 refine⟨⟨fn,hf,J,by grind⟩,λs vs hr hh S cs hS=>?_⟩
 obtain⟨hl,hg⟩:=cz.get hr
 let b:aR:={ fn:=f,tmps:=#[],todo:=[],defers:=[],mode:=.run,kind:=.normal,roundOf:=af }
 have r:Frame.enter P f vs.toArray .normal=b.aT { tmps:=vs.toArray++Array.replicate (fn.ntmps-vs.toArray.size) aj,defers:=[] } [.code c]:=by
  simp[Frame.enter,Frame.aT,hf,hb,b]
 rw[r];refine h s { tmps:=vs.toArray++Array.replicate (fn.ntmps-vs.toArray.size) aj,defers:=[] } ⟨by grind,⟨[],av⟩,λt=>?_⟩ hh b [] cs S (by simp[b]) rfl ?_
 .rw[nY];simp only[gD,cu,mh];have:=hg t;rcases cJ t vs.length with sV|Te
  .have e:(vs.toArray++Array.replicate (fn.ntmps-vs.toArray.size) aj).getD t aj=(vs[t]?).getD aj:=by
    simp only[dG]
    grind
   grind
  .rw[q8 (by omega)]
   trivial
 .rintro e A σ1 s1 a1 ⟨R,W,ks,d,ps,h1,h3,h4,h5,T,V,h8,h9⟩ f' Q st;obtain⟨h7,U⟩:=yp V;have fin:∀ (fr:aR) s2,cj s1 s2->fr.fn=f->fr.tmps=a1.tmps->fr.defers=a1.defers->fr.mode=.returning->fr.kind=.normal->ft X S (G fr cs) s2:=by
   intro fr s2 sO e1 e2 e3 e4 e5;have f2:=f'.rely sO Q;have m:=Q.rely sO;have g:=st.trans sO.stepW;obtain⟨v,r2,Z⟩:=h1 f2;obtain⟨i,z⟩:=zC (l':=s2.β) T m.len;have r4:=(qA h3 h4 r2).sub T z h5;obtain⟨c1,c2⟩:=iC T;obtain⟨d1,d2⟩:=iC z;have F:∀ L∈i,L∈s2.β:=zG z;have O:aJ (σ' R) { s2 with β:=i }:=by
    obtain⟨H,_⟩:=m.sub T z h7 h8;refine⟨H.mem,H.len,λj B L K q=>?_,H.gg,H.lt,λb hb=>⟨(m.own b hb).1,λL q=>(m.own b hb).2 L (F L q)⟩⟩
    exact eP.plain (σ:=σ' R) (s:={ s2 with β:=i,own:=zF s2 i }) (s':={ s2 with β:=i }) rfl rfl (kM h7 B (bU K)) (H.box j B L K q)
   have Y:cD σ s (σ' R) { s2 with β:=i }:=by
    refine⟨g.size,g.eN,g.mem,g.jz,λL q b hb=>g.xC _ (F L q) b hb,λl B L K q=>?_,g.os,g.tape,g.output,g.own⟩
    have hl:l<σ.length:=(cr.1 K).1;obtain⟨B',L',p1,p2,p3⟩:=g.box l B L K q
    grind
   obtain⟨ls,I⟩:=f2.defers;refine qD ls fr s2 _ m.lE (by simp) e4 (by rw[e3];exact I.taken m) λC n=>?_
   have p:cj { s2 with β:=i } { C with β:=i }:=by
    refine⟨rfl,n.M,n.own,n.size,λb hb=>n.eN b (hb.imp id ?_),n.mem,n.os,n.tape,n.output⟩
    rintro⟨L,q,hb⟩;obtain⟨j,hj,rfl⟩:=dH q;have E:j<ks.length:=by grind
    obtain⟨y,y1,y2⟩:=d2 j _ (br E);obtain⟨x,x1,x2⟩:=c2 j _ (br E);rw[br hj] at y1;cases y1;refine⟨_,_,y2,λhc=>?_,hb⟩
    rw[I.BW _ hc] at x2;cases x2;exact na U _ (bU x1) rfl
   have hG:eR C { C with β:=i }:=⟨rfl,λ_ _ _ h=>h,λ_ _ _=>rfl,λb o v hv=>n.mem b o v (by rw[<-n.M];exact hv),λb hb=>hb.imp id λ⟨L,q,hb⟩=>⟨L,by rw[n.β];grind,hb⟩⟩
   refine .ghost hG (hS R _ v _ ⟨e1,e4,rfl,e5,fn,by grind,λw hw=>?_⟩ (r4.mono p.stepW.ext O.len) (O.rely p) (Y.trans p.stepW))
   show (results fn fr.tmps).run P w=_/\∀ e∈(results fn fr.tmps).events P w #[],_;rw[e2];have N:∀ b o u,s2.M b o=aa u->w.cell? ⟨b,o,af⟩=aa u:=λb o u h=>hw b o u (by show C.M b o=aa u;rw[n.M];exact h)
   refine⟨(Z w N).1,λe W=>?_⟩
   obtain⟨b,o,u,q1,q2⟩:=(Z w N).2 e W;exact⟨b,o,u,q1,by show C.M b o=aa u;rw[n.M];exact q2⟩
  rcases W with rfl|rfl
  .intro pre;exact .ctl Q rfl (λ_=>DI rfl) λs2 sO=>fin _ s2 sO rfl rfl (k7 _) rfl rfl
  .exact .ctl Q rfl (λ_=>DJ rfl) λs2 sO=>fin _ s2 sO rfl rfl (k7 _) rfl rfl
def cM.P4{P:aq}{ι:Type}{X:Cx P}{f:aW}{fn:Func}{c:Code}{args:List D}{σ:List aV}{σ':ι->List aV}{res:ι->D}(l:P.funcs[f]?=aa fn)(g:(fn.name== "runtime.NumGoroutine")=ae)(hb:fn.body=aa c)(i:args.length<=fn.ntmps)
  (h:∀ s a,cx fn.ntmps σ s (js 0 args) a->aJ σ s->∀ (b:aR) (k:List Item) (cs:List aR) (S:au->St->Prop),b.kind≠.early->b.roundOf=af ->
  (∀ e d σ1 s' a',(∃ j,b6 fn σ.length (res j) (σ' j) e d σ1)->cx fn.ntmps σ1 s' d a'->aJ σ1 s'->cD σ s σ1 s'->ends X S b k cs e a' s')->ft X S (G (b.aT a (.code c::k)) cs) s):cM X f args σ res σ' :=
 cM.Ka l g hb i λs a f hh b k cs S h1 h2 hQ=>h s a f hh b k cs S h1 h2 λe d σ1 s' a' ⟨j,q⟩=>hQ e d σ1 s' a' ⟨j,q.toJ⟩
def cM.Jt{P:aq}{ι:Type}{X:Cx P}{f:aW}{fn:Func}{c:Code}{args:List D}{σ:List aV}{σ':ι->List aV}{res:ι->D}(l:P.funcs[f]?=aa fn)(d:(fn.name== "runtime.NumGoroutine")=ae)(hb:fn.body=aa c)(g:args.length<=fn.ntmps)
  (h:AW X fn.ntmps c (λe φ σ1=>∃ j,BD P fn σ.length (res j) (σ' j) e φ σ1) (js 0 args) σ):cM X f args σ res σ' :=
 cM.Ka l d hb g λs a f hh b k cs S m _ i=>h s a f hh b k cs S m i
def cM.intro{P:aq}{ι:Type}{X:Cx P}{f:aW}{fn:Func}{c:Code}{args:List D}{σ:List aV}{σ':ι->List aV}{res:ι->D}(l:P.funcs[f]?=aa fn)(d:(fn.name== "runtime.NumGoroutine")=ae)(hb:fn.body=aa c)(g:args.length<=fn.ntmps)
  (h:AW X fn.ntmps c (λe φ σ1=>∃ j,b6 fn σ.length (res j) (σ' j) e φ σ1) (js 0 args) σ):cM X f args σ res σ' :=
 cM.P4 l d hb g λs a f hh b k cs S m _ i=>h s a f hh b k cs S m i
def Ev.intro{P:aq}{X:Cx P}{f:aW}{fn:Func}{c:Code}{args:List D}{σ σ':List aV}{res:D}(d:P.funcs[f]?=aa fn)(a:(fn.name== "runtime.NumGoroutine")=ae)(hb:fn.body=aa c)(b:args.length<=fn.ntmps)
  (h:AW X fn.ntmps c (b6 fn σ.length res σ') (js 0 args) σ):Ev X f args σ res σ' :=
 (cM.intro d a hb b (AW.mono h λ_ _ _ q=>⟨(),q⟩)).uA
end
inductive It where
 |code (c:Code)
 |blk (id:Nat)
 |ops (all rest:List aw)
def AK{P:aq}(X:Cx P)(N:Nat)(Qf:Post):List It->Post
 |[],e,φ,σ=>Qf e φ σ
 |.code c::K,.normal,φ,σ=>AW X N c (AK X N Qf K) φ σ
 |.code _::K,e,φ,σ=>AK X N Qf K e φ σ
 |.blk id::K,.exit I7,φ,σ=>if I7=id then AK X N Qf K .normal φ σ else AK X N Qf K (.exit I7) φ σ
 |.blk _::K,e,φ,σ=>AK X N Qf K e φ σ
 |.ops all rest::K,.normal,φ,σ=>jB X N all rest (AK X N Qf K .normal) φ σ
 |.ops _ _::K,e,φ,σ=>AK X N Qf K e φ σ
section
variable {P:aq}{X:Cx P}{N:Nat}{Qf:Post}{K:List It}{φ:Fr}{σ:List aV}
def AK.of_code{c:Code}(h:AK X N Qf [.code c] .normal φ σ):AW X N c Qf φ σ:=h
def AK.skip(h:AK X N Qf K .normal φ σ):AK X N Qf (.code .skip::K) .normal φ σ:=AW.skip h
def AK.seq{x y:Code}(h:AK X N Qf (.code x::.code y::K) .normal φ σ):AK X N Qf (.code (.seq x y)::K) .normal φ σ:=by
 refine AW.seq (AW.mono h ?_);intro e a σ' q;cases e <;> exact q
def AK.block{id:Nat}{c:Code}(h:AK X N Qf (.code c::.blk id::K) .normal φ σ):AK X N Qf (.code (.block id c)::K) .normal φ σ:=by
 refine AW.block (AW.mono h ?_);intro e a σ' q;cases e <;> exact q
def AK.Ry{id:Nat}(h:AK X N Qf K .normal φ σ):AK X N Qf (.blk id::K) .normal φ σ:=h
theorem AK.region{id:Nat}{ops:Array aw}(h:AK X N Qf (.ops ops.toList ops.toList::K) .normal φ σ):AK X N Qf (.code (.region id ops ae)::K) .normal φ σ:=AW.region h
def AK.Rz{all:List aw}(h:AK X N Qf K .normal φ σ):AK X N Qf (.ops all []::K) .normal φ σ:=jB.nil h
def AK.r8:∀ {K:List It},Qf .ret φ σ->AK X N Qf K .ret φ σ
 |[],h=>h
 |.code _::K,h=>AK.r8 (K:=K) h
 |.blk _::K,h=>AK.r8 (K:=K) h
 |.ops _ _::K,h=>AK.r8 (K:=K) h
def AK.ret(h:Qf .ret φ σ):AK X N Qf (.code .ret::K) .normal φ σ:=AW.ret (AK.r8 h)
def kP(id:Nat):List It->Option (List It)
 |[]=>af
 |.blk i::K=>match aG id i with|true=>aa K|false=>kP id K
 |_::K=>kP id K
def AK.wh{id:Nat}:∀ {K a:List It},kP id K=aa a->AK X N Qf a .normal φ σ->AK X N Qf K (.exit id) φ σ
 |[],_,h,_=>by cases h
 |.blk i::K,a,h,q=>by
  simp only[kP] at h;cases hb:aG id i with
  |true =>
   simp[hb] at h;subst h;have e:=bX hb;simp only[AK,e,cu];exact q
  |false =>
   simp[hb] at h;have b:id≠i:=λe=>by grind [Nat.beq_refl]
   simp only[AK,b,cd];exact AK.wh h q
 |.code _::K,a,h,q=>AK.wh (K:=K) h q
 |.ops _ _::K,a,h,q=>AK.wh (K:=K) h q
theorem AK.exit{id:Nat}{a:List It}(b:kP id K=aa a)(h:AK X N Qf a .normal φ σ):AK X N Qf (.code (.exit id)::K) .normal φ σ:=AW.exit (AK.wh b h)
theorem AK.cond{c:an}{x y:Code}{b:Bool}{t:Nat}(d:c=.tmp t)(hl:look φ t=.e (.one (.c (.bool b))))
  (f:b=ab->AK X N Qf (.code x::K) .normal φ σ) (a:b=ae->AK X N Qf (.code y::K) .normal φ σ):AK X N Qf (.code (.cond c x y)::K) .normal φ σ:=AW.cond d hl f a
def AK.loop{S:Type}{c:Code}(I:S->Prop)(fr:S->Fr)(st:S->List aV)(d:S->Nat)(x:S)(h:I x)(b:o8 φ (fr x))(f:st x=σ)
  (round:∀ x,I x->AK X N (λe a σ'=>match e with
   |.normal=>∃ y,I y/\d y<d x/\o8 a (fr y)/\σ'=st y
   |e=>AK X N Qf K e a σ') [.code c] .normal (fr x) (st x)):AK X N Qf (.code (.loop c)::K) .normal φ σ:=by
 refine AW.loop I fr st d x h b f λy g=>AW.mono (round y g) ?_
 intro e a σ' q;cases e <;> exact q
end
def de{α a:Type}:List α->(List α->Option a)->Option a
 |[],k=>k []
 |x::r,k=>de r λq=>k (x::q)
theorem cV{α a:Type}(l:List α)(k:List α->Option a):de l k=k l:=by
 induction l generalizing k with
 |nil=>rfl
 |cons x r b=>simp[de,b]
def zR(φ:Fr)(all:List aw)(j:Nat):Option (Option Bool) :=
 match fw j all with
 |some oj=>match oj.dst with
  |some d=>match look φ d with
   |.e (.one (.c (.bool ab)))=>aa (aa ab)
   |.e (.one (.c (.bool ae)))=>aa (aa ae)
   |.eK []=>aa af
   |_=>af
  |none=>af
 |none=>af
def pW{N:Nat}{φ:Fr}{all:List aw}{j:Nat}{r:Option Bool}(h:zR φ all j=aa r){σ:List aV}{s:St}{a:Act}(f:cx N σ s φ a):yielded all.toArray a.tmps j=r:=by
 unfold zR at h;rw[e9] at h;unfold yielded;cases k:all[j]? with
 |none=>grind
 |some oj =>
  simp only[k] at h;simp only[iJ,k,nF];cases l:oj.dst with
  |none=>grind
  |some d =>
   simp only[l] at h;simp only[nF];have c:=f.slot d;have key:∀ v,a.tmps.getD d aj=v->v≠aj->a.tmps[d]?=aa v:=by
    intro v e m;simp only[dG] at e
    grind
   split at h
   .rename_i g
    cases h;rw[g] at c;have b:=fy c;generalize e:a.tmps.getD d aj=v at b;cases b;rw[key _ e (by simp[aj])]
   .rename_i g
    cases h;rw[g] at c;have b:=fy c;generalize e:a.tmps.getD d aj=v at b;cases b;rw[key _ e (by simp[aj])]
   .rename_i g
    cases h;rw[g] at c;obtain⟨vs,n,o⟩:=c;have i:vs=[]:=by cases vs with
     |nil=>rfl
     |cons _ _=>exact o.elim
    subst i;simp only[dG] at n
    grind
   grind
def V7(T:List (Nat×TI))(φ:Fr)(σ:List aV)(o:aw):Option (D×List aV×List Prop) :=
 match o.op with
 |.move x|.assign x=>aa (b5 φ x,σ,[])
 |.pick c a b=>match b5 φ c with
  |.e (.one (.c (.bool ab)))=>aa (b5 φ a,σ,[])
  |.e (.one (.c (.bool ae)))=>aa (b5 φ b,σ,[])
  |_=>af
 |.binOp op _ x y _=>match b5 φ x,b5 φ y with
  |.e (.one (.c a)),.e (.one (.c b))=>match NH op a b with
   |some (c,obs)=>aa (.e (.one (.c c)),σ,obs)
   |none=>af
  |_,_=>af
 |.unOp op _ x=>match b5 φ x with
  |.e (.one (.c a))=>match V6 op a with
   |some c=>aa (.e (.one (.c c)),σ,[])
   |none=>af
  |_=>af
 |.extract x j=>match b5 φ x with
  |.eK xs=>match fw j xs with
   |some e=>aa (.e e,σ,[])
   |none=>af
  |_=>af
 |.alloc E=>match bF T E with
  |some i=>de (σ++[.cells E (i.zero.map A.c)]) λσ'=>aa (.e (.one (.ptr σ.length 0)),σ',[])
  |none=>af
 |.box E x=>match mT (b5 φ x) with
  |some cs=>de (σ++[.cells E cs]) λσ'=>aa (.e (.one (.ptr σ.length 0)),σ',[])
  |none=>af
 |.load t x=>match bF T t with
  |some i=>match b5 φ x with
   |.e (.one (.ptr l off))=>match fw l σ with
    |some (.cells _ cs)=>match m8 i (hJ off cs) with
     |some e=>aa (.e e,σ,[])
     |none=>af
    |_=>af
   |.e (.one (.c (.rp cs)))=>match m8 i (cs.map A.c) with
    |some e=>aa (.e e,σ,[])
    |none=>af
   |_=>af
  |none=>af
 |.store t x y=>match bF T t with
  |some i=>match b5 φ x with
   |.e (.one (.ptr l off))=>match fw l σ with
    |some (.cells E cs)=>match mT (b5 φ y) with
     |some new=>match aG new.length i.size with
      |true=>match eX off new cs with
       |some mc=>de (ef.rJ l (.cells E mc) σ) λσ'=>aa (.any,σ',[])
       |none=>af
      |false=>af
     |none=>af
    |_=>af
   |_=>af
  |none=>af
 |.fieldAddr t x f=>match jM T t f with
  |some (k,_)=>match b5 φ x with
   |.e (.one (.ptr l off))=>aa (.e (.one (.ptr l (off+k))),σ,[])
   |.e (.one (.c (.rp cs)))=>aa (.e (.one (.c (.rp (hJ k cs)))),σ,[])
   |_=>af
  |none=>af
 |.field t x f=>match jM T t f with
  |some (k,j)=>match b5 φ x with
   |.e (.agg cs)=>match m8 j (hJ k cs) with
    |some e=>aa (.e e,σ,[])
    |none=>af
   |_=>af
  |none=>af
 |.nilCheck x=>match b5 φ x with
  |.e (.one (.ptr l off))=>aa (.e (.one (.ptr l off)),σ,[])
  |.e (.one (.c (.rp cs)))=>aa (.e (.one (.c (.rp cs))),σ,[])
  |_=>af
 |.build t parts=>match zP T (b5 φ) t parts.toList with
  |some cs=>aa (.e (.agg cs),σ,[])
  |none=>af
 |.buildSlice t n parts=>match DM T (b5 φ) t n parts.toList with
  |some (k,es)=>aa (.e (.one (.c (.sl ab k n λi=>es.getD i []))),σ,[])
  |none=>af
 |_=>af
theorem D5{P:aq}{T:List (Nat×TI)}(m:dg P T){φ:Fr}{σ σ':List aV}{o:aw}{x:D}{obs:List Prop}(h:V7 T φ σ o=aa (x,σ',obs))(n:ag obs):bH P o (b5 φ) σ x σ':=by
 unfold V7 at h;split at h
 .grind [bH.move]
 .grind [bH.assign]
 .rename_i c a b d
  split at h
  .rename_i e;cases h;exact bH.pick d e
  .rename_i e;cases h;exact bH.pick d e
  grind
 .grind [bH.binOp]
 .grind [bH.unOp]
 .grind [bH.extract,dz]
 .grind [cV,bH.alloc]
 .grind [cV,bH.box]
 .rename_i t y d
  split at h
  .grind [bH.FP,dz,bH.JO]
  grind
 .rename_i t y z d
  split at h
  .rename_i i hi
   split at h
   .rename_i l off hx
    split at h
    .grind [cV,kC,bH.store,dz,Nat.eq_of_beq_eq_true]
    grind
   grind
  grind
 .rename_i t y f d
  split at h
  .rename_i k j g
   split at h
   .rename_i l off hx;cases h;exact bH.rW m d hx g
   .grind [bH.tR]
   grind
  grind
 .grind [bH.field]
 .grind [bH.tS,bH.vV]
 .grind [bH.build]
 .grind [bH.buildSlice]
 grind
def gy(N:Nat):Option Nat->Bool
 |some d=>bo (d+1) N
 |none=>ab
def il{N:Nat}{d:Option Nat}(h:gy N d=ab):∀ t,d=aa t->t<N:=by
 intro t a;subst a;exact db h
theorem dv{all:List aw}{o:aw}(h:o.guard=af){a:Act}:bj o (yielded all.toArray a.tmps)=ab:=by simp[bj,h]
section
variable {P:aq}{T:List (Nat×TI)}{o:aw}{g:an->D}{σ:List aV}
def uE(g:an->D):Option an->Option (Option Int)
 |none=>aa af
 |some x=>match g x with
  |.e (.one (.c (.int _ j)))=>aa (aa j)
  |_=>af
def je{s:St}{ρ:an->ak}(a:∀ y,dc σ s (ρ y) (g y)){x:Option an}{b:Option Int}(h:uE g x=aa b):(x.map ρ=af/\b=af)∨∃ k j,x.map ρ=aa (.int k j)/\b=aa j:=by
 cases x with
 |none=>cases h;grind
 |some y =>
  right
  simp only[uE] at h;split at h
  .rename_i k j c
   cases h;have:=a y;rw[c] at this;have:=fy this;generalize d:ρ y=v at this;cases this
   grind
  grind
def cv(d:Nat):Option Int->Nat
 |none=>d
 |some j=>j.toNat
def iQ(n:Nat):Option Int->Option Int->List Prop
 |none,af=>[]
 |some l,af=>[0<=l,l<=n]
 |none,aa h=>[0<=h,h<=n]
 |some l,aa h=>[0<=l,l<=h,h<=n]
def nT{isS:Bool}{n cap:Nat}(q:n<=cap){lo hi:Option ak}{l h:Option Int}(m:(lo=af/\l=af)∨∃ k j,lo=aa (.int k j)/\l=aa j)(i:(hi=af/\h=af)∨∃ k j,hi=aa (.int k j)/\h=aa j)
  (c:ag (iQ n l h)) (w:az):(Instr.sliceBounds isS n cap lo hi af).run P w=.ok (cv 0 l,cv n h,cap) w/\cv 0 l<=cv n h/\cv n h<=n:=by
 rcases m with⟨rfl,rfl⟩|⟨d,l,rfl,rfl⟩ <;> rcases i with⟨rfl,rfl⟩|⟨f,h,rfl,rfl⟩
 .exact⟨by simp[Instr.sliceBounds,cv],by simp[cv],by simp[cv]⟩
 .obtain⟨a,b⟩:0<=h/\h<=(n:Int):=c;refine⟨?_,by simp[cv],by simp only[cv];omega⟩
  simp[Instr.sliceBounds,cv,run_sliceBound (P:=P) w f h cap _ a (by omega)]
 .obtain⟨a,b⟩:0<=l/\l<=(n:Int):=c;refine⟨?_,by simp only[cv];omega,by simp[cv]⟩
  simp[Instr.sliceBounds,cv,run_sliceBound (P:=P) w d l n _ a b]
 .obtain⟨a,b,p⟩:0<=l/\l<=h/\h<=(n:Int):=c;have e:((h.toNat:Nat):Int)=h:=rf (by omega)
  refine⟨?_,by simp only[cv];omega,by simp only[cv];omega⟩
  simp[Instr.sliceBounds,cv,run_sliceBound (P:=P) w f h cap _ (by omega) (by omega),run_sliceBound (P:=P) w d l h.toNat _ a (by omega)]
def eF(w:az)(k:IntKind) (i:Int)(y:Nat)(code:BoundsCode)(a:0<=i)(b:i<=(y:Int))(es:Array Event):(Instr.sliceBound (.int k i) y code).events P w es=es:=by
 simp[Instr.sliceBound,asIntOf,a,b]
def pR{isS:Bool}{n cap:Nat}{lo hi:Option ak}{l h:Option Int}(s:n<=cap)(p:(lo=af/\l=af)∨∃ k j,lo=aa (.int k j)/\l=aa j)(m:(hi=af/\h=af)∨∃ k j,hi=aa (.int k j)/\h=aa j)
  (c:ag (iQ n l h)) (w:az) (es:Array Event):(Instr.sliceBounds isS n cap lo hi af).events P w es=es:=by
 have r:∀ (isS:Bool) (v:Option ak) (d:Nat) (w:az) (es:Array Event),v=af->(Instr.sliceBounds isS n cap af af af).events P w es=es:=λisS v d w es _=>by simp[Instr.sliceBounds]
 rcases p with⟨rfl,rfl⟩|⟨i,l,rfl,rfl⟩ <;> rcases m with⟨rfl,rfl⟩|⟨f,h,rfl,rfl⟩
 .simp[Instr.sliceBounds]
 .obtain⟨a,b⟩:0<=h/\h<=(n:Int):=c;simp[Instr.sliceBounds,eF (P:=P) w f h cap _ a (by omega)]
 .obtain⟨a,b⟩:0<=l/\l<=(n:Int):=c;simp[Instr.sliceBounds,eF (P:=P) w i l n _ a b]
 .obtain⟨a,b,q⟩:0<=l/\l<=h/\h<=(n:Int):=c;have e:((h.toNat:Nat):Int)=h:=rf (by omega)
  simp[Instr.sliceBounds,run_sliceBound (P:=P) w f h cap _ (by omega) (by omega),eF (P:=P) w f h cap _ (by omega) (by omega),eF (P:=P) w i l h.toNat _ a (by omega)]
def rT(s:List UInt8):Option Int->Option Int->List UInt8
 |none,af=>s
 |some l,af=>s.drop l.toNat
 |none,aa h=>s.take h.toNat
 |some l,aa h=>(s.take h.toNat).drop l.toNat
theorem bH.JL(y:dg P T){t:ar}{x:an}{lo hi:Option an}(h:o.op=.slice t x lo hi af){i:TI}(m:bF T t=aa i)(v:i.desc=.string){s:List UInt8}{l u:Option Int}
  (z:g x=.e (.one (.c (.str s)))) (hl:uE g lo=aa l) (r:uE g hi=aa u) (A:ag (iQ s.length l u)):bH P o g σ (.e (.one (.c (.str (rT s l u))))) σ:=by
 refine .quiet λst ρ hh hr=>?_
 have h1:=hr x;rw[z] at h1
 replace h1:=fy h1
 generalize d:ρ x=vx at h1;cases h1 with
 |@str sb _ q p =>
 have j:sb.size=s.length:=by rw[<-q];exact jg.symm
 obtain⟨hb,b,f⟩:=nT (P:=P) (isS:=ae) (n:=sb.size) (cap:=sb.size) (bg _) (je hr hl) (je hr r) (by grind) st.w
 have a:=(y t i m).run_underlying (w:=st.w);rw[v] at a;have k:=pR (P:=P) (isS:=ae) (n:=sb.size) (cap:=sb.size) (bg _) (je hr hl) (je hr r) (by grind) st.w
 refine⟨.string (sb.extract (cv 0 l) (cv sb.size u)),?_,Rd.str ?_ ?_,by simp[ay,h,d,Instr.sliceAt,a,Instr.slice,k]⟩
 .simp[ay,h,d,Instr.sliceAt,a,Instr.slice,hb]
 .rw[Lib.extract_data,q,j];rw[j] at b f;cases l <;> cases u <;> simp only[rT,cv] at b f ⊢
  .simp
  .simp
  .grind [List.take_of_length_le]
  .rw[List.drop_take]
 .cases l <;> cases u <;> simp only[rT,me,List.length_take] <;> omega
def jL(l:Nat)(f:Nat->List C):Nat->List C:=λi=>f (l+i)
def NG(tt:Bool):Option Int->Bool
 |none=>tt
 |some _=>ae
theorem bH.NP(y:dg P T){t:ar}{x:an}{lo hi:Option an}(h:o.op=.slice t x lo hi af){i p:TI}{E:ar}(q:bF T t=aa i)(F:i.desc=.slice E)(G:bF T E=aa p){tt:Bool}{n:Nat}{es:Nat->List C}{l u:Option Int}
  (N:∀ s v,dc σ s v (g x)->Rd s.M v (.sl tt p.size n es)) (hl:uE g lo=aa l) (A:uE g hi=aa u) (z:ag (iQ n l u)) :
  bH P o g σ (.e (.one (.c (.sl (NG tt u) p.size (cv n u-cv 0 l) (jL (cv 0 l) es))))) σ:=by
 refine .quiet λst ρ hh hr=>?_
 have h1:=N st _ (hr x);obtain⟨a,cap,vs,r,k,I,L,Q,R⟩:=h1.flat;rw[r] at h1;obtain⟨hb,J,O⟩:=nT (P:=P) (isS:=ab) k (je hr hl) (je hr A) z st.w;have d:=(y t i q).run_underlying (w:=st.w);rw[F] at d;refine⟨.slice (if cap=cv 0 l then a else a.map (·.add (cv 0 l*p.size))) (cv n u-cv 0 l) (cap-cv 0 l),?_,?_,by simp[ay,h,r,Instr.sliceAt,d,Instr.slice,hb,pR (P:=P) (isS:=ab) k (je hr hl) (je hr A) z st.w]⟩
 .simp[ay,h,r,Instr.sliceAt,d,Instr.slice,hb,(y E p G).run_sizeOf]
 .cases h1 with
  |sl b off f _ _ _ H K hm' PK =>
   refine Rd.sl b (off+cv 0 l*p.size) (λi j=>f (cv 0 l+i) j) (by omega) (by omega) ?_ (λi hi=>H _ (by omega)) (λB=>?_) (λi hi j c hj=>?_) (λi hi j c hj=>PK _ (by omega) j c hj)
   .intro m;cases u with
    |none=>simp only[NG] at m;have:=L m;simp only[cv];omega
    |some u=>cases m
   .rw[aY (by omega),K (by omega)]
    simp[dj]
   .have:=hm' (cv 0 l+i) (by omega) j c hj
    grind
def bH.NN(n:dg P T){b dst:ar}{x:an}(h:o.op=.convert b dst x){i i2:TI}{k k':IntKind}{j:Int}(hi:bF T b=aa i)(l:bF T dst=aa i2)(p:i2.desc=.int k')(q:g x=.e (.one (.c (.int k j))))(m:bx k' j) :
  bH P o g σ (.e (.one (.c (.int k' j)))) σ:=by
 refine .quiet λst ρ hh hr=>?_
 have h1:=hr x;rw[q] at h1
 replace h1:=fy h1
 generalize d:ρ x=vx at h1;cases h1;have f:=(n b i hi).run_underlying (w:=st.w);have a:=(n dst i2 l).run_underlying (w:=st.w);rw[p] at a;exact⟨.int k' j,by simp[ay,h,d,convert,f,a,Conv.intToInt,mq m],Rd.int m,by simp[ay,h,d,convert,f,a,Conv.intToInt]⟩
theorem bH.NO(l:dg P T){b dst:ar}{x:an}(h:o.op=.convert b dst x){i i2:TI}{s:List UInt8}(hi:bF T b=aa i)(k:bF T dst=aa i2)(m:i2.desc=.string)(n:g x=.e (.one (.c (.str s)))) :
  bH P o g σ (.e (.one (.c (.str s)))) σ:=by
 refine .quiet λst ρ hh hr=>?_
 have h1:=hr x;rw[n] at h1;have d:=fy h1;generalize f:ρ x=vx at d;cases d;have j:=(l b i hi).run_underlying (w:=st.w);have a:=(l dst i2 k).run_underlying (w:=st.w);rw[m] at a;exact⟨_,by simp[ay,h,f,convert,j,a];rfl,by grind,by simp[ay,h,f,convert,j,a]⟩
def vR(f:Nat->List C):Nat->Nat->Option (List UInt8)
 |_,0=>aa []
 |i,n+1=>match f i with
  |[.int .u8 v]=>match vR f (i+1) n with
   |some r=>aa (UInt8.ofNat v.toNat::r)
   |none=>af
  |_=>af
def yx{M:Mem}{f:Nat->List C}:∀ {n i:Nat}{r:List UInt8}{vs:List ak},vR f i n=aa r->vs.length=n->(∀ j,j<n->∀ c,(f (i+j))[0]?=aa c->∃ v,vs[j]?=aa v/\Rd M v c) ->
  ∃ xs:List Int,vs=xs.map (Value.int .u8)/\r=xs.map (λx=>UInt8.ofNat x.toNat)
 |0,i,r,vs,h,d,_=>by cases h;exact⟨[],by grind,rfl⟩
 |n+1,i,r,[],h,d,_=>by grind
 |n+1,i,r,v::vs,h,d,a=>by
  simp only[vR] at h;split at h
  .rename_i x s
   split at h
   .rename_i q k
    cases h;obtain⟨u,b,e⟩:=a 0 (by omega) (.int .u8 x) (by grind)
    simp at b;subst b;cases e;obtain⟨xs,l,m⟩:=yx (vs:=vs) k (by grind) (λj p c t=>by
     have:=a (j+1) (by omega) c (by grind)
     simpa using this)
    exact⟨x::xs,by grind,by grind⟩
   grind
  grind
def ow{P:aq}(w:az){F:ak->ByteArray->Sem (ForInStep ByteArray)}(a:∀ x s,F (.int .u8 x) s=pure (.yield (s.push (UInt8.ofNat x.toNat)))):∀ (xs:List Int)(s:ByteArray),
  (forIn (m:=Sem) (xs.map (Value.int .u8)) s F).run P w=.ok ⟨s.data++(xs.map λx=>UInt8.ofNat x.toNat).toArray⟩ w
 |[],s=>by simp
 |x::xs,s=>by
  simp only[ru,List.forIn_cons,a,bY,cY,b9];rw[ow w a xs]
  congr 2
  apply Array.ext'
  simp[ByteArray.push]
end
section
open Go.Conc (G)
def OA{P:aq}(X:Cx P)(N:Nat)(all:List aw)(o:aw)(φ:Fr)(σ:List aV)(x:D)(σ':List aV):Prop :=
 ∀ s a,cx N σ s φ a->aJ σ s->∀ (b:aR) (k:List Item) (cs:List aR) (S:au->St->Prop) (i:Nat) (rest:List Nat),b.kind≠.early->all.toArray[i]?=aa o ->
  (∀ v s',dc σ' s' v x->aJ σ' s'->cD σ s σ' s'->ft X S (G (b.aT (a.put o.dst v) (.inRegion all.toArray rest::k)) cs) s')->ft X S (G (b.aT a (.inRegion all.toArray (i::rest)::k)) cs) s
section
variable {P:aq}{X:Cx P}{N:Nat}{all rest:List aw}{φ m:Fr}{σ σ':List aV}{o:aw}{x:D}
theorem OA.md(q:∀ σ s a,cx N σ s φ a->bj o (yielded all.toArray a.tmps)=ab)(h:bH P o (b5 φ) σ x σ'):OA X N all o φ σ x σ':=by
 intro s a f hh b k cs S i rest hb hi hK;refine zV hb hi (q _ _ _ f) λg d=>?_
 have c:=hh.rely d;obtain⟨r,s',h1,h2,e,n,p⟩:=h g a.eval c (dX (f.rely d hh));have j:=d.stepW.trans (n.oG c);have l:qx g s' ((ay a.eval o).events P g.w #[]):=⟨⟨σ,σ',c,e,n⟩,p⟩;cases r with
 |value v=>exact⟨_,s',v,h1,.inl rfl,l,hK v s' h2 e j⟩
 |skip=>simp only[Rr] at h2;subst h2;exact⟨_,s',aj,h1,.inr ⟨rfl,rfl⟩,l,hK aj s' av e j⟩
 |_=>exact h2.elim
def OA.pass(d:∀ σ s a,cx N σ s φ a->bj o (yielded all.toArray a.tmps)=ae):OA X N all o φ σ (.eK []) σ:=by
 intro s a f hh b k cs S i rest hb hi hK;exact .ctl hh rfl (λ_=>Np hi (d _ _ _ f)) λe c=>hK aj e ⟨[],rfl,av⟩ (hh.rely c) c.stepW
def jB.tg{Q:Fr->List aV->Prop}(h:OA X N all o φ σ x σ')(g:∀ t,o.dst=aa t->t<N)(k:jB X N all rest Q (lC o.dst x φ) σ'):jB X N all (o::rest) Q φ σ:=by
 intro s a f hh b kk cs S idx hb jH hQ;cases idx with
 |nil=>exact jH.elim
 |cons i idx =>
 refine h s a f hh b kk cs S i idx hb jH.1 λv s' hv lb st=>k s' _ ?_ lb b kk cs S idx hb jH.2 λc σ2 s2 a2 q d h2 oB=>hQ c σ2 s2 a2 q d h2 (st.trans oB)
 cases e:o.dst with
 |none=>exact f.mono st hh.len
 |some t=>exact(f.mono st hh.len).put (g t e) hv
end
abbrev dk:=List D->List aV->Option (D×List aV×List Prop)
def yr:List (Nat×dk)->Nat->Option dk
 |[],_=>af
 |(i,g)::r,f=>cond (aG i f) (aa g) (yr r f)
def dM{P:aq}(X:Cx P)(f:aW)(g:dk):Prop:=∀ args σ res σ' obs,g args σ=aa (res,σ',obs)->ag obs->Ev X f args σ res σ'
def bD{P:aq}(X:Cx P)(CT:List (Nat×dk)):Prop:=∀ f g,yr CT f=aa g->dM X f g
def bD.nil{P:aq}{X:Cx P}:bD X []:=λ_ _ h=>by cases h
def bD.cons{P:aq}{X:Cx P}{f:aW}{g:dk}{CT:List (Nat×dk)}(h:dM X f g)(r:bD X CT):bD X ((f,g)::CT):=by
 intro a g2 h2;simp only[yr] at h2;cases hb:aG f a with
 |true=>grind [Nat.eq_of_beq_eq_true]
 |false=>rw[hb] at h2;exact r a g2 h2
def bxA:A->List Nat->List Nat
 |.ptr l _,ks=>cond (fK l ks) ks (ks++[l])
 |.vec l _ _ _,ks=>cond (fK l ks) ks (ks++[l])
 |.ref l,ks=>cond (fK l ks) ks (ks++[l])
 |.bp l _,ks=>cond (fK l ks) ks (ks++[l])
 |_,ks=>ks
def bxL:List A->List Nat->List Nat
 |[],ks=>ks
 |a::r,ks=>bxL r (bxA a ks)
def bxD:D->List Nat->List Nat
 |.e (.one a),ks=>bxA a ks
 |.e (.agg cs),ks=>bxL cs ks
 |_,ks=>ks
def Ur:List D->List Nat->List Nat
 |[],ks=>ks
 |a::r,ks=>Ur r (bxD a ks)
def BJ(l:Nat):List Nat->Nat->Option Nat
 |[],_=>af
 |k::r,i=>match aG k l with|true=>aa i|false=>BJ l r (i+1)
def r9{l:Nat}:∀ {ks:List Nat}{i j:Nat},BJ l ks i=aa j->i<=j/\ks[j-i]?=aa l
 |[],_,_,h=>by cases h
 |k::r,i,j,h=>by
  simp only[BJ] at h;cases a:aG k l with
  |true=>rw[a] at h;cases h;exact⟨bg _,by grind [Nat.eq_of_beq_eq_true]⟩
  |false =>
   rw[a] at h;obtain⟨b,c⟩:=r9 h
   grind
def Tm(ks:List Nat):A->Option A
 |.ptr l o=>match BJ l ks 0 with|some i=>aa (.ptr i o)|none=>af
 |.ref l=>match BJ l ks 0 with|some i=>aa (.ref i)|none=>af
 |.bp l w=>match BJ l ks 0 with|some i=>aa (.bp i w)|none=>af
 |.vec _ _ _ _=>af
 |.c x=>aa (.c x)
 |.any=>aa .any
def Wh(ks:List Nat):List A->Option (List A)
 |[]=>aa []
 |a::r=>match Tm ks a with
  |some b=>match Wh ks r with
   |some q=>aa (b::q)
   |none=>af
  |none=>af
def XP(ks:List Nat):D->Option D
 |.e (.one a)=>match Tm ks a with|some b=>aa (.e (.one b))|none=>af
 |.e (.agg cs)=>match Wh ks cs with|some b=>aa (.e (.agg b))|none=>af
 |.eK _=>af
 |.any=>aa .any
def He(ks:List Nat):List D->Option (List D)
 |[]=>aa []
 |a::r=>match XP ks a with
  |some b=>match He ks r with
   |some q=>aa (b::q)
   |none=>af
  |none=>af
def Kd{ks:List Nat}{a b:A}(h:Tm ks a=aa b):oH ks b=a/\GX ks.length b=ab:=by
 cases a with
 |ptr l o =>
  simp only[Tm] at h;split at h
  .rename_i i hi
   cases h;obtain⟨_,d⟩:=r9 hi;simp only[mh] at d;have e:i<ks.length:=(cr.1 d).1;exact⟨by simp[oH,e9,d],qZ e⟩
  grind
 |ref l =>
  simp only[Tm] at h;split at h
  .rename_i i hi
   cases h;obtain⟨_,d⟩:=r9 hi;simp only[mh] at d;have e:i<ks.length:=(cr.1 d).1;exact⟨by simp[oH,e9,d],qZ e⟩
  grind
 |bp l w =>
  simp only[Tm] at h;split at h
  .rename_i i hi
   cases h;obtain⟨_,d⟩:=r9 hi;simp only[mh] at d;have e:i<ks.length:=(cr.1 d).1;exact⟨by simp[oH,e9,d],qZ e⟩
  grind
 |vec l k n es=>cases h
 |c x=>cases h;exact⟨rfl,rfl⟩
 |any=>cases h;exact⟨rfl,rfl⟩
def Ke{ks:List Nat}:∀ {a b:List A},Wh ks a=aa b->Bx ks b=a/\DU ks.length b=ab
 |[],b,h=>by cases h;exact⟨rfl,rfl⟩
 |a::r,b,h=>by
  simp only[Wh] at h;split at h
  .rename_i x d
   split at h
   .rename_i q i
    cases h;obtain⟨f,g⟩:=Kd d;obtain⟨c,e⟩:=Ke i;exact⟨by simp[Bx,f,c],by simp[DU,g,e]⟩
   grind
  grind
def Rs{ks:List Nat}{a b:D}(h:XP ks a=aa b):jA ks b=a/\u7 ks.length b=ab:=by
 unfold XP at h;split at h
 .rename_i a
  split at h
  .rename_i x e;cases h;obtain⟨d,c⟩:=Kd e;exact⟨by simp[jA,zD,d],by simp[u7,Jr,c]⟩
  grind
 .rename_i cs
  split at h
  .rename_i x e;cases h;obtain⟨d,c⟩:=Ke e;exact⟨by simp[jA,zD,d],by simp[u7,Jr,c]⟩
  grind
 .cases h
 .cases h;exact⟨rfl,rfl⟩
def F2{ks:List Nat}:∀ {a b:List D},He ks a=aa b->iX ks b=a/\oF ks.length b=ab
 |[],b,h=>by cases h;exact⟨rfl,rfl⟩
 |a::r,b,h=>by
  simp only[He] at h;split at h
  .rename_i x d
   split at h
   .rename_i q i
    cases h;obtain⟨f,g⟩:=Rs d;obtain⟨c,e⟩:=F2 i;exact⟨by simp[iX,f,c],by simp[oF,g,e]⟩
   grind
  grind
def JJ(CT:List (Nat×dk))(φ:Fr)(σ:List aV)(a:an)(xs:List an):Option (D×List aV×List Prop) :=
 match eQ (b5 φ a) with
 |none=>af
 |some (f,cap)=>match yr CT f with
  |none=>af
  |some g =>
   let args:=ou (xs.map (b5 φ)++fY cap)
   let ks:=Ur args []
   match He ks args with
   |none=>af
   |some Kf=>match kL ks σ with
    |none=>af
    |some σs=>match g Kf σs with
     |none=>af
     |some (res,σ1,obs)=>match cX σs,cX σ1,eg ks,bo ks.length σ1.length with
      |true,ab,ab,ab=>aa (jA (ks++mU σ.length (σ1.length-ks.length)) res,ef ks σ1 σ,obs)
      |_,_,_,_=>af
theorem OA.P6{P:aq}{X:Cx P}{N:Nat}{all:List aw}{φ:Fr}{σ:List aV}{o:aw}{CT:List (Nat×dk)}(hC:bD X CT){A:an}{xs:Array an}{K:Array ar}
  (R:∀ σ s a,cx N σ s φ a->bj o (yielded all.toArray a.tmps)=ab) (M:o.op=.call { callee:=.value A,args:=xs,argTypes:=K }) {f:aW} {cap:List C} (B:eQ (b5 φ A)=aa (f,cap)) {g:dk} (J:yr CT f=aa g)
  {ks:List Nat} {d:List D} {l σ1:List aV} {res:D} {obs:List Prop} (H:He ks (ou (xs.toList.map (b5 φ)++fY cap))=aa d) (E:kL ks σ=aa l) (z:g d l=aa (res,σ1,obs))
  (Q:cX l=ab) (L:cX σ1=ab) (hn:eg ks=ab) (I:ks.length<=σ1.length) (t:ag obs):OA X N all o φ σ (jA (ks++mU σ.length (σ1.length-ks.length)) res) (ef ks σ1 σ):=by
 obtain⟨p,F⟩:=F2 H;intro s a n hh b kk cs S i rest hb hi hK;have u:=hC f g J _ _ _ _ _ z t;have y:=dX n A;unfold eQ at B;split at B
 case h_2=>cases B
 case h_1 f' Jc he =>
  cases B;rw[he] at y;have k:=fy y;generalize O:a.eval A=fv at k;cases k with
  |fn fs mc hl Bl f1 f2 h1 h2 r1 r2 =>
   have G:fs=[]:=hZ hl;subst G;have q:cz σ s mc (fY cap):=lP (λj c hj=>⟨f2 j,h2 j (by grind),r2 j c hj⟩) Bl
   have v:cz σ s (xs.toList.map a.eval++mc) (iX ks d):=by
    rw[p];exact rK ((nQ (dX n) xs.toList).append q)
   obtain⟨fn,r,h,e⟩:=u.1;exact Js hb hi (R _ _ _ n) hh (λw=>(gM M r h e O w).1) (λw=>(gM M r h e O w).2) u v F E Q L hn I hK
theorem OA.call{P:aq}{X:Cx P}{N:Nat}{all:List aw}{φ:Fr}{σ σ':List aV}{o:aw}{CT:List (Nat×dk)}(hC:bD X CT){d:an}{xs:Array an}{c:Array ar}{x:D}{obs:List Prop}
  (j:∀ σ s a,cx N σ s φ a->bj o (yielded all.toArray a.tmps)=ab) (i:o.op=.call { callee:=.value d,args:=xs,argTypes:=c })
  (b:JJ CT φ σ d xs.toList=aa (x,σ',obs)) (e:ag obs):OA X N all o φ σ x σ':=by
 unfold JJ at b;split at b
 .cases b
 rename_i f cap hf
 split at b
 .cases b
 rename_i g h
 simp only at b;split at b
 .cases b
 grind [OA.P6,Nat.le_of_ble_eq_true]
def BY{d:D}(h:u7 0 d=ab):jA [] d=d:=by
 have i:∀ {a:A},GX 0 a=ab->oH [] a=a:=by
  intro a b;cases a <;> simp only[GX] at b <;> first|rfl|(simp at b)
 have j:∀ {l:List A},DU 0 l=ab->Bx [] l=l:=by
  intro l
  induction l with
  |nil=>intro _;rfl
  |cons a r f =>
   intro h;simp only[DU] at h;cases b:GX 0 a with
   |false=>grind
   |true=>simp only[b] at h;simp[Bx,i b,f h]
 have g:∀ {a:E1},Jr 0 a=ab->zD [] a=a:=by
  intro a b;cases a with
  |one a=>simp[zD,i b]
  |agg cs=>simp[zD,j b]
 have c:∀ {l:List E1},xG 0 l=ab->yj [] l=l:=by
  intro l
  induction l with
  |nil=>intro _;rfl
  |cons a r f =>
   intro h;simp only[xG] at h;cases b:Jr 0 a with
   |false=>grind
   |true=>simp only[b] at h;simp[yj,g b,f h]
 cases d with
 |e x=>simp[jA,g h]
 |eK xs=>simp[jA,c h]
 |any=>rfl
def BH(CT:List (Nat×dk))(φ:Fr)(a:an)(xs:List an):Option (D×List Prop) :=
 match eQ (b5 φ a) with
 |none=>af
 |some (f,cap)=>match yr CT f with
  |none=>af
  |some g=>match He [] (ou (xs.map (b5 φ)++fY cap)) with
   |none=>af
   |some Kf=>match g Kf [] with
    |some (res,[],obs)=>match u7 0 res with
     |true=>aa (res,obs)
     |false=>af
    |_=>af
theorem OA.BH{P:aq}{X:Cx P}{N:Nat}{all:List aw}{φ:Fr}{σ:List aV}{o:aw}{CT:List (Nat×dk)}(hC:bD X CT){k:an}{xs:Array an}{d:Array ar}{x:D}{obs:List Prop}
  (n:∀ σ s a,cx N σ s φ a->bj o (yielded all.toArray a.tmps)=ab) (l:o.op=.call { callee:=.value k,args:=xs,argTypes:=d })
  (b:AM.BH CT φ k xs.toList=aa (x,obs)) (c:ag obs):OA X N all o φ σ x σ:=by
 unfold AM.BH at b;split at b
 .cases b
 rename_i f cap hf
 split at b
 .cases b
 rename_i g j
 split at b
 .cases b
 rename_i e h
 split at b
 case h_2=>cases b
 rename_i res acX XQ
 split at b
 case h_2=>cases b
 rename_i i
 cases b;have:=OA.P6 (σ:=σ) hC n l hf j h rfl XQ rfl rfl rfl (bg _) c;simpa[mU,BY i,ef] using this
structure I0 (N:Nat)(σ:List aV)(s:St)(V:Nat->D)(a:Act):Prop where
 size:a.tmps.size=N
 defers:∃ ls,oI σ s a.defers ls
 slot:∀ t,dc σ s (a.tmps.getD t aj) (V t)
def I0.Jy{N:Nat}{σ:List aV}{s:St}{V:Nat->D}{φ:Fr}{a:Act}(f:I0 N σ s V a)(h:∀ t σ s v,dc σ s v (V t)->dc σ s v (look φ t)):cx N σ s φ a :=
 ⟨f.size,f.defers,λt=>h t _ _ _ (f.slot t)⟩
def c7(e:Edge):Bool:=Region.binds .any e
structure vL {P:aq}(X:Cx P)(N:Nat)(ops:Array aw)(φ:Fr)(S:Nat->List aV)(x:Nat->D)(p:Nat->Fr)(free c:Nat->Bool)(q:Nat->Nat->Prop)(idx:Nat->Option Nat)(m:Fr):Prop where
 ei:P.follows Departure.mixedOrders=ab
 back:∀ i o,ops[i]?=aa o->∀ e∈o.after,c7 e=ab->e.on<i
 Jz:∀ i o d,ops[i]?=aa o->o.dst=aa d->idx d=aa i/\d<N
 xI:∀ d i,idx d=aa i->∃ o,ops[i]?=aa o/\o.dst=aa d
 quiet:∀ i,c i=ae->S (i+1)=S i
 one:∀ i o,ops[i]?=aa o->free i=ae->OA X N ops.toList o (p i) (S i) (x i) (S (i+1))
 all:∀ i o,ops[i]?=aa o->free i=ab->c i=ae/\∀ k,OA X N ops.toList o (p i) (S k) (x i) (S k)
 cl:∀ L:Nat->Prop,(∀ i o,ops[i]?=aa o->L i->∀ e∈o.after,c7 e=ab->L e.on)->∀ i j,q i j->(L i->L j)/\∃ o,ops[i]?=aa o/\((∀ e∈o.after,c7 e=ab->L e.on)->L j)
 comp:∀ i f,i<ops.size->f<ops.size->c f=ab->i≠f->free i=ae->(f<i/\q i f)∨(i<f/\q f i)
 Th:∀ i o,ops[i]?=aa o->∀ t σ s v,dc σ s v (match idx t with|some j=>(if ∃ e∈o.after,c7 e=ab/\e.on=j then x j else if ∃ oj,ops[j]?=aa oj/\∃ e∈oj.after,c7 e=ab/\e.on=i then look φ t else .any)|none=>look φ t)->dc σ s v (look (p i) t)
 fin:∀ t σ s v,dc σ s v (match idx t with|some j=>x j|none=>look φ t)->dc σ s v (look m t)
open Classical in
noncomputable def gb(φ:Fr)(x:Nat->D)(idx:Nat->Option Nat)(L:Array Bool)(t:Nat):D :=
 match idx t with
 |some j=>if L.getD j ae=ab then x j else look φ t
 |none=>look φ t
theorem mem_ready{ops:Array aw}{L:Array Bool}{i:Nat}:i∈bc .any ops L↔∃ o,ops[i]?=aa o/\L.getD i ab=ae/\∀ e∈o.after,c7 e=ab->L.getD e.on ae=ab:=by
 unfold bc;simp only[mO,rq,bL,jh]
 constructor
 .rintro⟨b,f,a⟩;rw[fR b] at a;simp only[j9,fJ,Array.all_eq_true',mP,jh] at a;refine⟨ops[i],fR b,f,λe d j=>?_⟩
  rcases a e d with h|h
  .unfold c7 at j;grind
  grind
 .rintro⟨o,b,f,a⟩;have g:i<ops.size:=(ia.1 b).1;refine⟨g,f,?_⟩;rw[b];simp only[j9,fJ,Array.all_eq_true',mP,jh];intro e d;cases j:Region.binds .any e with
  |false=>grind
  |true=>exact .inr (a e d j)
section
variable {P:aq}{X:Cx P}{N:Nat}{ops:Array aw}{φ m:Fr}{S:Nat->List aV}{x:Nat->D}{p:Nat->Fr}{free c:Nat->Bool}{q:Nat->Nat->Prop}{idx:Nat->Option Nat}
def vL.chain(h:vL X N ops φ S x p free c q idx m){i:Nat}:∀ {k:Nat},i<=k->(∀ g,i<=g->g<k->c g=ae)->S k=S i
 |0,b,_=>by grind
 |k+1,b,a=>by
  rcases cJ k i with hl|hl
  .grind
  .rw[h.quiet k (a k hl (by omega)),h.chain (k:=k) hl (λg h1 h2=>a g h1 (by omega))]
def vL.last(h:vL X N ops φ S x p free c q idx m){L:Array Bool}(l:∀ i,i<ops.size->L.getD i ae=ab){k:Nat}{s0 s:St}{a:Act}(r:k<=ops.size)
  (n:∀ f,f<ops.size->c f=ab->(L.getD f ae=ab↔f<k)) (b:I0 N (S k) s (gb φ x idx L) a) (hh:aJ (S k) s) (st:cD (S 0) s0 (S k) s) :
  cx N (S ops.size) s m a/\aJ (S ops.size) s/\cD (S 0) s0 (S ops.size) s:=by
 have d:S ops.size=S k:=h.chain r (λg h1 h2=>by
  grind)
 rw[<-d] at b hh st;refine⟨b.Jy λt σ s v e=>h.fin t σ s v ?_,hh,st⟩
 unfold gb at e;cases hi:idx t with
 |none=>grind
 |some j =>
  simp only[hi] at e ⊢;obtain⟨o,u,_⟩:=h.xI _ _ hi
  grind
theorem ez{L:Array Bool}{i j:Nat}(hi:i<L.size):(L.setIfInBounds i ab).getD j ae=ab↔j=i∨L.getD j ae=ab:=by
 simp only[dG]
 grind
theorem count_set:∀ {l:List Bool}{i:Nat},l[i]?=aa ae->((l.set i ab).filter (λb=>!b)).length+1=(l.filter (λb=>!b)).length
 |[],_,h=>by grind
 |b::r,0,h=>by grind
 |b::r,i+1,h=>by
  simp at h;have:=count_set (l:=r) h;cases b <;> simp[List.set_cons_succ] <;> omega
theorem vM(t:Nat)(L:Array Bool):Region.linearise.go .any ops 0 t L []=[]:=by simp[Region.linearise.go]
theorem oZ(n t:Nat)(L:Array Bool):Region.linearise.go .any ops (n+1) t L []=match (bc .any ops L)[t % (bc .any ops L).length]? with
  |some i=>i::Region.linearise.go .any ops n (t / (bc .any ops L).length) (L.setIfInBounds i ab) []
  |none=>[]:=by
 simp only[Region.linearise.go]
 change (match (bc .any ops L)[t % (bc .any ops L).length]? with
   |some i=>Region.linearise.go .any ops n (t / (bc .any ops L).length) (L.setIfInBounds i ab) [i]
   |none=>[].reverse)=_
 grind [linearise_go_acc]
def vL.arr(h:vL X N ops φ S x p free c q idx m){SS:au->St->Prop}{b:aR}{kk:List Item}{cs:List aR}(hb:b.kind≠.early){s0:St}
  (hQ:∀ s a,cx N (S ops.size) s m a->aJ (S ops.size) s->cD (S 0) s0 (S ops.size) s->ft X SS (G (b.aT a kk) cs) s) :
  ∀ (l:Nat) (L:Array Bool),L.size=ops.size->(L.toList.filter (λb=>!b)).length<=l ->
   (∀ i o,ops[i]?=aa o->L.getD i ae=ab->∀ e∈o.after,c7 e=ab->L.getD e.on ae=ab) ->
   ∀ (k:Nat) (s:St) (a:Act),k<=ops.size->(∀ f,f<ops.size->c f=ab->(L.getD f ae=ab↔f<k))->I0 N (S k) s (gb φ x idx L) a->aJ (S k) s->cD (S 0) s0 (S k) s ->
   ∀ t,ft X SS (G (b.aT a (.inRegion ops (Region.linearise.go .any ops l t L [])::kk)) cs) s:=by
 have fin:∀ (s:St) (a:Act),cx N (S ops.size) s m a->aJ (S ops.size) s->cD (S 0) s0 (S ops.size) s->ft X SS (G (b.aT a (.inRegion ops []::kk)) cs) s :=
  λs a a1 a2 a3=>.ctl a2 rfl (λ_=>iW) λs1 Q=>hQ s1 a (a1.rely Q a2) (a2.rely Q) (a3.trans Q.stepW)
 intro l
 induction l with
 |zero =>
  intro L hs hf Y k s a Z F n hh st;have B:∀ i,i<ops.size->L.getD i ae=ab:=by
   intro i hi;have hm:L[i]'(by omega)∈L.toList:=by simp
   cases hb:L[i]'(by omega) with
   |true=>simp[dG,fR (by omega:i<L.size),hb]
   |false =>
    have:L[i]'(by omega)∈L.toList.filter (λb=>!b):=mO.2 ⟨hm,by grind⟩
    grind
  intro t;rw[vM];obtain⟨a1,a2,a3⟩:=h.last B Z F n hh st
  grind
 |succ l ih =>
  intro L hs hf Y k s a Z F n hh st;intro t;rw[oZ];cases WY:(bc .any ops L)[t % (bc .any ops L).length]? with
  |none =>
   have hr:bc .any ops L=[]:=by
    cases hr:bc .any ops L with
    |nil=>rfl
    |cons y ys =>
     grind [Nat.mod_lt]
   have B:∀ i,i<ops.size->L.getD i ae=ab:=by
    intro i
    induction i using Nat.strongRecOn with
    |_ i ihi =>
     intro hi;cases hb:L.getD i ae with
     |true=>rfl
     |false =>
      have hm:i∈bc .any ops L:=mem_ready.2 ⟨ops[i],fR hi,by
       grind,λe U hbe=>by
       have:=h.back i _ (fR hi) e U hbe
       grind⟩
      grind
   obtain⟨a1,a2,a3⟩:=h.last B Z F n hh st
   grind
  |some i =>
   have hi:=bU WY;obtain⟨o,ho,ZP,QW⟩:=mem_ready.1 hi;have T:i<ops.size:=(ia.1 ho).1;have J:¬L.getD i ae=ab:=by
    grind
   have W:=h.cl (λj=>L.getD j ae=ab) Y
   have ZQ:∀ g,q g i->¬L.getD g ae=ab:=λg hg hL=>J ((W g i hg).1 hL)
   have hup:∀ g,q i g->L.getD g ae=ab:=λg hg=>by
    grind
   have H:(L.setIfInBounds i ab).size=ops.size:=by grind
   have E:((L.setIfInBounds i ab).toList.filter (λb=>!b)).length<=l:=by
    have h1:L.toList[i]?=aa ae:=by
     rw[zq,fR (by omega:i<L.size)]
     simpa[dG,fR (by omega:i<L.size)] using J
    grind [count_set]
   have WZ:∀ j o',ops[j]?=aa o'->(L.setIfInBounds i ab).getD j ae=ab->∀ e∈o'.after,c7 e=ab->(L.setIfInBounds i ab).getD e.on ae=ab:=by
    grind [ez]
   have hfi:cx N (S k) s (p i) a:=n.Jy λt σ s v V=>h.Th i o ho t σ s v (by
    unfold gb at V;cases w:idx t with
    |none=>grind
    |some j =>
     simp only[w] at V ⊢;split
     .grind
     .split
      .grind
      .trivial)
   have O:∀ (σ':List aV) (s':St) (v:ak),cD (S k) s σ' s'->dc σ' s' v (x i)->I0 N σ' s' (gb φ x idx (L.setIfInBounds i ab)) (a.put o.dst v):=by
    intro σ' s' v u V;cases hd:o.dst with
    |none =>
     refine⟨n.size,n.defers.imp λ_ h1=>h1.mono u.ext,λt=>?_⟩
     have A:=(n.slot t).mono u.ext hh.len;simp only[Act.put];unfold gb at A ⊢;cases w:idx t with
     |none=>grind
     |some j =>
      simp only[w] at A ⊢;obtain⟨oj,W0,W1⟩:=h.xI _ _ w
      grind [ez]
    |some d =>
     obtain⟨hid,hdN⟩:=h.Jz i o d ho hd;refine⟨by simp[Act.put,n.size],n.defers.imp λ_ h1=>h1.mono u.ext,λt=>?_⟩
     simp only[Act.put]
     by_cases e:d=t
     .subst e;have hs2:d<a.tmps.size:=by rw[n.size];exact hdN
      simp only[dG,vn hs2,fJ];unfold gb;simp only[hid];rw[bd ((ez (by omega)).2 (.inl rfl))]
      exact V
     .have A:=(n.slot t).mono u.ext hh.len;simp only[dG] at A ⊢;rw[sR e];unfold gb at A ⊢;cases w:idx t with
      |none=>grind
      |some j =>
       simp only[w] at A ⊢;obtain⟨oj,W0,W1⟩:=h.xI _ _ w
       grind [ez]
   have C:∀ (k':Nat),k'<=ops.size->OA X N ops.toList o (p i) (S k) (x i) (S k')->(∀ f,f<ops.size->c f=ab->((L.setIfInBounds i ab).getD f ae=ab↔f<k')) ->
     ft X SS (G (b.aT a (.inRegion ops (i::Region.linearise.go .any ops l (t / (bc .any ops L).length) (L.setIfInBounds i ab) [])::kk)) cs) s:=by
    intro k' ZN hoa W2;have:=hoa s a hfi hh b kk cs SS i (Region.linearise.go .any ops l (t / (bc .any ops L).length) (L.setIfInBounds i ab) []) hb (by grind)
    simp only[oP] at this;exact this λv s' V lb u=>ih _ H E WZ k' s' _ ZN W2 (O _ _ _ u V) lb (st.trans u) _
   have same:c i=ae->∀ f,f<ops.size->c f=ab->((L.setIfInBounds i ab).getD f ae=ab↔f<k):=by
    grind [ez]
   cases r:free i with
   |true =>
    obtain⟨hq,W3⟩:=h.all i o ho r;exact C k Z (W3 k) (same hq)
   |false =>
    have z:=h.one i o ho r;have K:S i=S k:=by
     rcases Nat.le_total k i with R|R
     .refine h.chain R λg h1 h2=>?_
      cases U:c g with
      |false=>rfl
      |true =>
       exfalso;rcases h.comp i g T (by omega) U (by omega) r with⟨_,hc⟩|⟨hc,_⟩
       .grind
       .omega
     .refine(h.chain R λg h1 h2=>?_).symm
      cases U:c g with
      |false=>rfl
      |true =>
       exfalso;have hLg:=(F g (by omega) U).2 h2
       by_cases QX:g=i
       .grind
       .rcases h.comp i g T (by omega) U (λe=>QX e.symm) r with⟨hc,_⟩|⟨_,hc⟩
        .omega
        grind
    rw[K] at z;cases I:c i with
    |false =>
     rw[h.quiet i I,K] at z;exact C k Z z (same I)
    |true =>
     refine C (i+1) (by omega) z λf Ti V2=>?_
     rw[ez (by omega)]
     by_cases M:f=i
     .grind
     .simp only[M,false_or];rcases h.comp i f T Ti V2 (λe=>M e.symm) r with⟨h1,hc⟩|⟨h1,hc⟩
      .grind
      grind
end
end
def Ko(P:aq):List TypeDesc->List Field->Nat->Prop
 |[],[],_=>True
 |d::ds,f::fs,i=>f.name≠ "_"/\f.offset=i/\P.underlying f.type=aa d/\(match d with|.int _|.string|.bool=>True|_=>False)/\Ko P ds fs (i+1)
 |_,_,_=>False
def Uu(d:Nat)(xs ys:Array ak)(f:Field)(_:Option Bool×Unit):Sem (ForInStep (Option Bool×Unit)) :=
 if f.name= "_" then pure (ForInStep.yield (af,()))
 else do
  let a<-part f.type xs f.offset
  let b<-part f.type ys f.offset
  let r<-Op.equalIn d f.type a b
  if r=ae then pure (ForInStep.done (aa ae,())) else pure (ForInStep.yield (af,()))
def se{P:aq}(w:az)(d:Nat)(xs ys:Array ak):∀ {ds:List TypeDesc}{fs:List Field}{i:Nat}{vs ws:List ak}{b:Bool},Ko P ds fs i->jQ ds vs ws=aa b->(∀ j v,vs[j]?=aa v->xs[i+j]?=aa v)->(∀ j v,ws[j]?=aa v->ys[i+j]?=aa v) ->
  (Op.eqFields (d+1) xs ys fs).run P w=.ok b w/\∀ es,(forIn fs (af,()) (Uu (d+1) xs ys)).events P w es=es
 |[],[],i,[],[],b,_,h,_,_=>by cases h;simp[Op.eqFields]
 |[],[],i,_::_,_,b,_,h,_,_=>by cases h
 |[],[],i,[],_::_,b,_,h,_,_=>by cases h
 |[],_::_,i,_,_,b,x,_,_,_=>x.elim
 |_::_,[],i,_,_,b,x,_,_,_=>x.elim
 |t::ds,f::fs,i,[],_,b,_,h,_,_=>by cases h
 |t::ds,f::fs,i,_::_,[],b,_,h,_,_=>by cases h
 |t::ds,f::fs,i,v::vs,u::us,b,⟨F,C,r,I,H⟩,h,G,E=>by
  simp only[jQ] at h;cases m:qJ t v u with
  |none=>grind
  |some a =>
   cases A:jQ ds vs us with
   |none=>grind
   |some b' =>
    simp[m,A] at h;subst h;obtain⟨K,s⟩:=se w d xs ys H A (λj v J=>by have:=G (j+1) v (by grind);grind) (λj v J=>by have:=E (j+1) v (by grind);grind)
    have e:xs[i]?=aa v:=by simpa using G 0 v rfl
    have k:ys[i]?=aa u:=by simpa using E 0 u rfl
    have l:(isAgg f.type).run P w=.ok ae w:=by
     unfold isAgg underlying;cases t <;> simp at I <;> simp[r]
    have p:∀ (c:Array ak) (z:ak),c[i]?=aa z->(part f.type c f.offset).run P w=.ok z w:=by
     intro c z q;unfold part;simp[l,C,q]
    have n:∀ (c:Array ak) (z:ak),c[i]?=aa z->∀ es,(part f.type c f.offset).events P w es=es:=by
     intro c z q es;unfold part;simp[l,C,q]
    have y:∀ es,(Op.equalIn (d+1) f.type v u).events P w es=es:=by
     intro es;unfold qJ at m;split at m <;> first
      |(cases m;done)
      |(unfold Op.equalIn;simp[underlying,r];done)
      |(unfold Op.equalIn;simp[underlying,r];split <;> rfl)
    have B:(Op.equalIn (d+1) f.type v u).run P w=.ok a w:=by
     unfold qJ at m
     grind [run_equalIn_int,run_equalIn_string,run_equalIn_bool]
    refine⟨?_,λes=>?_⟩
    .rw[Op.eqFields.eq_2,bd F];simp only[bY,p xs v e,p ys u k,B,b9];cases a
     .simp
     grind
    .rw[List.forIn_cons];simp only[Uu,F,cd,aO,bY,p xs v e,p ys u k,B,b9,aU,n xs v e,n ys u k,y];cases a
     .simp
     .simpa using s es
def jR{P:aq}{t:ar}{fs:List Field}{ds:List TypeDesc}(d:P.underlying t=aa (.struct fs.toArray))(c:P.stoodInHeld t=ae)(k:P.eqGuardType P.depth t=ae)(f:Ko P ds fs 0) :
  P.eqGuardType P.depth t=ae/\∀ (w:az) (vs ws:List ak) (b:Bool),jQ ds vs ws=aa b->(Op.equal t (.agg vs.toArray) (.agg ws.toArray)).run P w=.ok b w/\∀ es,(Op.equal t (.agg vs.toArray) (.agg ws.toArray)).events P w es=es:=by
 refine⟨k,λw vs ws b h=>?_⟩
 have e:P.fieldsOf t=fs.toArray:=by unfold Program.fieldsOf;rw[d]
 have key:=se w 9998 vs.toArray ws.toArray f h (λj v i=>by grind) (λj v i=>by grind)
 refine⟨?_,λes=>?_⟩
 rotate_left
 .show (Op.equalIn (9999+1) t _ _).events P w es=es;have l:=key.2 es;unfold Op.equalIn;simp[underlying,d,c];show Result.evThen ((forIn fs (af,()) (Uu 9999 vs.toArray ws.toArray)).run P w) ((forIn fs (af,()) (Uu (9998+1) vs.toArray ws.toArray)).events P w es) _=es;rw[l];cases (forIn fs (af,()) (Uu 9999 vs.toArray ws.toArray)).run P w with
  |ok a w'=>obtain⟨o,_⟩:=a;cases o <;> rfl
  |halt x w'=>rfl
 show (Op.equalIn (9999+1) t _ _).run P w=_
 grind [run_equalIn_agg]
def PT:List TypeDesc->List A->List A->Option Bool
 |[],[],[]=>aa ab
 |.int _::ds,.c (.int k a)::cs,.c (.int k' b)::es=>match Hd k k' with
  |true=>match PT ds cs es with
   |some r=>aa ((a==b)&&r)
   |none=>af
  |false=>af
 |.string::ds,.c (.str a)::cs,.c (.str b)::es=>match PT ds cs es with
  |some r=>aa ((a==b)&&r)
  |none=>af
 |.bool::ds,.c (.bool a)::cs,.c (.bool b)::es=>match PT ds cs es with
  |some r=>aa ((a==b)&&r)
  |none=>af
 |_,_,_=>af
def Ee{σ:List aV}{s:St}:∀ {ds:List TypeDesc}{cs es:List A}{b:Bool}{vs ws:List ak},PT ds cs es=aa b->dW σ s vs cs->dW σ s ws es->jQ ds vs ws=aa b:=by
 intro ds
 induction ds with
 |nil =>
  intro cs es b vs ws h c e;cases cs <;> cases es <;> simp only[PT,reduceCtorEq] at h
  cases vs <;> cases ws <;> first|exact c.elim|exact e.elim|(simpa[jQ] using h)
 |cons d ds ih =>
  intro cs es b vs ws h c e;unfold PT at h;split at h
  .grind
  .rename_i n i k a l k' b' es' heq
   cases heq;split at h
   .rename_i m
    cases Ab m;split at h
    .rename_i r j
     cases h;cases vs with
     |nil=>exact c.elim
     |cons v vs=>cases ws with
      |nil=>exact e.elim
      |cons w ws =>
       obtain⟨v1,f⟩:=c;obtain⟨w1,w2⟩:=e;cases (show Rd s.M v (.int k a) from v1)
       cases (show Rd s.M w (.int k b') from w1)
       simp[jQ,qJ,ih j f w2]
    grind
   grind
  .rename_i i a l b' es' heq
   cases heq;split at h
   .rename_i r j
    cases h;cases vs with
    |nil=>exact c.elim
    |cons v vs=>cases ws with
     |nil=>exact e.elim
     |cons w ws =>
      obtain⟨v1,f⟩:=c;obtain⟨w1,w2⟩:=e;cases (show Rd s.M v (.str a) from v1) with
      |str hx _ =>
      cases (show Rd s.M w (.str b') from w1) with
      |str hy _ =>
      simp only[jQ,qJ,ih j f w2]
      grind [ByteArray.toList_eq]
   grind
  .rename_i i a l b' es' heq
   cases heq;split at h
   .rename_i r j
    cases h;cases vs with
    |nil=>exact c.elim
    |cons v vs=>cases ws with
     |nil=>exact e.elim
     |cons w ws =>
      obtain⟨v1,f⟩:=c;obtain⟨w1,w2⟩:=e;cases (show Rd s.M v (.bool a) from v1)
      cases (show Rd s.M w (.bool b') from w1)
      simp[jQ,qJ,ih j f w2]
   grind
  grind
section
variable {P:aq}{T:List (Nat×TI)}{o:aw}{g:an->D}{σ:List aV}
def lr:BinOp->Bool->Option Bool
 |.eql,b=>aa b
 |.neq,b=>aa (!b)
 |_,_=>af
def tY{op:BinOp}{t:ar}{x y:ak}{w:az}{b c:Bool}(d:match x,y with|.agg _,.agg _=>True|.bool _,.bool _=>True|_,_=>False)(a:(Op.equal t x y).run P w=.ok b w)(h:lr op b=aa c) :
  (binOp op t x y).run P w=.ok (.bool c) w:=by
 cases op <;> simp only[lr,reduceCtorEq,di] at h
 .subst h;cases x <;> cases y <;> simp only at d <;> simp[binOp,a]
 .subst h;cases x <;> cases y <;> simp only at d <;> simp[binOp,a]
def pf{op:BinOp}{t:ar}{x y:ak}{w:az}{b c:Bool}(d:match x,y with|.agg _,.agg _=>True|.bool _,.bool _=>True|_,_=>False)(e:(Op.equal t x y).run P w=.ok b w)(a:∀ es,(Op.equal t x y).events P w es=es)(h:lr op b=aa c)(es:Array Event) :
  (binOp op t x y).events P w es=es:=by
 cases op <;> simp only[lr,reduceCtorEq,di] at h <;> (cases x <;> cases y <;> simp only at d <;> simp[binOp,a])
def wy(op:BinOp)(t:ar)(x y:an)(xs ys:Array ak)(w:az)(a:P.eqGuardType P.depth t=ae)(es:Array Event):(eqGuard op t x y (.agg xs) (.agg ys)).events P w es=es:=by
 cases op <;> simp[eqGuard,a]
theorem bH.structEq(v:dg P T){op:BinOp}{t ty:ar}{x y:an}(h:o.op=.binOp op t x y ty){i:TI}(hi:bF T t=aa i)(l:i.eq≠[]){cs es:List A}{b c:Bool}(z:g x=.e (.agg cs))(u:g y=.e (.agg es))
  (n:PT i.eq cs es=aa b) (r:lr op b=aa c):bH P o g σ (.e (.one (.c (.bool c)))) σ:=by
 refine .quiet λs ρ hh hr=>?_
 have h1:=hr x;have h2:=hr y;rw[z] at h1;rw[u] at h2;obtain⟨vs,p,j⟩:=h1;obtain⟨k,q,f⟩:=h2;obtain⟨m,heq⟩:=(v t i hi).eqs l;have a:=tY (x:=.agg vs.toArray) (y:=.agg k.toArray) av (heq s.w vs k b (Ee n j f)).1 r;have d:=pf (x:=.agg vs.toArray) (y:=.agg k.toArray) av (heq s.w vs k b (Ee n j f)).1 (heq s.w vs k b (Ee n j f)).2 r;refine⟨.bool c,?_,Rd.bool,by simp only[ay,h,p,q,aO,run_eqGuard_agg s.w op t x y _ _ m,wy op t x y _ _ s.w m,aU,bY,b9,a,d,Sem.events_pure]⟩
 simp only[ay,h,p,q,bY,run_eqGuard_agg s.w op t x y _ _ m,b9,a,cY]
theorem bH.Q5(r:dg P T){op:BinOp}{t ty:ar}{x y:an}(h:o.op=.binOp op t x y ty){i:TI}(hi:bF T t=aa i)(p:i.desc=.bool){a b c:Bool}(u:g x=.e (.one (.c (.bool a))))(q:g y=.e (.one (.c (.bool b))))
  (n:lr op (a==b)=aa c):bH P o g σ (.e (.one (.c (.bool c)))) σ:=by
 refine .quiet λs ρ hh hr=>?_
 have h1:=hr x;have h2:=hr y;rw[u] at h1;rw[q] at h2
 replace h1:=fy h1
 replace h2:=fy h2
 generalize j:ρ x=vx at h1;generalize k:ρ y=vy at h2;cases h1;cases h2;have m:P.underlying t=aa .bool:=by rw[(r t i hi).Tg,p]
 have d:=tY (P:=P) (w:=s.w) (x:=.bool a) (y:=.bool b) av (run_equal_bool s.w t a b m) n;have l:∀ es,(Op.equal t (.bool a) (.bool b)).events P s.w es=es:=λes=>by
  show (Op.equalIn (9999+1) t _ _).events P s.w es=es;unfold Op.equalIn;simp[underlying,m]
 have f:=pf (P:=P) (w:=s.w) (x:=.bool a) (y:=.bool b) av (run_equal_bool s.w t a b m) l n;refine⟨.bool c,?_,Rd.bool,by simp only[ay,h,j,k,aO,eqGuard_at_bool,Sem.events_pure,cY,aU,bY,b9,d,f]⟩
 simp only[ay,h,j,k,bY,eqGuard_at_bool,cY,b9,d]
def bH.Ua{t ty:ar}{x y:an}(h:o.op=.binOp .xor t x y ty){a b:Int}(n:g x=.e (.one (.c (.int .i64 a))))(m:g y=.e (.one (.c (.int .i64 b))))(q:0<=a)(h1:0<=b) :
  bH P o g σ (.e (.one (.c (.int .i64 ((a.toNat ^^^ b.toNat:Nat):Int))))) σ:=by
 refine .quiet λs ρ hh hr=>?_
 have e1:=hr x;have e2:=hr y;rw[n] at e1;rw[m] at e2
 replace e1:=fy e1
 replace e2:=fy e2
 generalize f:ρ x=vx at e1;generalize i:ρ y=vy at e2;cases e1 with|int ha =>
 cases e2 with|int hb =>
 have p:a.toNat ^^^ b.toNat<2 ^ 63:=by
  apply Nat.xor_lt_two_pow <;> simp only[bx] at ha hb <;> omega
 have k:bx .i64 ((a.toNat ^^^ b.toNat:Nat):Int):=by simp only[bx];omega
 refine⟨.int .i64 ((a.toNat ^^^ b.toNat:Nat):Int),?_,.int k,?_⟩
 rotate_left
 .simp only[ay,h,f,i,aO,gA,jK,aU,Go.binOp,cW,fu,cd,Op.intBits,bY,b9,cY,Sem.events_pure]
 have d:((BitVec.ofInt 64 a) ^^^ (BitVec.ofInt 64 b)).toNat=a.toNat ^^^ b.toNat:=by
  rw[BitVec.toNat_xor,BitVec.toNat_ofInt,BitVec.toNat_ofInt];simp only[bx] at ha hb
  congr 1 <;> omega
 have j:(BitVec.ofInt IntKind.i64.bits a ^^^ BitVec.ofInt IntKind.i64.bits b).toNat=a.toNat ^^^ b.toNat:=d;have l:(Go.binOp .xor t (.int .i64 a) (.int .i64 b)).run P s.w=.ok (.int .i64 ((a.toNat ^^^ b.toNat:Nat):Int)) s.w:=by
  simp only[Go.binOp,cW,fu,cd,Op.intBits,cY]
  grind [mq]
 simp only[ay,h,f,i,bY,gA,b9,l,cY]
def bH.GZ(A:dg P T){k dst:ar}{x:an}(h:o.op=.convert k dst x){i i2 ie:TI}{E:ar}(hi:bF T k=aa i)(H:bF T dst=aa i2)(O:i.desc=.slice E)(B:i2.desc=.string)(Q:bF T E=aa ie)(z:ie.desc=.int .u8)
  {tt:Bool} {n:Nat} {es:Nat->List C} {r:List UInt8} (U:∀ s v,dc σ s v (g x)->Rd s.M v (.sl tt 1 n es)) (hb:vR es 0 n=aa r):bH P o g σ (.e (.one (.c (.str r)))) σ:=by
 refine .nS λs ρ hh hr=>?_
 have h1:=U s _ (hr x);obtain⟨vs,K,b⟩:=dO (P:=P) hh h1;obtain⟨a,cap,S,u,N,R,_⟩:=h1.flat;have L:n<=9223372036854775807:=by omega
 have F:vs.length=n:=by rw[K.len];omega
 obtain⟨xs,e1,e2⟩:=yx (M:=s.M) (vs:=vs) hb F (λj hj c V=>by
  obtain⟨v,W,p2⟩:=K.rd j hj 0 c (by grind)
  grind)
 have J:=(A k i hi).run_underlying (w:=s.w);have l:=(A dst i2 H).run_underlying (w:=s.w);have f:=(A E ie Q).run_underlying (w:=s.w);rw[O] at J;rw[B] at l;rw[z] at f;have I:r.length<=9223372036854775807:=by
  grind
 have m:∃ y:ByteArray,(Conv.bytesToString (.slice a n cap)).run P s.w=.ok (.string y) s.w/\y.data.toList=r:=by
  cases a with
  |none =>
   have p:r=[]:=by
    have:vs=[]:=by
     rw[u] at b;have h2:=b.1;simp[Builtin.firstCells] at h2
     grind
    grind
   exact⟨ByteArray.empty,by simp[Conv.bytesToString],by rw[p];rfl⟩
  |some ad =>
   rw[u] at b;have h2:=b.1;simp only[Builtin.firstCells,Nat.mul_one] at h2;refine⟨⟨#[]++(xs.map λx=>UInt8.ofNat x.toNat).toArray⟩,?_,by grind⟩
   simp only[Conv.bytesToString,bY,h2,b9,e1];rw[List.forIn_toArray,ow (P:=P) s.w (λ_ _=>rfl) xs ByteArray.empty]
   rfl
 obtain⟨y,q,G⟩:=m;refine⟨.string y,?_,Rd.str G I,?_⟩
 rotate_left
 .intro e d;simp only[ay,h,u,aO,convert,J,l,aU,b9,f,q,bY,events_underlying,Sem.events_pure] at d;cases a with
  |none=>simp[Conv.bytesToString] at d
  |some ad =>
   have t:=gN (P:=P) hh (h1.DF (λ_ _=>rfl)) (w:=s.w) rfl
   rw[u] at b t;have h2:=b.1;simp only[Builtin.firstCells,Nat.mul_one] at h2 t;unfold Conv.bytesToString at d;simp only at d;rw[aO,h2,aU,cO.bind (P:=P) ?_ λ_=>.pure] at d
   .grind [sU]
   .rw[List.forIn_toArray];refine cO.JG (λx s=>?_) _ _
    split
    .exact .pure
    .exact .bind .stuck λ_=>.pure
 simp only[ay,h,u,bY,convert,J,l,b9,f,q,cY]
end
def vS(g:an->D):List an->Option (List C)
 |[]=>aa []
 |x::r=>match g x with
  |.e (.one (.c c))=>match vS g r with
   |some q=>aa (c::q)
   |none=>af
  |_=>af
def wz{σ:List aV}{s:St}{ρ:an->ak}{g:an->D}(a:∀ y,dc σ s (ρ y) (g y)):∀ {xs:List an}{cs:List C},vS g xs=aa cs->xs.length=cs.length/\∀ (j:Nat)(c:C),cs[j]?=aa c->∃ v,(xs.map ρ)[j]?=aa v/\Rd s.M v c
 |[],cs,h=>by cases h;grind
 |x::r,cs,h=>by
  simp only[vS] at h;split at h
  .rename_i c d
   split at h
   .rename_i q e
    cases h;obtain⟨i,k⟩:=wz a e;refine⟨by grind,λj f b=>?_⟩
    cases j with
    |zero =>
     simp at b;subst b;have:=a x;rw[d] at this;exact⟨ρ x,by simp,fy this⟩
    |succ j=>grind
   grind
  grind
section
variable {P:aq}{T:List (Nat×TI)}{o:aw}{g:an->D}{σ:List aV}
theorem bH.makeFunc{fn:Fn}{a b:Array an}(h:o.op=.makeFunc fn a b){d f:List C}(k:vS g a.toList=aa d)(hb:vS g b.toList=aa f):bH P o g σ (.e (.one (.c (.fn fn d f)))) σ:=by
 refine .quiet λs ρ hh hr=>?_
 obtain⟨a1,a2⟩:=wz hr k;obtain⟨m,n⟩:=wz hr hb;have l:a.map ρ=(a.toList.map ρ).toArray:=by grind
 have i:b.map ρ=(b.toList.map ρ).toArray:=by grind
 refine⟨.func fn (a.toList.map ρ).toArray (b.toList.map ρ).toArray,?_,?_,by simp only[ay,h,Instr.makeFunc];rfl⟩
 .simp only[ay,h,Instr.makeFunc,l,i];rfl
 .refine Rd.fn _ _ (by grind) (by grind) (λj=>((a.toList.map ρ)[j]?).getD aj) (λj=>((b.toList.map ρ)[j]?).getD aj) ?_ ?_ ?_ ?_
  .grind
  .grind
  .grind
  grind
def rV:TypeDesc->Bool
 |.interface _=>ab
 |_=>ae
def vd(t:ar):D->Option C
 |.e (.one (.c c))=>aa (.ifs t c)
 |.e (.agg cs)=>match gn cs with
  |some q=>aa (.Jw t q)
  |none=>af
 |_=>af
def Ef{s:St}{v:ak}{t:ar}{d:D}{c:C}(h:vd t d=aa c)(r:dc σ s v d):Rd s.M (.iface t v) c:=by
 unfold vd at h;split at h
 .cases h;exact Rd.ifs (fy r) (fy r).cell
 .split at h
  .rename_i q k
   cases h;obtain⟨vs,rfl,l⟩:=r;have b:=kn k l;refine Rd.Jw (by have:=b.length;grind) (λj=>(vs[j]?).getD aj) (λj f=>by grind) λj c f=>?_
   obtain⟨v,e,i⟩:=b.get (j:=j) (a:=.c c) (by grind)
   rw[e];exact i
  grind
 grind
theorem bH.makeInterface(f:dg P T){t:ar}{x:an}(h:o.op=.makeInterface t x){i:TI}(hi:bF T t=aa i)(b:rV i.desc=ae){c:C}(j:vd t (g x)=aa c):bH P o g σ (.e (.one (.c c))) σ:=by
 refine .quiet λs ρ hh hr=>?_
 have d:=(f t i hi).run_underlying (w:=s.w);refine⟨.iface t (ρ x),?_,Ef j (hr x),?_⟩
 rotate_left
 .simp only[ay,h,Instr.makeInterface,aO,bY,d,aU,b9,events_underlying];cases a:i.desc <;> rw[a] at b <;> first|(cases b;done)|simp
 simp only[ay,h,Instr.makeInterface,bY,d,b9];cases a:i.desc <;> rw[a] at b <;> first|(cases b;done)|simp
def yy(i:TI):Option E1:=match i.agg with
 |true=>aa (.agg (i.zero.map A.c))
 |false=>af
def Kp{i:TI}{t:ar}(h:bJ P t i){s:St}{e:E1}(d:yy i=aa e):∃ z,(zeroValue t).run P s.w=.ok z s.w/\mY σ s z e:=by
 obtain⟨z,k,a⟩:=h.B6 σ s;refine⟨z,k,?_⟩;obtain⟨n,f,m,r,p,l,q,⟨cs,c⟩,u⟩:=h.info;have b:f=z:=by
  have:(zeroValue t).run P s.w=.ok f s.w:=by simp[zeroValue,typeInfo,m,l]
  grind
 subst b;unfold yy at d;cases j:i.agg with
 |true =>
  rw[j] at d c;simp only[cu] at c;cases d;rw[c] at a ⊢;exact⟨cs.toList,by simp,by simpa[Value.cells] using a⟩
 |false=>grind
def pV(t:ar)(i:TI):C->Option (E1×Bool)
 |.ifs t' c=>match aG t' t with
  |true=>aa (.one (.c c),ab)
  |false=>match yy i with
   |some e=>aa (e,ae)
   |none=>af
 |.Jw t' cs=>match aG t' t with
  |true=>aa (.agg (cs.map A.c),ab)
  |false=>match yy i with
   |some e=>aa (e,ae)
   |none=>af
 |.nV=>match yy i with
  |some e=>aa (e,ae)
  |none=>af
 |_=>af
theorem bH.typeAssert(G:dg P T){x:an}{y t:ar}(h:o.op=.typeAssert x y t ab){i:TI}(hi:bF T t=aa i)(F:rV i.desc=ae){c:C}(K:g x=.e (.one (.c c))){e:E1}{b:Bool}(k:pV t i c=aa (e,b)) :
  bH P o g σ (.eK [e,.one (.c (.bool b))]) σ:=by
 refine .quiet λs ρ hh hr=>?_
 have h1:=hr x;rw[K] at h1
 replace h1:=fy h1
 generalize r:ρ x=vx at h1;have q:=(G t i hi).run_underlying (w:=s.w);have key:∀ (v:ak) (b:Bool),(Instr.typeAssert vx y t ab).run P s.w=.ok (.tuple #[v,.bool b]) s.w->mY σ s v e->(Instr.typeAssert vx y t ab).events P s.w #[]=#[]->∃ v,(ay ρ o).run P s.w=.ok (.value v) s.w/\dc σ s v (.eK [e,.one (.c (.bool b))])/\(ay ρ o).events P s.w #[]=#[]:=by
  intro v b h1 h2 h3;refine⟨.tuple #[v,.bool b],?_,⟨[v,.bool b],rfl,h2,Rd.bool,av⟩,by simp only[ay,h,r,aO,h1,h3,aU,Sem.events_pure]⟩
  simp only[ay,h,r,bY,h1,b9,cY]
 have fail:∀ p,yy i=aa p->(∀ z,(zeroValue t).run P s.w=.ok z s.w->(Instr.typeAssert vx y t ab).run P s.w=.ok (.tuple #[z,.bool ae]) s.w/\(Instr.typeAssert vx y t ab).events P s.w #[]=#[])->e=p->b=ae->∃ v,(ay ρ o).run P s.w=.ok (.value v) s.w/\dc σ s v (.eK [e,.one (.c (.bool b))])/\(ay ρ o).events P s.w #[]=#[]:=by
  intro p l I B hb;subst B hb;obtain⟨z,h3,L⟩:=Kp (σ:=σ) (G t i hi) (s:=s) l
  grind
 have d:∀ m,i.desc≠.interface m:=by intro m e;rw[e] at F;cases F
 cases h1 with
 |@ifs t' v c h2 hc =>
  simp only[pV] at k;cases hb:aG t' t with
  |true =>
   rw[hb] at k;cases k;have E:=bX hb;subst E;refine key v ab ?_ h2 ?_ <;>
   .unfold Instr.typeAssert;simp only[bY,q,b9,aO,aU,events_underlying];cases a:i.desc <;> first|(exact absurd a (d _))|simp
  |false =>
   rw[hb] at k;have n:t'≠t:=λe=>by grind [Nat.beq_refl]
   simp only at k;split at k
   .rename_i p l
    cases k;refine fail _ l (λz h3=>⟨?_,?_⟩) rfl rfl <;>
    .unfold Instr.typeAssert;simp only[bY,q,b9,aO,aU,events_underlying];cases a:i.desc <;> first|(exact absurd a (d _))|simp[n,h3]
   grind
 |@Jw t' vs cs hl f N J =>
  simp only[pV] at k;cases hb:aG t' t with
  |true =>
   rw[hb] at k;cases k;have E:=bX hb;subst E;refine key (.agg vs.toArray) ab ?_ ⟨vs,rfl,?_⟩ ?_
   rotate_left 2
   .unfold Instr.typeAssert;simp only[q,aO,aU,events_underlying];cases a:i.desc <;> first|(exact absurd a (d _))|simp
   .unfold Instr.typeAssert;simp only[bY,q,b9];cases a:i.desc <;> first|(exact absurd a (d _))|simp
   .have go:∀ (vs:List ak) (cs:List C),vs.length=cs.length->(∀ (j:Nat) (c:C),cs[j]?=aa c->∃ v,vs[j]?=aa v/\Rd s.M v c)->dW σ s vs (cs.map A.c):=by
     intro vs
     induction vs with
     |nil=>intro cs hl _;cases cs with|nil=>trivial|cons _ _=>grind
     |cons v vs ih =>
      intro cs hl hg;cases cs with
      |nil=>grind
      |cons c cs =>
       obtain⟨u,H,p2⟩:=hg 0 c rfl;simp at H;subst H;exact⟨p2,ih cs (by grind) (λj c hj=>by simpa using hg (j+1) c (by grind))⟩
    grind
  |false =>
   rw[hb] at k;have n:t'≠t:=λe=>by grind [Nat.beq_refl]
   simp only at k;split at k
   .rename_i p l
    cases k;refine fail _ l (λz h3=>⟨?_,?_⟩) rfl rfl <;>
    .unfold Instr.typeAssert;simp only[bY,q,b9,aO,aU,events_underlying];cases a:i.desc <;> first|(exact absurd a (d _))|simp[n,h3]
   grind
 |nV =>
  simp only[pV] at k;split at k
  .rename_i p l
   cases k;refine fail _ l (λz h3=>⟨?_,?_⟩) rfl rfl <;>
   .unfold Instr.typeAssert;simp only[bY,q,b9,aO,aU,events_underlying];cases a:i.desc <;> first|(exact absurd a (d _))|simp[h3]
  grind
 |_=>simp[pV] at k
end
def Br(op:BinOp)(k:IntKind) (a:Int)(k':IntKind) (b:Int):Option (Int×List Prop) :=
 match k with
 |.u64=>match op with
  |.shl=>aa (((a.toNat*2 ^ b.toNat % 18446744073709551616:Nat):Int),[0<=b,b<=64])
  |.shr=>aa (((a.toNat / 2 ^ b.toNat:Nat):Int),[0<=b,b<=64])
  |.and=>match k' with|.u64=>aa (((a.toNat &&& b.toNat:Nat):Int),[])|_=>af
  |.xor=>match k' with|.u64=>aa (((a.toNat ^^^ b.toNat:Nat):Int),[])|_=>af
  |_=>af
 |_=>af
section
variable {P:aq}{T:List (Nat×TI)}{o:aw}{d:an->D}{σ:List aV}
def bits_nat{a:Int}(h:bx .u64 a):(BitVec.ofInt IntKind.u64.bits a).toNat=a.toNat:=by
 rw[BitVec.toNat_ofInt];simp only[bx] at h;simp only[IntKind.bits];omega
def GS{op:BinOp}{k k':IntKind}{a b c:Int}{obs:List Prop}(t:ar)(f:Br op k a k' b=aa (c,obs))(m:ag obs)(h:bx k a)(i:bx k' b)(w:az) :
  bx k c/\(Go.binOp op t (.int k a) (.int k' b)).run P w=.ok (.int k c) w/\(Go.binOp op t (.int k a) (.int k' b)).events P w #[]=#[]:=by
 unfold Br at f;split at f
 .split at f
  .cases f;obtain⟨q,l⟩:0<=b/\b<=64:=m;have s:a.toNat*2 ^ b.toNat % 18446744073709551616<18446744073709551616:=jG _ (by decide)
   simp only[bx] at h;refine⟨by simp only[bx];omega,?_⟩
   have j:IntKind.wrap .u64 (a*2 ^ (min b.toNat IntKind.u64.bits))=((a.toNat*2 ^ b.toNat % 18446744073709551616:Nat):Int):=by
    have n:min b.toNat IntKind.u64.bits=b.toNat:=by rw[show IntKind.u64.bits=64 from rfl];omega
    have r:a=(a.toNat:Int):=by omega
    rw[n,r];simp only[IntKind.wrap,IntKind.bits,IntKind.signed,bA]
    grind
   simp only[Go.binOp,Op.shift,aY (show ¬b<0 by omega),j]
   exact⟨rfl,rfl⟩
  .cases f;obtain⟨q,l⟩:0<=b/\b<=64:=m;simp only[bx] at h;have p:a.toNat / 2 ^ b.toNat<=a.toNat:=Nat.div_le_self _ _;refine⟨by simp only[bx];grind,?_⟩
   have j:a.fdiv (2 ^ (min b.toNat IntKind.u64.bits))=((a.toNat / 2 ^ b.toNat:Nat):Int):=by
    have n:min b.toNat IntKind.u64.bits=b.toNat:=by rw[show IntKind.u64.bits=64 from rfl];omega
    grind
   simp only[Go.binOp,Op.shift,aY (show ¬b<0 by omega),j]
   exact⟨rfl,rfl⟩
  .split at f
   .cases f;have l:a.toNat &&& b.toNat<=a.toNat:=Nat.and_le_left;have g:bx .u64 ((a.toNat &&& b.toNat:Nat):Int):=by simp only[bx] at h ⊢;omega
    refine⟨g,?_⟩;have e:(BitVec.ofInt IntKind.u64.bits a &&& BitVec.ofInt IntKind.u64.bits b).toNat=a.toNat &&& b.toNat:=by rw[BitVec.toNat_and,bits_nat h,bits_nat i]
    simp only[Go.binOp,cW,fu,cd,Op.intBits,e,mq g];exact⟨rfl,rfl⟩
   .cases f
  .split at f
   .cases f;have g:bx .u64 ((a.toNat ^^^ b.toNat:Nat):Int):=by
     simp only[bx] at h i ⊢;have:a.toNat ^^^ b.toNat<2 ^ 64:=Nat.xor_lt_two_pow (by omega) (by omega)
     omega
    refine⟨g,?_⟩;have e:(BitVec.ofInt IntKind.u64.bits a ^^^ BitVec.ofInt IntKind.u64.bits b).toNat=a.toNat ^^^ b.toNat:=by rw[BitVec.toNat_xor,bits_nat h,bits_nat i]
    simp only[Go.binOp,cW,fu,cd,Op.intBits,e,mq g];exact⟨rfl,rfl⟩
   .cases f
  .cases f
 .cases f
theorem bH.bits{op:BinOp}{t ty:ar}{x y:an}{k k':IntKind}{a b c:Int}{obs:List Prop}(h:o.op=.binOp op t x y ty)(p:d x=.e (.one (.c (.int k a))))(j:d y=.e (.one (.c (.int k' b))))(q:Br op k a k' b=aa (c,obs))(m:ag obs) :
  bH P o d σ (.e (.one (.c (.int k c)))) σ:=by
 refine .quiet λs ρ hh hr=>?_
 have h1:=hr x;have h2:=hr y;rw[p] at h1;rw[j] at h2
 replace h1:=fy h1
 replace h2:=fy h2
 generalize f:ρ x=vx at h1;generalize g:ρ y=vy at h2;cases h1 with|int ha =>
 cases h2 with|int hb =>
 obtain⟨l,i,n⟩:=GS (P:=P) t q m ha hb s.w;exact⟨.int k c,by simp only[ay,h,bY,f,g,gA,b9,i,cY],.int l,by simp[ay,h,f,g,gA,jK,i,n]⟩
end
section
open Go.Conc (G)
def ni(i:Nat)(ci:List C)(es:Nat->List C):Nat->List C:=λj=>if j=i then ci else es j
def oY(lo hi:Nat)(z:List C)(es:Nat->List C):Nat->List C:=λj=>if lo<=j/\j<hi then z else es j
section
variable {P:aq}{T:List (Nat×TI)}{o:aw}{B:an->D}{σ:List aV}{s:St}{l g:Nat}{E:ar}{k n:Nat}{es:Nat->List C}
def Kv(r:aJ σ s)(h:σ[l]?=aa (.buf E k n es)){k' i f:Nat}{v:ak}(u:gx σ s v (.bp l (.el g k' i f)))(y:g=n) :
  ∃ b c vs zs,s.β[l]?=aa ⟨.slice (aa ⟨b,0,af⟩) 0 c,[b]⟩/\v=.pointer (aa ⟨b,i*k'+f,af⟩)/\s.w.heap[b]?=aa (.cells (vs++zs).toArray E (0,0))/\(vs++zs).length=c*k/\n<=c/\c<=9223372036854775807/\Flat s.M k n es vs/\∀ o,s.M b o=af:=by
 obtain⟨G,⟨b,c,d,z⟩,_,p⟩:=u;obtain⟨L,e,a⟩:=(p _ _ _ _ h).2 y;rw[d] at a;rcases r.box l _ L h e with⟨_,rfl⟩|⟨F,c1,vs,zs,rfl,j,q,t,x,A,m⟩
 .cases a
 .cases a;exact⟨b,c,vs,zs,e,z,j,q,t,x,A,m⟩
def Kw{g:Nat->ak}:∀ {ds:List C}{m:Nat},(∀ j c,ds[j]?=aa c->Rd s.M (g (m+j)) c)->dW σ s ((bh ds.length).map λj=>g (m+j)) (ds.map A.c)
 |[],m,_=>trivial
 |d::ds,m,h=>by
  rw[fa,zn];refine⟨h 0 d rfl,?_⟩;have:=Kw (ds:=ds) (m:=m+1) (λj c a=>by have:=h (j+1) c (by grind);rwa [show m+1+j=m+(j+1) by omega])
  grind [Function.comp_def]
theorem bH.Xi(H:dg P T){t:ar}{x y:an}(h:o.op=.indexAddr t x y){i f:TI}{E:ar}(hi:bF T t=aa i)(J:i.desc=.slice E)(K:bF T E=aa f)
  {q m:Nat} {j:Int} {kk:IntKind} (R:B x=.e (.one (.bp l (.sl g f.size q m)))) (N:B y=.e (.one (.c (.int kk j)))) (U:0<=j) (h1:j<m):bH P o B σ (.e (.one (.bp l (.el g f.size (q+j.toNat) 0)))) σ:=by
 refine .quiet λs ρ hh hr=>?_
 have p:=hr x;rw[R] at p;have h2:=hr y;rw[N] at h2
 replace h2:=fy h2
 generalize F:ρ y=vy at h2;cases h2;have d:=p
 change gx σ s (ρ x) (.bp l _) at d
 obtain⟨lv,⟨a,a0,cap,O,Q,L,M,S,v,z⟩,G,A⟩:=d;obtain⟨b,rfl,rfl⟩:=z (by omega)
 have I:=(H t i hi).run_underlying (w:=s.w);rw[J] at I;obtain⟨r,rfl⟩:∃ r:Nat,j=r:=⟨j.toNat,by omega⟩
 have u:r<m:=by omega
 refine⟨.pointer (aa ⟨b,(q+r)*f.size,af⟩),?_,⟨lv,⟨b,O,v,by simp⟩,G,A⟩,?_⟩ <;>
 simp[ay,h,Q,F,Instr.indexAt,asIntOf,I,(H E f K).run_sizeOf,dj,u,gR]
def bH.Q7(u:dg P T){t:ar}{x:an}{f:Nat}(h:o.op=.fieldAddr t x f){p i q off:Nat}{j:TI}(y:B x=.e (.one (.bp l (.el g p i q))))(r:jM T t f=aa (off,j)):bH P o B σ (.e (.one (.bp l (.el g p i (q+off))))) σ:=by
 refine .quiet λs ρ hh hr=>?_
 have h1:=hr x;rw[y] at h1;have a:=h1
 change gx σ s (ρ x) (.bp l _) at a
 obtain⟨lv,⟨b,w,c,v⟩,m,d⟩:=a;exact⟨.pointer (aa ⟨b,i*p+q+off,af⟩),by simp[ay,h,v,mF u r],⟨lv,⟨b,w,c,by grind⟩,m,d⟩,by simp[ay,h,v,n8 u r]⟩
theorem bH.Xj{x:an}(h:o.op=.nilCheck x){f i q:Nat}(p:B x=.e (.one (.bp l (.el g f i q)))):bH P o B σ (.e (.one (.bp l (.el g f i q)))) σ:=by
 refine .quiet λs ρ hh hr=>?_
 have h1:=hr x;rw[p] at h1;have c:=h1;have a:=h1
 change gx σ s (ρ x) (.bp l _) at a
 obtain⟨lv,⟨b,t,j,d⟩,r,m⟩:=a;exact⟨ρ x,by simp[ay,h,d],c,by simp[ay,h,d]⟩
theorem bH.Xk(u:dg P T){x:an}{b:Array ar}{t:ar}(h:o.op=.call { callee:=.builtin .len,args:=#[x],argTypes:=b })(J:b[0]?=aa t){i:TI}{E:ar}(hi:bF T t=aa i)(j:i.desc=.slice E)
  {H q m:Nat} (z:B x=.e (.one (.bp l (.sl g H q m)))):bH P o B σ (.e (.one (.c (.int .i64 m)))) σ:=by
 refine .quiet λs ρ hh hr=>?_
 have h1:=hr x;rw[z] at h1;have d:=h1
 change gx σ s (ρ x) (.bp l _) at d
 obtain⟨lv,⟨a,a0,cap,K,r,F,G,I,v,p⟩,A,y⟩:=d;have f:=(u t i hi).run_underlying (w:=s.w);rw[j] at f;refine⟨.int .i64 m,?_,Rd.int (by simp only[bx];omega),?_⟩ <;>
 simp[ay,h,resolve,invoke,builtin,Builtin.len_,r,f,goInt,J]
theorem bH.sliceB(G:dg P T){t:ar}{x:an}{lo hi:Option an}(h:o.op=.slice t x lo hi af){i f:TI}{E:ar}(v:bF T t=aa i)(L:i.desc=.slice E)(M:bF T E=aa f){q m:Nat}{d u:Option Int}
  (S:B x=.e (.one (.bp l (.sl g f.size q m)))) (hl:uE B lo=aa d) (K:uE B hi=aa u) (H:ag (iQ m d u)):bH P o B σ (.e (.one (.bp l (.sl g f.size (q+cv 0 d) (cv m u-cv 0 d))))) σ:=by
 refine .quiet λst ρ hh hr=>?_
 have h1:=hr x;rw[S] at h1;have j:=h1
 change gx σ st (ρ x) (.bp l _) at j
 obtain⟨lv,⟨a,a0,cap,R,J,p,Q,F,r,y⟩,A,z⟩:=j;obtain⟨hb,O,N⟩:=nT (P:=P) (isS:=ab) p (je hr hl) (je hr K) H st.w;have c:=(G t i v).run_underlying (w:=st.w);rw[L] at c;refine⟨.slice (if cap=cv 0 d then a else a.map (·.add (cv 0 d*f.size))) (cv m u-cv 0 d) (cap-cv 0 d),?_,⟨lv,⟨_,a0,_,R,rfl,by omega,by omega,F,r,λI=>?_⟩,A,z⟩,by simp[ay,h,J,Instr.sliceAt,c,Instr.slice,hb,pR (P:=P) (isS:=ab) p (je hr hl) (je hr K) H st.w]⟩
 .simp[ay,h,J,Instr.sliceAt,c,Instr.slice,hb,(G E f M).run_sizeOf]
 .obtain⟨b,rfl,rfl⟩:=y (by omega)
  refine⟨b,rfl,?_⟩;rw[aY (by omega)]
  simp[dj,gR]
def bH.BK(J:dg P T){t:ar}{x:an}(h:o.op=.load t x){i f:Nat}{z:TI}{e:E1}(Q:B x=.e (.one (.bp l (.el g k i f))))(F:g=n)(hl:σ[l]?=aa (.buf E k n es))(hi:bF T t=aa z)(L:m8 z ((hJ f (es i)).map A.c)=aa e)(p:i<n):bH P o B σ (.e e) σ:=by
 refine .nS λs ρ hh hr=>?_
 have h1:=hr x;rw[Q] at h1;obtain⟨b,Y,vs,Z,S,N,d,R,O,U,K,W⟩:=Kv hh hl h1 F;have X:=K.width i p
 let g:Nat->ak:=λj=>vs.getD (i*k+j) aj
 have F:∀ j c,(hJ f (es i))[j]?=aa c->vs[i*k+(f+j)]?=aa (g (f+j))/\Rd s.M (g (f+j)) c:=by
  intro j c hj;rw[nk,nH] at hj;obtain⟨v,v1,V⟩:=K.rd i p (f+j) c hj
  grind
 have G:=Kw (σ:=σ) (s:=s) (g:=g) (ds:=hJ f (es i)) (m:=f) (λj c hj=>(F j c hj).2)
 have a:∀ (j:Nat) (v:ak),((bh (hJ f (es i)).length).map λj=>g (f+j))[j]?=aa v->s.w.cell? ⟨b,i*k+f+j,af⟩=aa v:=by
  intro j v hj;simp only[nE] at hj
  by_cases y:j<(hJ f (es i)).length
  .simp[y] at hj;subst hj;have h2:=(F j _ (br y)).1;simp only[a9,d]
   grind
  grind
 obtain⟨v,u,H⟩:=pe (s:=s) (σ:=σ) (P:=P) (J t z hi) (b:=b) (off:=i*k+f) (e:=e) a G L;refine⟨v,by simp[ay,h,N,Instr.loadAt,Instr.sureAddr,u],H,λI q=>?_⟩
 have r:I∈(loadVar t ⟨b,i*k+f,af⟩).events P s.w #[]:=by
  have e:ay ρ o=(do pure (.value (<-loadVar t ⟨b,i*k+f,af⟩))):=by simp[ay,h,N,Instr.loadAt,Instr.sureAddr]
  rw[e] at q;simpa[u] using q
 obtain⟨j,hj,rfl⟩:=kl (J t z hi) (n:=(hJ f (es i)).length) (λj hj=>⟨_,a j (g (f+j)) (by grind)⟩) (by have:=rM L;grind) I r
 exact rE (bU S) (by simp)
def Flat.put{M:Mem}{vs oC:List ak}{i f:Nat}{cc ci:List C}(h:Flat M k n es vs)(hi:i<n)(y:eX f cc (es i)=aa ci)(hl:oC.length=cc.length)(t:∀ (j:Nat)(c:C),cc[j]?=aa c->∃ v,oC[j]?=aa v/\Rd M v c) :
  i*k+f+oC.length<=vs.length/\Flat M k n (ni i ci es) (vs.take (i*k+f)++oC++vs.drop (i*k+f+oC.length)):=by
 obtain⟨h1,h2⟩:=pZ y;have A:=h.width i hi;have hb:i*k+k<=n*k:=by
  have:=et k (show i+1<=n by omega)
  grind
 have u:=h.len;have m:i*k+f+oC.length<=vs.length:=by omega
 have d:∀ p,(vs.take (i*k+f)++oC++vs.drop (i*k+f+oC.length))[p]?=if p<i*k+f then vs[p]? else if p<i*k+f+oC.length then oC[p-(i*k+f)]? else vs[p]?:=by
  intro p;have z:(vs.take (i*k+f)).length=i*k+f:=by grind
  by_cases c1:p<i*k+f
  .grind
  .rw[aY c1]
   by_cases c2:p<i*k+f+oC.length
   .grind
   .rw[aY c2,gk (by grind),nH]
    grind
 refine⟨m,⟨by grind,λb a=>?_,λb a j c hj=>?_⟩⟩
 .simp only[ni];split
  .grind
  .exact h.width b a
 .simp only[ni] at hj;rw[d];split at hj
  .rename_i e
   subst e;rw[h2] at hj
   by_cases c1:j<f
   .rw[j8,jD (by grind),gQ,bd c1] at hj
    rw[bd (by omega)]
    exact h.rd b hi j c hj
   .by_cases c2:j<f+cc.length
    .rw[j8,gk (by grind),jD (by grind)] at hj
     obtain⟨v,v1,r⟩:=t _ c hj;refine⟨v,?_,r⟩;rw[aY (by omega),bd (by omega),<-v1]
     congr 1
     grind
    .rw[gk (by grind),nH] at hj
     rw[aY (by omega),aY (by omega)]
     refine h.rd b hi j c ?_
     grind
  .rename_i e
   have x:j<k:=by have:=(cr.1 hj).1;have:=h.width b a;omega
   rcases cJ b i with q|w
   .have:(b+1)*k<=i*k:=et k q;rw[gR,Nat.one_mul] at this;rw[bd (by omega)]
    exact h.rd b a j c hj
   .have:(i+1)*k<=b*k:=et k (by omega)
    rw[gR,Nat.one_mul] at this;rw[aY (by omega),aY (by omega)]
    exact h.rd b a j c hj
def aJ.ef(hh:aJ σ s)(hl:σ[l]?=aa (.buf E k n es)){b:Nat}{vs zs vF:List ak}{e:Nat}(z:s.β[l]?=aa ⟨.slice (aa ⟨b,0,af⟩) 0 e,[b]⟩)(x:(vs++zs).length=e*k)(j:n<=e)(m:e<=9223372036854775807){es':Nat->List C}(d:s.w.heap[b]?=aa (.cells (vs++zs).toArray E (0,0)))(r:Flat s.M k n es' vF)(y:vF.length=vs.length)(u:∀ o,s.M b o=af) :
  aJ (σ.set l (.buf E k n es')) { s with w:=s.w.setRow b (vF++zs).toArray }/\Step σ s (σ.set l (.buf E k n es')) { s with w:=s.w.setRow b (vF++zs).toArray }:=by
 have i:(s.w.setRow b (vF++zs).toArray).heap[b]?=aa (.cells (vF++zs).toArray E (0,0)):=setRow_heap s.w b _ _ E _ d;have f:∀ a,a≠b->(s.w.setRow b (vF++zs).toArray).heap[a]?=s.w.heap[a]?:=λa c=>setRow_other s.w b a _ c
 have p:s.β.set l ⟨.slice (aa ⟨b,0,af⟩) 0 e,[b]⟩=s.β:=by
  apply iM
  grind
 obtain⟨G,F⟩:=hh.iP (M':=s.M) (w':=s.w.setRow b (vF++zs).toArray) (B':=.buf E k n es') (L':=⟨.slice (aa ⟨b,0,af⟩) 0 e,[b]⟩) hl z ⟨λ_=>rfl,bg _⟩ (by simp[World.setRow])
  (λa c hn=>f a (by grind)) (λ_ _ _ _=>rfl) (λ_ _ _ h=>h) (λa q v A=>by
   have t:a≠b:=by grind
   have:=hh.mem a q v A;rw[<-this];simp only[a9]
   grind) (λa c=>⟨.inl c,by grind⟩) rfl rfl rfl
  (.inr ⟨b,e,vF,zs,rfl,i,by grind,j,m,r,u⟩)
 grind
def rX{α:Type}:∀ {new l:List α},new.length=l.length->eX 0 new l=aa new
 |[],[],_=>rfl
 |[],_::_,h=>by grind
 |_::_,[],h=>by grind
 |n::ns,c::cs,h=>by simp only[eX,rX (new:=ns) (l:=cs) (by grind)]
def bH.JN(R:dg P T){t:ar}{x y:an}(h:o.op=.store t x y){i f:Nat}{p:TI}{new:List A}{cc ci:List C}(hx:B x=.e (.one (.bp l (.el g k i f))))(hg:g=n)(hl:σ[l]?=aa (.buf E k n es))(hi:bF T t=aa p)(hy:mT (B y)=aa new)(hn:new.length=p.size)(M:gn new=aa cc)(L:(es i).length=k->eX f cc (es i)=aa ci)(m:i<n) :
  bH P o B σ .any (σ.set l (.buf E k n (ni i ci es))):=by
 intro s ρ hh hr;have h1:=hr x;rw[hx] at h1;obtain⟨b,c0,vs,G,V,W,a,N,J,O,S,U⟩:=Kv hh hl h1 hg;have d:=m6 hy (hr y);have H:=kn M d;have K:=dW.closed H;have u:(ρ y).cells.toList.length=cc.length:=by have:=H.length;grind
 replace L:=L (S.width i m)
 obtain⟨q1,q2⟩:=S.put m L u K;have I:(ρ y).cells.size=p.size:=by rw[<-hn,<-d.length,jg]
 obtain⟨Z,Y⟩:=hh.ef hl V N J O a q2 (by grind) U
 have z:=run_storeCells_at P b (i*k+f) E (ρ y).cells.toList 0 (vs++G).toArray s.w a (by grind) d.cell
 have q:((vs++G).toArray.toList.take (i*k+f+0)++(ρ y).cells.toList++(vs++G).toArray.toList.drop (i*k+f+0+(ρ y).cells.toList.length))=vs.take (i*k+f)++(ρ y).cells.toList++vs.drop (i*k+f+(ρ y).cells.toList.length)++G:=by
  grind
 rw[q] at z;refine⟨.skip,_,?_,rfl,Z,Y,?_⟩
 .simp[ay,h,W,Instr.storeAt,Instr.sureAddr,storeVar,(R t p hi).run_sizeOf,I,z]
 .intro Q c;have e:ay ρ o=(do storeVar t ⟨b,i*k+f,af⟩ (ρ y);pure .skip):=by simp[ay,h,W,Instr.storeAt,Instr.sureAddr]
  rw[e] at c;have F:Q∈(storeCells ⟨b,i*k+f,af⟩ (ρ y).cells.toList).events P s.w #[]:=by
   simp only[storeVar,aO,(R t p hi).run_sizeOf,I,aU,events_sizeOf,cW,fu,cd,bY,b9,Sem.events_pure] at c;generalize (storeCells ⟨b,i*k+f,af⟩ (ρ y).cells.toList).run P s.w=r at c;cases r with
   |ok v w'=>simpa using c
   |halt x w'=>simpa using c
  rcases eE (ρ y).cells.toList 0 (vs++G).toArray s.w #[] a (by grind) d.cell Q F with X|⟨j,_,_,rfl⟩
  .grind
  .exact mn (bU V) (by simp) (U _)
end
section
variable {σ:List aV}
def aJ.zv{s:St}(hh:aJ σ s){b:Nat}{vs:List ak}(h:∀ o,s.M b o=af)(i:∀ o v,vs[o]?=aa v->s.w.cell? ⟨b,o,af⟩=aa v) :
  aJ (σ.map λ_=>.dead) { s with M:=λa o=>if a=b then vs[o]? else s.M a o }/\∀ a o v,s.M a o=aa v->(if a=b then vs[o]? else s.M a o)=aa v:=by
 have c:=hh.lE;refine⟨⟨λa o v f=>?_,c.len,λl B L g j=>?_,c.gg,c.lt,c.own⟩,λa o v f=>?_⟩
 .by_cases e:a=b
  .grind
  .simp only[e,cd] at f;exact c.mem a o v f
 .have:=bU g;simp at this;rw[<-this.2];trivial
 grind
def eZ.vp{s:St}{M':Mem}{b:Nat}{es:Array Event}(h:eZ { s with M:=M' } es){L:Loc}(l:L∈s.β)(hb:b∈L.bs)(j:∀ c o v,s.M c o=aa v->M' c o=aa v)(i:∀ c o v,M' c o=aa v->c=b∨s.M c o=aa v):eZ s es:=by
 intro e g;have h1:=h e g;unfold oE at h1 ⊢;split at h1
 .obtain⟨a1,a2,a3⟩:=h1;refine⟨a1,a2,?_⟩;rcases a3 with a3|⟨a3,a4⟩|⟨a3,v,a4⟩
  .grind
  .refine .inr (.inl ⟨a3,λf=>?_⟩)
   have:=a4 f
   rename_i a _
   cases k:s.M a.block a.off with
   |none=>rfl
   |some v=>grind
  grind
 all_goals exact h1
end
def IY(k:Nat)(f:Nat->Nat->ak):Nat->List C:=λi=>(bh k).map λj=>.val (f i j)
theorem pO{k:Nat}{f:Nat->Nat->ak}{i j:Nat}{c:C}(h:(IY k f i)[j]?=aa c):j<k/\c=.val (f i j):=by
 have a:j<k:=by
  have:=(cr.1 h).1;simpa[IY] using this
 simp[IY,a] at h
 grind
def DG{k:Nat}{f:Nat->Nat->ak}{i j:Nat}(h:j<k):(IY k f i)[j]?=aa (.val (f i j)):=by simp[IY,h]
def Rd.exact{M:Mem}{v:ak}{t:Bool}{k n:Nat}{es:Nat->List C}(h:Rd M v (.sl t k n es)) :
  ∃ f:Nat->Nat->ak,Rd M v (.sl t k n (IY k f))/\(∀ i,i<n->(es i).length=k)/\∀ i,i<n->∀ j c,(es i)[j]?=aa c->Rd M (f i j) c:=by
 cases h with
 |sl b off f a hb ht hk ha hm hr =>
  have e:∀ i,i<n->∀ j,j<k->∃ c,(es i)[j]?=aa c:=λi hi j hj=>⟨_,br (by grind)⟩
  refine⟨f,.sl b off f a hb ht (λi _=>by simp[IY]) ha (λi hi j c hj=>?_) (λi hi j c hj=>?_),hk,hr⟩
  .grind [pO]
  .obtain⟨h1,rfl⟩:=pO hj;obtain⟨g,h2⟩:=e i hi j h1;exact .val (hr i hi j g h2).cell
def Ai{σ:List aV}{s:St}{l:Nat}{E:ar}{k n:Nat}{es:Nat->List C}{L:Loc}{a c:Option Addr}{cap:Nat}(e:σ[l]?=aa (.buf E k n es))(j:s.β[l]?=aa L)(f:L.v=.slice c 0 cap)(g:n<=cap)(i:cap<=9223372036854775807)
  (m:0<cap->∃ b,c=aa ⟨b,0,af⟩/\a=aa ⟨b,0,af⟩):gx σ s (.slice a n cap) (.bp l (.sl n k 0 n)) :=
 ⟨L.v,⟨a,c,cap,cap,rfl,g,by omega,i,f,λh=>by grind⟩,(cr.1 e).1,λp k' n' es' he=>by
  rw[e] at he;cases he;exact⟨bg _,λ_=>⟨L,j,rfl⟩⟩⟩
def ry{P:aq}{o:aw}{σ:List aV}{x y:an}{E:ar}{g:TI}(h:mj P o x y E g){l n q:Nat}{tx:Bool}{es es':Nat->List C}{s:St}{ρ:an->ak}(r:aJ σ s)
  (h1:gx σ s (ρ x) (.bp l (.sl n g.size 0 n))) (hl:σ[l]?=aa (.buf E g.size n es)) (h2:Rd s.M (ρ y) (.sl tx g.size q es')) (K:(n+q)*g.bytes<=140737488355328) :
  ∃ nx s',(ay ρ o).run P s.w=.ok nx s'.w/\Rr (σ.set l (.buf E g.size (n+q) (cR n es es'))) s' nx (.e (.one (.bp l (.sl (n+q) g.size 0 (n+q)))))/\aJ (σ.set l (.buf E g.size (n+q) (cR n es es'))) s'/\Step σ s (σ.set l (.buf E g.size (n+q) (cR n es es'))) s'/\eZ s ((ay ρ o).events P s.w #[]):=by
 obtain⟨t,t2,i,i2,ho,hi,hd,B,A⟩:=h.op;have H:l<σ.length:=(cr.1 hl).1;obtain⟨lv,⟨a,a0,cap,u,hv,O,Tb,Q,GQ,Wy⟩,_,VS⟩:=h1;obtain⟨L,hL,Wj⟩:=(VS _ _ _ _ hl).2 rfl;rw[GQ] at Wj;have PE:u=cap:=by omega
 subst PE;have V:0<u->∃ b,a0=aa ⟨b,0,af⟩/\a=aa ⟨b,0,af⟩:=λh=>by grind
 have S:l<s.β.length:=(cr.1 hL).1;have Z:=bU hL;have R:=r.box l _ L hl hL;rw[c6 ho,hv];have row:0<u->∃ b vs zs,a=aa ⟨b,0,af⟩/\L=⟨.slice (aa ⟨b,0,af⟩) 0 u,[b]⟩/\s.w.heap[b]?=aa (.cells (vs++zs).toArray E (0,0))/\(vs++zs).length=u*g.size/\Flat s.M g.size n es vs/\∀ o,s.M b o=af:=by
  intro I;obtain⟨b,e1,e2⟩:=V I;rcases R with⟨_,rfl⟩|⟨p,c1,vs,zs,rfl,h3,h4,h5,h6,h7,h8⟩
  .grind
  grind
 by_cases h0:q=0
 .subst h0;have k:=jc (P:=P) (ty:=o.type) hi hd B A h.elem r (a:=a) O h2;simp only[iO];have ha:aP n es (cR n es es'):=λi hi=>by simp[cR,hi]
  have VW:eP (σ.set l (.buf E g.size n (cR n es es'))) ⟨s.β.set l L,s.M,s.w,s.own⟩ (.buf E g.size n (cR n es es')) L:=by
   rcases R with h3|⟨p,c1,vs,zs,h2,h3,h4,h5,h6,h7,h8⟩
   .exact .inl h3
   .exact .inr ⟨p,c1,vs,zs,h2,h3,h4,h5,h6,h7.DF ha,h8⟩
  have I5:=r.iP (M':=s.M) (w':=s.w) (B':=.buf E g.size n (cR n es es')) (L':=L) hl hL ⟨λ_=>rfl,bg _⟩ (bg _) (λ_ _ _=>rfl) (λ_ _ _ _=>rfl) (λ_ _ _ h=>h) r.mem
   (λb K=>⟨.inl K,r.lt L Z b K⟩) rfl rfl rfl VW
  refine⟨.value (.slice a n u),_,?_,?_,I5.1,I5.2,ey (jI hi hd B A h.elem r O h2)⟩
  .simp[k]
  .exact Ai (E:=E) (by rw[fI H]) (by grind) Wj O Q V
 .by_cases m:n+q<=u
  .obtain⟨b,vs,zs,rfl,rfl,hw,J,hF,hM⟩:=row (by omega)
   obtain⟨f,M5,k⟩:=kh (P:=P) (ty:=o.type) hi hd B A h.elem r hw J h2 m;have PF:vs.length=n*g.size:=hF.len;have TC:f.length=q*g.size:=M5.len;have WK:n*g.size+q*g.size<=u*g.size:=by rw[<-gR];exact et _ m
   have X:((vs++zs).take (n*g.size)++f++(vs++zs).drop (n*g.size+f.length))=(vs++f)++zs.drop f.length:=by
    rw[<-PF];simp[List.drop_append]
   rw[X] at k;have Jj:=setRow_heap s.w b _ ((vs++f)++zs.drop f.length).toArray E _ hw;have DQ:∀ p,p≠b->(s.w.setRow b ((vs++f)++zs.drop f.length).toArray).heap[p]?=s.w.heap[p]?:=λp N=>setRow_other s.w b p _ N
   obtain⟨t1,Y⟩:=r.iP (M':=s.M) (w':=s.w.setRow b ((vs++f)++zs.drop f.length).toArray) (B':=.buf E g.size (n+q) (cR n es es')) (L':=⟨.slice (aa ⟨b,0,af⟩) 0 u,[b]⟩) hl hL ⟨λ_=>rfl,by omega⟩ (by simp[World.setRow])
    (λp N hn=>DQ p (by grind)) (λ_ _ _ _=>rfl) (λ_ _ _ h=>h) (λp o' v hmv=>by
     have Bq:p≠b:=by grind
     have:=r.mem p o' v hmv;rw[<-this];simp only[a9]
     grind) (λp N=>⟨.inl N,by grind⟩) rfl rfl rfl
    (.inr ⟨b,u,vs++f,zs.drop f.length,rfl,Jj,by grind,m,Q,hF.append M5,hM⟩)
   refine⟨.value (.slice (aa ⟨b,0,af⟩) (n+q) u),_,?_,?_,t1,Y,ey (lQ hi hd B A h.elem r hw J h2 m Z (by simp) (λo _=>hM o))⟩
   .simp[k]
   .exact Ai (E:=E) (by rw[fI H]) (by simp only;rw[fI S]) rfl m Q λ_=>⟨b,rfl,rfl⟩
  .have hg:u<n+q:=by omega
   obtain⟨f2,h2x,XE,sO⟩:=h2.exact;have gd:∃ (M':Mem) (f0:Nat->Nat->ak),aJ (σ.map λ_=>.dead) { s with M:=M' }/\(∀ p o v,s.M p o=aa v->M' p o=aa v)/\Rd M' (.slice a n u) (.sl ae g.size n (IY g.size f0))/\(∀ {es},eZ { s with M:=M' } es->eZ s es) /\
     (∀ i,i<n->(es i).length=g.size)/\∀ i,i<n->∀ j c,(es i)[j]?=aa c->Rd s.M (f0 i j) c:=by
    by_cases I:0<u
    .obtain⟨b,vs,zs,rfl,rfl,hw,J,hF,hM⟩:=row I;obtain⟨c1,c2⟩:=r.zv (b:=b) (vs:=vs) hM (λo v ho=>by
      simp only[a9,hw]
      grind)
     have U:∀ i,i<n->∀ j c,(es i)[j]?=aa c->vs[i*g.size+j]?=aa (vs.getD (i*g.size+j) aj)/\Rd s.M (vs.getD (i*g.size+j) aj) c:=by
      intro i hi j c F;obtain⟨v,v1,v2⟩:=hF.rd i hi j c F
      grind
     have Tf:∀ i,i<n->∀ j,j<g.size->∃ c,(es i)[j]?=aa c:=λi hi j F=>⟨_,br (by rw[hF.width i hi];exact F)⟩
     refine⟨_,λi j=>vs.getD (i*g.size+j) aj,c1,c2,.sl b 0 (λi j=>vs.getD (i*g.size+j) aj) O Q (by simp) (λi _=>by simp[IY]) (λ_=>rfl) (λi hi j c F=>?_) (λi hi j c F=>?_),λhe=>?_,hF.width,λi hi j c F=>(U i hi j c F).2⟩
     .obtain⟨e1,_⟩:=pO F
      grind
     .obtain⟨e1,rfl⟩:=pO F;obtain⟨c',e2⟩:=Tf i hi j e1;exact .val (U i hi j c' e2).2.cell
     .exact he.vp (b:=b) Z (by simp) c2 λp o v hv=>by
       grind
    .have e1:u=0:=by omega
     have e2:n=0:=by omega
     subst e1 e2;have z:=r.lE;exact⟨s.M,λ_ _=>aj,⟨z.mem,z.len,z.box,z.gg,z.lt,z.own⟩,λ_ _ _ h=>h,Rd.jJ,λh=>h,λi hi=>by omega,λi hi=>by omega⟩
   obtain⟨M',f0,c1,c2,hR,VZ,hw0,hr0⟩:=gd;have WW:Rd ({ s with M:=M' }:St).M (ρ y) (.sl tx g.size q (IY g.size f2)):=h2x.mono c2;obtain⟨vF,zs,G,W,VX,VY,hlen,k⟩:=im (P:=P) (s:={ s with M:=M' }) (ty:=o.type) hi hd B A h.elem c1 hR WW hg K h.bytes;have Nm:=iV (P:=P) (s:={ s with M:=M' }) (ty:=o.type) hi hd B A h.elem c1 hR WW hg K h.bytes;have hFs:Flat s.M g.size (n+q) (cR n es es') vF:=by
    refine⟨W.len,λi hi=>?_,λi hi j c F=>?_⟩
    .by_cases e:i<n
     .simp only[cR,e,cu];grind
     .simp only[cR,e,cd];grind
    .by_cases e:i<n
     .simp only[cR,e,cu] at F;have TB:j<g.size:=by grind
      obtain⟨v,v1,v2⟩:=W.rd i hi j (.val (f0 i j)) (by simp only[cR,e,cu];exact DG TB)
      grind [Rd.fZ]
     .simp only[cR,e,cd] at F;have TB:j<g.size:=by grind
      obtain⟨v,v1,v2⟩:=W.rd i hi j (.val (f2 (i-n) j)) (by simp only[cR,e,cd];exact DG TB)
      grind [Rd.fZ]
   have nM:∀ o,s.M s.w.heap.size o=af:=λo=>by
    cases hm:s.M s.w.heap.size o with
    |none=>rfl
    |some v=>have:=r.block hm;omega
   obtain⟨t1,Y⟩:=r.iP (M':=s.M) (w':=s.w.drew.alloc (.cells (vF++zs).toArray E)) (B':=.buf E g.size (n+q) (cR n es es')) (L':=⟨.slice (aa ⟨s.w.heap.size,0,af⟩) 0 G,[s.w.heap.size]⟩) hl hL
    ⟨λe=>absurd e (by omega),by omega⟩ (by simp) (λb K _=>cK s.w.drew _ K) (λ_ _ _ _=>rfl) (λ_ _ _ h=>h) (λb o v hm=>by
     have sV:=r.block hm;rw[<-r.mem b o v hm];simp only[a9];rw[cK s.w.drew _ sV];rfl) (λb K=>by
     simp at K;subst K;exact⟨.inr (bg _),by simp⟩) rfl rfl rfl (.inr ⟨s.w.heap.size,G,vF,zs,rfl,dx s.w.drew _,hlen,VX,VY,hFs,nM⟩)
   refine⟨.value (.slice (aa ⟨s.w.heap.size,0,af⟩) (n+q) G),_,?_,?_,t1,Y,ey (VZ Nm)⟩
   .simp only at k;simp[k]
   .exact Ai (E:=E) (by rw[fI H]) (by simp only;rw[fI S]) rfl VX VY λ_=>⟨_,rfl,rfl⟩
def bH.NL{P:aq}{o:aw}{d:an->D}{σ:List aV}{x y:an}{E:ar}{a:TI}(h:mj P o x y E a){l n b:Nat}{tx:Bool}{es es':Nat->List C}
  (f:d x=.e (.one (.bp l (.sl n a.size 0 n)))) (hl:σ[l]?=aa (.buf E a.size n es)) (c:∀ s v,dc σ s v (d y)->Rd s.M v (.sl tx a.size b es')) (hb:(n+b)*a.bytes<=140737488355328) :
  bH P o d σ (.e (.one (.bp l (.sl (n+b) a.size 0 (n+b))))) (σ.set l (.buf E a.size (n+b) (cR n es es'))) :=
 λs ρ hh hr=>ry h hh (by have:=hr x;rw[f] at this;exact this) hl (c s _ (hr y)) hb
section
variable {P:aq}{T:List (Nat×TI)}{o:aw}{d:an->D}{σ:List aV}
def bH.Xl(k:dg P T){x:an}{b:Array ar}{t:ar}(h:o.op=.call { callee:=.builtin .len,args:=#[x],argTypes:=b })(m:b[0]?=aa t){i:TI}{E:ar}(hi:bF T t=aa i)(g:i.desc=.slice E)
  {a:Option Addr} {n cap:Nat} (l:d x=.e (.one (.c (.val (.slice a n cap))))) (hn:n<=9223372036854775807):bH P o d σ (.e (.one (.c (.int .i64 n)))) σ:=by
 refine .quiet λs ρ hh hr=>?_
 have h1:=hr x;rw[l] at h1;have j:=Rd.fZ (fy h1);have f:=(k t i hi).run_underlying (w:=s.w);rw[g] at f;refine⟨.int .i64 n,?_,Rd.int (by simp only[bx];omega),?_⟩ <;>
 simp[ay,h,resolve,invoke,builtin,Builtin.len_,j,f,goInt,m]
theorem bH.BJ(m:dg P T){t:ar}{x y:an}(h:o.op=.indexAddr t x y){i g:TI}{E:ar}(hi:bF T t=aa i)(q:i.desc=.slice E)(r:bF T E=aa g)
  {b off n cap:Nat} {j:Int} {kk:IntKind} (z:d x=.e (.one (.c (.val (.slice (aa ⟨b,off,af⟩) n cap))))) (u:d y=.e (.one (.c (.int kk j)))) (A:0<=j) (h1:j<n):bH P o d σ (.e (.one (.c (.val (.pointer (aa ⟨b,off+j.toNat*g.size,af⟩)))))) σ:=by
 refine .quiet λs ρ hh hr=>?_
 have a:=hr x;rw[z] at a;have v:=Rd.fZ (fy a);have h2:=hr y;rw[u] at h2
 replace h2:=fy h2
 generalize l:ρ y=vy at h2;cases h2;have p:=(m t i hi).run_underlying (w:=s.w);rw[q] at p;obtain⟨f,rfl⟩:∃ f:Nat,j=f:=⟨j.toNat,by omega⟩
 have k:f<n:=by omega
 refine⟨.pointer (aa ⟨b,off+f*g.size,af⟩),?_,Rd.val rfl,?_⟩ <;>
 simp[ay,h,v,l,Instr.indexAt,asIntOf,p,(m E g r).run_sizeOf,dj,k]
def bH.Q8(g:dg P T){t:ar}{x:an}{f:Nat}(h:o.op=.fieldAddr t x f){b off k:Nat}{j:TI}(l:d x=.e (.one (.c (.val (.pointer (aa ⟨b,off,af⟩))))))(i:jM T t f=aa (k,j)):bH P o d σ (.e (.one (.c (.val (.pointer (aa ⟨b,off+k,af⟩)))))) σ:=by
 refine .quiet λs ρ hh hr=>?_
 have h1:=hr x;rw[l] at h1;have a:=Rd.fZ (fy h1);exact⟨.pointer (aa ⟨b,off+k,af⟩),by simp[ay,h,a,mF g i],Rd.val rfl,by simp[ay,h,a,n8 g i]⟩
def bH.slice3(J:dg P T){t:ar}{x y z:an}(h:o.op=.slice t x af (aa y) (aa z)){i I:TI}{E:ar}(F:bF T t=aa i)(N:i.desc=.slice E)(O:bF T E=aa I){tt:Bool}{k n:Nat}{es:Nat->List C}{r u:IntKind}{j m:Int}
  (X:∀ s v,dc σ s v (d x)->Rd s.M v (.sl tt k n es)) (W:d y=.e (.one (.c (.int r j)))) (S:d z=.e (.one (.c (.int u m)))) (G:0<=j) (h1:j<=m) (h2:m<=n):bH P o d σ (.e (.one (.c (.sl ae k j.toNat es)))) σ:=by
 refine .quiet λst ρ hh hr=>?_
 have q:=X st _ (hr x);have g:=hr y;rw[W] at g
 replace g:=fy g
 generalize B:ρ y=vy at g;cases g;have l:=hr z;rw[S] at l
 replace l:=fy l
 generalize A:ρ z=vz at l;cases l;obtain⟨a,cap,vs,H,K,R,ht,Y,Z⟩:=q.flat;rw[H] at q;have p:=(J t i F).run_underlying (w:=st.w);rw[N] at p;have em:((m.toNat:Nat):Int)=m:=rf (by omega)
 have hb:(Instr.sliceBounds ab n cap af (aa (.int r j)) (aa (.int u m))).run P st.w=.ok (0,j.toNat,m.toNat) st.w:=by
  simp[Instr.sliceBounds,run_sliceBound (P:=P) st.w u m cap _ (by omega) (by omega),run_sliceBound (P:=P) st.w r j m.toNat _ G (by omega)]
 have U:(Instr.sliceBounds ab n cap af (aa (.int r j)) (aa (.int u m))).events P st.w #[]=#[]:=by
  simp[Instr.sliceBounds,run_sliceBound (P:=P) st.w u m cap _ (by omega) (by omega),run_sliceBound (P:=P) st.w r j m.toNat _ G (by omega),eF (P:=P) st.w u m cap _ (by omega) (by omega),eF (P:=P) st.w r j m.toNat _ G (by omega)]
 refine⟨.slice a j.toNat m.toNat,?_,?_,by simp[ay,h,H,B,A,Instr.sliceAt,p,Instr.slice,hb,U]⟩
 .simp[ay,h,H,B,A,Instr.sliceAt,p,Instr.slice,hb,(J E I O).run_sizeOf];intro _;rcases a with _|⟨b,off,sp⟩ <;> simp[Addr.add]
 .cases q with
  |sl b off f _ _ _ Q V hm' PK =>
   exact Rd.sl b off f (by omega) (by omega) (by simp) (λi hi=>Q i (by omega)) (λL=>V (by omega)) (λi hi j c hj=>hm' i (by omega) j c hj) (λi hi j c hj=>PK i (by omega) j c hj)
end
def Flat.Ty{M:Mem}{k n q m:Nat}{es Nl:Nat->List C}{vs oC:List ak}(h:Flat M k n es vs)(b:Flat M k m Nl oC)(f:q+m<=n) :
  Flat M k n (λi=>if q<=i/\i<q+m then Nl (i-q) else es i) (vs.take (q*k)++oC++vs.drop (q*k+oC.length)):=by
 have hl:=h.len;have l:=b.len;have hb:q*k+m*k<=n*k:=by rw[<-gR];exact et k f
 have s:(vs.take (q*k)).length=q*k:=by grind
 have a:∀ p,(vs.take (q*k)++oC++vs.drop (q*k+oC.length))[p]?=if p<q*k then vs[p]? else if p<q*k+m*k then oC[p-q*k]? else vs[p]?:=by
  intro p
  by_cases c1:p<q*k
  .grind
  .rw[aY c1]
   by_cases c2:p<q*k+m*k
   .grind
   .rw[aY c2,gk (by grind),nH]
    grind
 refine⟨by grind,λi hi=>?_,λi hi j c hj=>?_⟩
 .by_cases e:q<=i/\i<q+m
  .rw[bd e];exact b.width _ (by omega)
  .rw[aY e];exact h.width i hi
 .rw[a]
  by_cases e:q<=i/\i<q+m
  .rw[bd e] at hj;have g:j<k:=by have:=(cr.1 hj).1;rw[b.width _ (by omega)] at this;exact this
   have e1:q*k<=i*k:=et k e.1;have e2:i*k+k<=q*k+m*k:=by rw[<-gR,<-k9];exact et k e.2
   rw[aY (by omega),bd (by omega)]
   obtain⟨v,v1,r⟩:=b.rd (i-q) (by omega) j c hj
   grind [Nat.sub_mul]
  .rw[aY e] at hj;have g:j<k:=by have:=(cr.1 hj).1;rw[h.width i hi] at this;exact this
   have:i*k+j<q*k∨q*k+m*k<=i*k+j:=by
    by_cases c1:i<q
    .left
     have:i*k+k<=q*k:=by rw[<-k9];exact et k c1
     omega
    .right
     have:(q+m)*k<=i*k:=et k (by omega)
     grind
   rcases this with c1|c1
   .rw[bd c1];exact h.rd i hi j _ hj
   .rw[aY (by omega),aY (by omega)];exact h.rd i hi j _ hj
def uZ{s:St}{E k k':Nat}{es VR:Nat->List C}{v:ak}{σ':List aV}{β:List Loc}{l:Nat}(f:Rd s.M v (.sl ab k' 0 VR))(e:σ'[l]?=aa (.buf E k 0 es))(c:β[l]?=aa ⟨.slice af 0 0,[]⟩):gx σ' { s with β:=β } v (.bp l (.sl 0 k 0 0)):=by
 obtain⟨a,cap,vs,g,_,_,b,_,_⟩:=f.flat;have:=b rfl;subst this;refine⟨.slice af 0 0,⟨a,af,0,0,g,by omega,rfl,by omega,rfl,λh=>absurd h (by omega)⟩,(cr.1 e).1,λE2 k2 n2 Nl h=>?_⟩
 rw[e] at h;cases h;exact⟨bg _,λ_=>⟨_,c,rfl⟩⟩
def eZ.Tz{s:St}{β:List Loc}{v:ak}{es:Array Event}(h:eZ { s with β:=β++[⟨v,[]⟩] } es)(c:s.β=β):eZ s es:=by
 intro e a;have h1:=h e a;have key:∀ b,(∃ L∈β++[(⟨v,[]⟩:Loc)],b∈L.bs)->∃ L∈s.β,b∈L.bs:=λb ⟨L,f,hb⟩=>by
  grind
 unfold oE at h1 ⊢
 grind
def bH.GO{P:aq}{o:aw}{d:an->D}{σ:List aV}{x y:an}{E:ar}{a:TI}(h:mj P o x y E a){k m:Nat}{tx:Bool}{es es':Nat->List C}
  (r:d x=.e (.one (.c (.sl ab k 0 es)))) (p:∀ s v,dc σ s v (d y)->Rd s.M v (.sl tx a.size m es')) (hb:(0+m)*a.bytes<=140737488355328) :
  bH P o d σ (.e (.one (.bp σ.length (.sl (0+m) a.size 0 (0+m))))) (σ++[.buf E a.size (0+m) (cR 0 es es')]):=by
 intro s ρ hh hr;have h1:=hr x;rw[r] at h1;have h2:=p s _ (hr y);obtain⟨u,g2⟩:=hh.gT (B:=.buf E a.size 0 es) (L:=⟨.slice af 0 0,[]⟩) (.refl _ _) rfl hh (.inl ⟨rfl,rfl⟩) (by simp)
 have f:gx (σ++[.buf E a.size 0 es]) { s with β:=s.β++[⟨.slice af 0 0,[]⟩] } (ρ x) (.bp σ.length (.sl 0 a.size 0 0)):=uZ (E:=E) (es:=es) (fy h1) (by simp) (by simp[<-hh.len])
 obtain⟨t,s',q,g,i,j,n⟩:=ry (P:=P) (σ:=σ++[.buf E a.size 0 es]) (s:={ s with β:=s.β++[⟨.slice af 0 0,[]⟩] }) (l:=σ.length) (es:=es) h u f (by simp) h2 hb
 have b:(σ++[aV.buf E a.size 0 es]).set σ.length (.buf E a.size (0+m) (cR 0 es es'))=σ++[.buf E a.size (0+m) (cR 0 es es')]:=by simp
 rw[b] at g i j;exact⟨t,s',q,g,i,g2.trans j,n.Tz rfl⟩
def GP(i j m:Nat)(es:Nat->List C):Nat->List C:=λq=>if i<=q/\q<i+m then es (j+(q-i)) else es q
def bH.Jd{P:aq}{o:aw}{d:an->D}{σ:List aV}{x y:an}{E:ar}{f:TI}(h:mj P o x y E f){l n i j m:Nat}{es:Nat->List C}
  (hx:d x=.e (.one (.bp l (.sl n f.size 0 i)))) (hy:d y=.e (.one (.bp l (.sl n f.size j m)))) (hl:σ[l]?=aa (.buf E f.size n es)) (ZA:i+m<=n) (hjm:j+m<=n) :
  bH P o d σ (.e (.one (.bp l (.sl n f.size 0 (i+m))))) (σ.set l (.buf E f.size n (GP i j m es))):=by
 intro s ρ hh hr;obtain⟨t,t2,ti,ti2,ho,hi,hd,W,Q⟩:=h.op;have h1:=hr x;rw[hx] at h1
 change gx σ s (ρ x) (.bp l _) at h1
 have h2:=hr y;rw[hy] at h2
 change gx σ s (ρ y) (.bp l _) at h2
 obtain⟨lv,⟨a,a0,cap,I,hv,V,Tb,Wx,GQ,Wy⟩,_,VS⟩:=h1;obtain⟨L,hL,Z⟩:=(VS _ _ _ _ hl).2 rfl;rw[GQ] at Z;obtain⟨lv',⟨a',a0',k,c0',VT,Wz,aa3,aa4,WA,aa5⟩,_,WB⟩:=h2;obtain⟨L',gw,J⟩:=(WB _ _ _ _ hl).2 rfl;rw[hL] at gw;cases gw;rw[WA,Z] at J;cases J;have hLm:=bU hL;have hu:=hi.run_underlying (w:=s.w);have WC:=W.run_underlying (w:=s.w);rw[hd] at hu;rw[Q] at WC;rw[c6 ho,hv,VT]
 by_cases WE:n=0
 .have e1:i=0:=by omega
  have e2:m=0:=by omega
  subst WE e1 e2;have QE:σ.set l (.buf E f.size 0 (GP 0 j 0 es))=σ:=by
   have:GP 0 j 0 es=es:=by funext q;simp only[GP];grind
   rw[this]
   apply iM
   grind
  have hz:Rd s.M (.slice a' 0 k) (.sl ae f.size 0 λ_=>[]):=.sl 0 0 (λ_ _=>aj) (by omega) (by omega) (by simp) (λi hi=>by omega) (λh=>by omega) (λi hi=>by omega) (λi hi=>by omega)
  have K:=jc (P:=P) (ty:=o.type) hi hd W Q h.elem hh (a:=a) V hz;rw[QE];refine⟨.value (.slice a 0 cap),s,?_,?_,hh,.refl _ _,ey (jI hi hd W Q h.elem hh V hz)⟩
  .simp[K]
  .exact⟨lv,⟨a,a0,cap,I,rfl,V,Tb,Wx,GQ,Wy⟩,(cr.1 hl).1,VS⟩
 rcases hh.box l _ L hl hL with⟨e,_⟩|⟨b,c1,vs,X,rfl,r,hz1,hz2,hz3,U,hM⟩
 .grind
 cases Z;have S:0<cap:=by omega
 obtain⟨b1,e1,rfl⟩:=Wy S;cases e1;have PE:I=cap:=by omega
 subst PE;rw[show b=b from rfl]
 have PF:vs.length=n*f.size:=U.len;have u:i+m<=I:=by omega
 have hik:i*f.size+m*f.size<=n*f.size:=by rw[<-gR];exact et _ ZA
 have TB:j*f.size+m*f.size<=n*f.size:=by rw[<-gR];exact et _ hjm
 obtain⟨c1,c2⟩:=hh.zv (b:=b) (vs:=vs) hM (λq v N=>by
  simp only[a9,r]
  grind)
 let g:=(vs.drop (j*f.size)).take (m*f.size)
 have TC:g.length=m*f.size:=by grind
 have hng:∀ p,p<m*f.size->g[p]?=vs[j*f.size+p]?:=λp G=>by grind
 have M5:Flat s.M f.size m (λq=>es (j+q)) g:=by
  refine⟨TC,λq N=>U.width _ (by omega),λq N p c G=>?_⟩
  have hpk:p<f.size:=by have:=(cr.1 G).1;rw[U.width _ (by omega)] at this;exact this
  obtain⟨v,v1,v2⟩:=U.rd (j+q) (by omega) p c G
  refine⟨v,?_,v2⟩;have hq2:q*f.size+f.size<=m*f.size:=by rw[<-k9];exact et _ N
  grind
 have z:∀ v∈g,v.oneCell'=ab:=M5.cell;have VU:Rd (λA q=>if A=b then vs[q]? else s.M A q) (.slice a' m k) (.sl ae f.size m (IY f.size λq p=>vs.getD ((j+q)*f.size+p) aj)):=by
  refine .sl b (j*f.size) (λq p=>vs.getD ((j+q)*f.size+p) aj) Wz (by omega) (by simp) (λq _=>by simp[IY]) (λG=>?_) (λq N p c G=>?_) (λq N p c G=>?_)
  .grind
  .obtain⟨p1,_⟩:=pO G;have hq2:q*f.size+f.size<=m*f.size:=by rw[<-k9];exact et _ N
   grind
  .obtain⟨p1,rfl⟩:=pO G;obtain⟨c',WG⟩:∃ c',(es (j+q))[p]?=aa c':=⟨_,br (by rw[U.width _ (by omega)];exact p1)⟩
   obtain⟨v,v1,v2⟩:=U.rd (j+q) (by omega) p c' WG
   have e:vs.getD ((j+q)*f.size+p) aj=v:=by grind
   rw[e];exact .val v2.cell
 obtain⟨F,TD,hf,O⟩:=dO (P:=P) (s:={ s with M:=λA q=>if A=b then vs[q]? else s.M A q }) c1 VU
 have hnn:F=g:=by
  apply iM
  intro p;have Bl:F.length=m*f.size:=TD.len
  by_cases G:p<m*f.size
  .have hk:0<f.size:=by
    grind
   have N:p / f.size<m:=pE (by grind)
   have TE:p / f.size*f.size+p % f.size=p:=pG p f.size;obtain⟨v,v1,v2⟩:=TD.rd _ N (p % f.size) _ (DG (jG _ hk));rw[TE] at v1;rw[v1,hng p G,Rd.fZ v2];rw[gR,uW,TE,ai,br (by omega)]
   rfl
  grind
 subst hnn;have Nm:=gN (P:=P) (s:={ s with M:=λA q=>if A=b then vs[q]? else s.M A q }) c1 VU (w:=s.w) rfl
 replace hf:(Builtin.firstCells f.size m (.slice a' m k)).run P s.w=.ok g.toArray s.w:=hf
 have WH:i*f.size+g.length<=(vs++X).length:=by grind
 have H:=run_storeCells_at P b (i*f.size) E g 0 (vs++X).toArray s.w r (by grind) z
 simp only[iO] at H;have QF:((vs++X).toArray.toList.take (i*f.size)++g++(vs++X).toArray.toList.drop (i*f.size+g.length))=vs.take (i*f.size)++g++vs.drop (i*f.size+g.length)++X:=by
  grind
 rw[QF] at H;have q2:=U.Ty M5 ZA;have he:(λq=>if i<=q/\q<i+m then (λq=>es (j+q)) (q-i) else es q)=GP i j m es:=rfl
 rw[he] at q2;obtain⟨t1,t2'⟩:=hh.ef hl hL hz1 hz2 hz3 r q2 (by grind) hM
 have B:(Builtin.lenOf (.slice a' m k)).run P s.w=.ok m s.w:=by rw[O];rfl
 have R:(Builtin.lenOf (.slice a' m k)).events P s.w #[]=#[]:=by rw[O];rfl
 refine⟨.value (.slice (aa ⟨b,0*f.size,af⟩) (i+m) I),_,?_,?_,t1,t2',ey ?_⟩
 .have K:(Builtin.append_ #[t,t2] o.type #[.slice (aa ⟨b,0*f.size,af⟩) i I,.slice a' m k]).run P s.w=.ok (.slice (aa ⟨b,0*f.size,af⟩) (i+m) I) (s.w.setRow b (vs.take (i*f.size)++g++vs.drop (i*f.size+g.length)++X).toArray):=by
   unfold Builtin.append_;simp only[iJ,kX,mN,bY,hu,WC,b9,h.elem.run_sizeOf,cY,jE,cd,B,u,cu,ic,hf,dj,Nat.zero_mul,bt,H]
  grind [Go.Sem.run_bind,Go.Result.andThen_ok,Go.Sem.run_pure]
 .exact⟨.slice (aa ⟨b,0,af⟩) 0 I,⟨_,_,I,I,rfl,u,by omega,Wx,rfl,λ_=>⟨b,rfl,rfl⟩⟩,by grind,λE2 k2 n2 Nl VV=>by
   rw[fI (cr.1 hl).1] at VV;cases VV;exact⟨bg _,λ_=>⟨_,hL,rfl⟩⟩⟩
 .intro e Y;unfold Builtin.append_ at Y;simp only[iJ,kX,mN,aO,bY,hu,WC,aU,h.elem.run_sizeOf,cY,jE,cd,B,R,u,cu,ic,hf,dj,Nat.zero_mul,bt,H,
   pL,Sem.events_ite,events_underlying,events_sizeOf,Sem.events_pure] at Y
  rcases eE g 0 (vs++X).toArray s.w _ r (by grind) z e Y with h3|⟨p,_,_,rfl⟩
  .have h4:eZ { s with M:=λA q=>if A=b then vs[q]? else s.M A q } #[e]:=eZ.one (sU (Nm e h3))
   exact h4.vp (b:=b) hLm (by simp) c2 (λA q v hv=>by
    grind) e (by simp)
  grind [mn]
section
variable {P:aq}{T:List (Nat×TI)}{o:aw}{d:an->D}{σ:List aV}
theorem bH.slice3B(J:dg P T){t:ar}{x w y z:an}(h:o.op=.slice t x (aa w) (aa y) (aa z)){I G:TI}{E:ar}(H:bF T t=aa I)(L:I.desc=.slice E)(M:bF T E=aa G){l g k q n:Nat}{A u v:IntKind}{i j m:Int}
  (X:d x=.e (.one (.bp l (.sl g k q n)))) (U:d w=.e (.one (.c (.int A i)))) (W:d y=.e (.one (.c (.int u j)))) (Q:d z=.e (.one (.c (.int v m)))) (Z:0<=i) (h1:i<=j) (h2:j<=m) (h3:m<=n):bH P o d σ (.e (.one .any)) σ:=by
 refine .quiet λst ρ hh hr=>?_
 have s:=hr x;rw[X] at s
 change gx σ st (ρ x) (.bp l _) at s
 obtain⟨lv,⟨a,a0,cap,c0,K,S,V,Y,N,O⟩,_,_⟩:=s;have b:=hr w;rw[U] at b
 replace b:=fy b
 generalize B:ρ w=vw at b;cases b;have f:=hr y;rw[W] at f
 replace f:=fy f
 generalize C:ρ y=vy at f;cases f;have p:=hr z;rw[Q] at p
 replace p:=fy p
 generalize F:ρ z=vz at p;cases p;have r:=(J t I H).run_underlying (w:=st.w);rw[L] at r;have hb:(Instr.sliceBounds ab n cap (aa (.int A i)) (aa (.int u j)) (aa (.int v m))).run P st.w=.ok (i.toNat,j.toNat,m.toNat) st.w:=by
  simp[Instr.sliceBounds,run_sliceBound (P:=P) st.w v m cap _ (by omega) (by omega),run_sliceBound (P:=P) st.w u j m.toNat _ (by omega) (by omega),run_sliceBound (P:=P) st.w A i j.toNat _ (by omega) (by omega)]
 have R:(Instr.sliceBounds ab n cap (aa (.int A i)) (aa (.int u j)) (aa (.int v m))).events P st.w #[]=#[]:=by
  simp[Instr.sliceBounds,run_sliceBound (P:=P) st.w v m cap _ (by omega) (by omega),run_sliceBound (P:=P) st.w u j m.toNat _ (by omega) (by omega),run_sliceBound (P:=P) st.w A i j.toNat _ (by omega) (by omega),
   eF (P:=P) st.w v m cap _ (by omega) (by omega),eF (P:=P) st.w u j m.toNat _ (by omega) (by omega),eF (P:=P) st.w A i j.toNat _ (by omega) (by omega)]
 refine⟨.slice (if m.toNat=i.toNat then a else a.map (·.add (i.toNat*G.size))) (j.toNat-i.toNat) (m.toNat-i.toNat),?_,rfl,by simp[ay,h,K,B,C,F,Instr.sliceAt,r,Instr.slice,hb,R]⟩
 simp[ay,h,K,B,C,F,Instr.sliceAt,r,Instr.slice,hb,(J E G M).run_sizeOf]
end
section drop
variable {σ1 rest:List aV}{s:St}
def St.cut(s:St)(n:Nat):St:={ s with β:=s.β.take n }
def gx.drop{v:ak}{a:A}(r:gx (σ1++rest) s v a)(d:GX σ1.length a=ab):gx σ1 (s.cut σ1.length) v a:=by
 have lt:∀ {l:Nat},bo (l+1) σ1.length=ab->l<σ1.length:=λh=>db h
 cases a with
 |c x=>exact r
 |any=>exact r
 |ptr l o =>
  have hl:=lt d;obtain⟨f,L,b,j,g⟩:=r;refine⟨λB p=>f B (by grind),L,b,?_,g⟩
  simp only[St.cut,gQ,hl,cu];exact j
 |ref l =>
  have hl:=lt d;obtain⟨f,L,j,g⟩:=r;refine⟨λB p=>f B (by grind),L,?_,g⟩
  simp only[St.cut,gQ,hl,cu];exact j
 |bp l w =>
  have hl:=lt d;obtain⟨lv,f,_,g⟩:=r;refine⟨lv,f,hl,λE k' n' es' p=>?_⟩
  obtain⟨h1,h2⟩:=g E k' n' es' (by grind)
  refine⟨h1,λe=>?_⟩
  obtain⟨L,i,m⟩:=h2 e;refine⟨L,?_,m⟩;simp only[St.cut,gQ,hl,cu];exact i
 |vec l k n es =>
  have hl:=lt d;obtain⟨f,_,g⟩:=r;refine⟨f,hl,λE k' n' es' p=>?_⟩
  obtain⟨h1,h2⟩:=g E k' n' es' (by grind)
  refine⟨h1,λe=>?_⟩
  obtain⟨L,i,m⟩:=h2 e;refine⟨L,?_,m⟩;simp only[St.cut,gQ,hl,cu];exact i
def dW.uD:∀ {vs:List ak}{cs:List A},dW (σ1++rest) s vs cs->DU σ1.length cs=ab->dW σ1 (s.cut σ1.length) vs cs
 |[],[],_,_=>trivial
 |[],_::_,r,_=>r.elim
 |_::_,[],r,_=>r.elim
 |v::vs,c::cs,r,h=>by
  simp only[DU] at h;cases a:GX σ1.length c with
  |false=>grind
  |true=>simp only[a] at h;exact⟨r.1.drop a,dW.uD r.2 h⟩
def mY.uD{v:ak}{e:E1}(r:mY (σ1++rest) s v e)(h:Jr σ1.length e=ab):mY σ1 (s.cut σ1.length) v e:=by
 cases e with
 |one a=>exact gx.drop r h
 |agg cs=>obtain⟨vs,h1,h2⟩:=r;exact⟨vs,h1,dW.uD h2 h⟩
def gJ.uD:∀ {vs:List ak}{cs:List E1},gJ (σ1++rest) s vs cs->xG σ1.length cs=ab->gJ σ1 (s.cut σ1.length) vs cs
 |[],[],_,_=>trivial
 |[],_::_,r,_=>r.elim
 |_::_,[],r,_=>r.elim
 |v::vs,c::cs,r,h=>by
  simp only[xG] at h;cases a:Jr σ1.length c with
  |false=>grind
  |true=>simp only[a] at h;exact⟨mY.uD r.1 a,gJ.uD r.2 h⟩
def dc.drop{v:ak}{d:D}(r:dc (σ1++rest) s v d)(h:u7 σ1.length d=ab):dc σ1 (s.cut σ1.length) v d:=by
 cases d with
 |e x=>exact mY.uD r h
 |eK xs=>obtain⟨vs,h1,h2⟩:=r;exact⟨vs,h1,gJ.uD h2 h⟩
 |any=>trivial
def cD.drop{σ0:List aV}{s0:St}(st:cD σ0 s0 (σ1++rest) s)(a:σ0.length<=σ1.length):cD σ0 s0 σ1 (s.cut σ1.length):=by
 refine⟨st.size,st.eN,st.mem,st.jz,λL c b hb=>st.xC L (iK c) b hb,?_,st.os,st.tape,st.output,st.own⟩
 intro l B L d c;obtain⟨B',L',h1,h2,e⟩:=st.box l B L d c;have hl:l<σ1.length:=cG (cr.1 d).1 a;rw[jD hl] at h1;exact⟨B',L',h1,by simp only[St.cut,gQ,hl,cu];exact h2,e⟩
def gx.rS{σ:List aV}{v:ak}{a:A}(hl:s.β.length=σ.length)(r:gx σ s v a):GX σ.length a=ab:=by
 have ok:∀ {l:Nat},l<σ.length->bo (l+1) σ.length=ab:=λh=>qZ h
 have lt:∀ {l:Nat} {L:Loc},s.β[l]?=aa L->l<σ.length:=λh=>by grind
 cases a with
 |c x=>rfl
 |any=>rfl
 |ptr l o=>obtain⟨_,L,b,d,_⟩:=r;exact ok (lt d)
 |ref l=>obtain⟨_,L,d,_⟩:=r;exact ok (lt d)
 |bp l w=>obtain⟨lv,_,h,_⟩:=r;exact ok h
 |vec l k n es=>exact ok r.2.1
def dW.rS{σ:List aV}(hl:s.β.length=σ.length):∀ {vs:List ak}{cs:List A},dW σ s vs cs->DU σ.length cs=ab
 |[],[],_=>rfl
 |[],_::_,r=>r.elim
 |_::_,[],r=>r.elim
 |v::vs,c::cs,r=>by simp only[DU,r.1.rS hl];exact dW.rS hl r.2
def mY.rS{σ:List aV}(hl:s.β.length=σ.length){v:ak}{e:E1}(r:mY σ s v e):Jr σ.length e=ab:=by
 cases e with
 |one a=>exact gx.rS hl r
 |agg cs=>obtain⟨vs,_,h⟩:=r;exact dW.rS hl h
def gJ.rS{σ:List aV}(hl:s.β.length=σ.length):∀ {vs:List ak}{cs:List E1},gJ σ s vs cs->xG σ.length cs=ab
 |[],[],_=>rfl
 |[],_::_,r=>r.elim
 |_::_,[],r=>r.elim
 |v::vs,c::cs,r=>by simp only[xG,mY.rS hl r.1];exact gJ.rS hl r.2
def dc.rS{σ:List aV}(hl:s.β.length=σ.length){v:ak}{d:D}(r:dc σ s v d):u7 σ.length d=ab:=by
 cases d with
 |e x=>exact mY.rS hl r
 |eK xs=>obtain⟨vs,_,h⟩:=r;exact gJ.rS hl h
 |any=>rfl
def aJ.PQ{s0:St}{σ0:List aV}(m:aJ σ0 s0)(a:σ0.length=σ1.length)(y:∀ (l:Nat)(B:aV),σ1[l]?=aa B->(∃ E cs,B=.cells E cs/\DU σ1.length cs=ab)∨σ0[l]?=aa B)(h:aJ (σ1++rest) s):aJ σ1 (s.cut σ1.length):=by
 have hl:σ1.length<=s.β.length:=by rw[h.len];simp
 refine⟨h.mem,by simp[St.cut,hl],?_,?_,?_,λb hb=>⟨(h.own b hb).1,λL d=>(h.own b hb).2 L (iK d)⟩⟩
 .intro l B L u d;have j:l<σ1.length:=(cr.1 u).1;simp only[St.cut,gQ,j,cu] at d;have c:=h.box l B L (by grind) d
  have i:∃ p,s0.β[l]?=aa p:=⟨_,br (by rw[m.len,a];exact j)⟩
  obtain⟨p,i⟩:=i;have g:=(y l B u).imp_right λh=>m.box l B p h i
  have x:=m.len.trans a;cases B with
  |cells E cs =>
   obtain⟨b,vs,h1,h2,o,q⟩:=c;refine⟨b,vs,h1,h2,dW.uD o ?_,q⟩;rcases g with⟨_,_,e,g⟩|⟨_,_,_,_,g3,_⟩
   .grind
   .exact a▸g3.rS m.len
  |vec E k n es=>exact c
  |dD H=>exact c
  |dead=>trivial
  |loop N φ r =>
   obtain⟨l',tmps,fn,v,h1,h2,o,q,w⟩:=c;rcases g with⟨_,_,e,_⟩|⟨_,_,_,_,_,_,_,g4,_⟩
   .cases e
   .exact⟨l',tmps,fn,v,h1,h2,o,λt=>(q t).drop (a▸(g4 t).rS m.len),w⟩
  |qV=>exact c
  |buf E k n es=>exact c
 .intro l l' L L' d f b hb oO;simp only[St.cut,gQ] at d f;split at d <;> split at f <;> first|exact h.gg l l' L L' d f b hb oO|grind|grind
 .intro L d b hb;exact h.lt L (iK d) b hb
def aJ.T6{s0:St}(a:aJ σ1 s0)(h:aJ (σ1++rest) s):aJ σ1 (s.cut σ1.length):=a.PQ rfl (λ_ _ h=>.inr h) h
def OA.BE{P:aq}{X:Cx P}{N:Nat}{all:List aw}{o:aw}{φ:Fr}{σ:List aV}{E:ar}{k n:Nat}{es:Nat->List C}(h:OA X N all o φ σ (.e (.one (.vec σ.length k n es))) (σ++[.vec E k n es])):OA X N all o φ σ (.e (.one (.c (.sl ae k n es)))) σ:=by
 intro s a f hh b kk cs S i rest hb hi hK;refine h s a f hh b kk cs S i rest hb hi λv s' hv lb st=>?_
 have d:eR s' (s'.cut σ.length):=⟨rfl,λ_ _ _ h=>h,λ_ _ _=>rfl,lb.mem,λb hb=>hb.imp id λ⟨L,g,hb⟩=>⟨L,iK g,hb⟩⟩
 exact .ghost d (hK v (s'.cut σ.length) hv.1 (hh.T6 lb) (st.drop (bg _)))
end drop
end
end Go.AM
